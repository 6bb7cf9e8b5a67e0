import PyProof.Rows.All
import Wide.All
import OpenK.AllK
import Wide.FinOn
import HandS.ForMost
import HandS.Exc
import HandS.TryOnly
import HandS.ExcOwn
import HandS.WordsExc
import HandS.IsInst
import HandS.Zip
import HandS.Wide
import PyProof.NeData
import HandS.Iter
import HandS.TupAny
import HandS.TupLe
import HandS.SortInts
import HandS.WideBits
import HandS.WideMore
import HandS.Rev
import HandS.Conv
import HandS.Style
import HandS.Flow
import HandS.Dict
import HandS.WordsDict
import HandS.TupLen
import HandS.RevTup
import KE.KDictList
import HandS.Defaults
import HandS.HeadHook1
import HandS.HeadHook2
import HandS.TryMany
import HandS.ExcIs
import HandS.DictComp
import HandS.More
import HandS.Star
import HandS.Head0
import HandS.Head1
import HandS.Head2
import HandS.HeadEnd
import PySem.Challenge.RW_oncecodes_k44_whole_gates_and_fresh_word
set_option Elab.async false
set_option linter.all false
set_option maxRecDepth 100000
section
set_option maxHeartbeats 2000000
namespace Ev
open PySem PySem.Spec PyProof.Rows L2

/-! ### data, slots, results -/
inductive D where
  | non | bl (b : Bool) | int (i : Int) | str (x : Str)
  | tup (xs : List D) | lst (xs : List D) | fn (k : Nat) | scr (ns : List Int)
  | dK (ks : List Key) (xs : List D) | dT (ks : List (List Key)) (xs : List D)
  deriving Inhabited
/-- what a thing of one's own holds -/
inductive Ob where
  | lst (xs : List D) | dK (ks : List Key) (xs : List D) | dT (ks : List (List Key)) (xs : List D)
instance : Coe (List D) Ob := ⟨.lst⟩
def Ob.d : Ob → D
  | .lst xs => .lst xs
  | .dK ks xs => .dK ks xs
  | .dT ks xs => .dT ks xs

/-- a name's place: nothing; a value that stays; a list of its own that may grow (io: the caller's) -/
inductive Sl where
  | un | va (d : D) | ow (io : Bool) (xs : Ob)

abbrev En := List Sl
abbrev Sg := L2.St

inductive R (α : Type) where
  | ok (a : α) (ρ : En) | err (x : Nat) (ρ : En) | bad

def R.bind {α β : Type} : R α → (α → En → R β) → R β
  | .ok a ρ, f => f a ρ
  | .err x ρ, _ => .err x ρ
  | .bad, _ => .bad

@[simp] theorem R.bind_ok {α β : Type} (a : α) (ρ : En) (f : α → En → R β) : (R.ok a ρ).bind f = f a ρ := (rfl)
@[simp] theorem R.bind_err {α β : Type} (x : Nat) (ρ : En) (f : α → En → R β) : (R.err x ρ : R α).bind f = .err x ρ := (rfl)
@[simp] theorem R.bind_bad {α β : Type} (f : α → En → R β) : (R.bad : R α).bind f = .bad := (rfl)

/-- the law's own constants: the written part, where the defs stand, where the classes of errors stand -/
structure Cn where
  K : PySem.W.Frag
  A : Nat → Addr
  C : Nat → Addr

mutual
inductive Rep (c : Cn) (H : Hp) : V → D → Prop
  | non : Rep c H .non .non
  | bl (b : Bool) : Rep c H (.bl b) (.bl b)
  | int (i : Int) : Rep c H (.int i) (.int i)
  | str (x : Str) : Rep c H (.str x) (.str x)
  | tup {a : Addr} {vs : List V} {ds : List D} : H a = some (.tup vs) → Reps c H vs ds → Rep c H (.ref a) (.tup ds)
  | lst {a : Addr} {vs : List V} {ds : List D} : H a = some (.lst vs) → Reps c H vs ds → Rep c H (.ref a) (.lst ds)
  | fn (k : Nat) : Rep c H (.ref (c.A k)) (.fn k)
  | scr {a : Addr} {ns : List Int} : SqL c.K H a (ns.map V.int) → Rep c H (.ref a) (.scr ns)
  | dK {a : Addr} {o : Obj} {kvs : List (Key × V)} {ds : List D} : H a = some (.frz o (.dK kvs)) → Reps c H (kvs.map (·.2)) ds → Rep c H (.ref a) (.dK (kvs.map (·.1)) ds)
  | dT {a : Addr} {o : Obj} {kvs : List (List Key × V)} {ds : List D} : H a = some (.frz o (.dT kvs)) → Reps c H (kvs.map (·.2)) ds → Rep c H (.ref a) (.dT (kvs.map (·.1)) ds)
inductive Reps (c : Cn) (H : Hp) : List V → List D → Prop
  | nil : Reps c H [] []
  | cons {v : V} {vs : List V} {d : D} {ds : List D} : Rep c H v d → Reps c H vs ds → Reps c H (v :: vs) (d :: ds)
end

theorem Same.seqT {K : PySem.W.Frag} {H H' : Hp} {a : Addr} {xs : List V} (e : Same H H') (h : SqT K H a xs) : SqT K H' a xs := by
  rcases h with (h | ⟨o, h⟩) | h
  · exact .inl (.inl (e _ _ h))
  · exact .inl (.inr ⟨o, e _ _ h⟩)
  · exact .inr h

section
variable {c : Cn} {H H' : Hp}
mutual
theorem Rep.mono (s : Same H H') : ∀ {v : V} {d : D}, Rep c H v d → Rep c H' v d
  | _, _, .non => .non
  | _, _, .bl b => .bl b
  | _, _, .int i => .int i
  | _, _, .str x => .str x
  | _, _, .tup h r => .tup (s _ _ h) (Reps.mono s r)
  | _, _, .lst h r => .lst (s _ _ h) (Reps.mono s r)
  | _, _, .fn k => .fn k
  | _, _, .scr h => .scr (s.seq h)
  | _, _, .dK h r => .dK (s _ _ h) (Reps.mono s r)
  | _, _, .dT h r => .dT (s _ _ h) (Reps.mono s r)
theorem Reps.mono (s : Same H H') : ∀ {vs : List V} {ds : List D}, Reps c H vs ds → Reps c H' vs ds
  | _, _, .nil => .nil
  | _, _, .cons h r => .cons (Rep.mono s h) (Reps.mono s r)
end
theorem Reps.length : ∀ {vs : List V} {ds : List D}, Reps c H vs ds → vs.length = ds.length
  | _, _, .nil => rfl
  | _, _, .cons _ r => by rw [List.length_cons, List.length_cons, r.length]
theorem Reps.get : ∀ {vs : List V} {ds : List D} {i : Nat} {d : D}, Reps c H vs ds → ds[i]? = some d → ∃ v, vs[i]? = some v ∧ Rep c H v d
  | _, _, _, _, .nil, e => by simp at e
  | _, _, 0, _, .cons h _, e => by simp at e; subst e; exact ⟨_, rfl, h⟩
  | _, _, i + 1, d, .cons _ r, e => by
    obtain ⟨v, e1, h⟩ := Reps.get (i := i) (d := d) r (by simpa using e)
    exact ⟨v, by simpa using e1, h⟩
theorem Reps.getV : ∀ {vs : List V} {ds : List D} {i : Nat} {v : V}, Reps c H vs ds → vs[i]? = some v → ∃ d, ds[i]? = some d ∧ Rep c H v d
  | _, _, _, _, .nil, e => by simp at e
  | _, _, 0, _, .cons h _, e => by simp at e; subst e; exact ⟨_, rfl, h⟩
  | _, _, i + 1, d, .cons _ r, e => by
    obtain ⟨v, e1, h⟩ := Reps.getV (i := i) (v := d) r (by simpa using e)
    exact ⟨v, by simpa using e1, h⟩
theorem Reps.append : ∀ {vs : List V} {ds : List D} {us : List V} {es : List D}, Reps c H vs ds → Reps c H us es → Reps c H (vs ++ us) (ds ++ es)
  | _, _, _, _, .nil, s => s
  | _, _, _, _, .cons h r, s => .cons h (Reps.append r s)
theorem Reps.take : ∀ {vs : List V} {ds : List D} (n : Nat), Reps c H vs ds → Reps c H (vs.take n) (ds.take n)
  | _, _, 0, _ => .nil
  | _, _, _ + 1, .nil => .nil
  | _, _, n + 1, .cons h r => .cons h (Reps.take n r)
theorem Reps.drop : ∀ {vs : List V} {ds : List D} (n : Nat), Reps c H vs ds → Reps c H (vs.drop n) (ds.drop n)
  | _, _, 0, r => r
  | _, _, _ + 1, .nil => .nil
  | _, _, n + 1, .cons _ r => Reps.drop n r
theorem Reps.set : ∀ {vs : List V} {ds : List D} {v : V} {d : D} (i : Nat), Rep c H v d → Reps c H vs ds → Reps c H (vs.set i v) (ds.set i d)
  | _, _, _, _, _, _, .nil => .nil
  | _, _, _, _, 0, h, .cons _ r => .cons h r
  | _, _, _, _, i + 1, h, .cons h' r => .cons h' (Reps.set i h r)
theorem Reps.erase : ∀ {vs : List V} {ds : List D} (i : Nat), Reps c H vs ds → Reps c H (vs.eraseIdx i) (ds.eraseIdx i)
  | _, _, _, .nil => .nil
  | _, _, 0, .cons _ r => r
  | _, _, i + 1, .cons h r => .cons h (Reps.erase i r)
theorem Reps.dropLast {vs : List V} {ds : List D} (r : Reps c H vs ds) : Reps c H vs.dropLast ds.dropLast := by
  rw [List.dropLast_eq_take, List.dropLast_eq_take, r.length]
  exact r.take _
theorem Reps.reverse : ∀ {vs : List V} {ds : List D}, Reps c H vs ds → Reps c H vs.reverse ds.reverse
  | _, _, .nil => .nil
  | _, _, .cons h r => by rw [List.reverse_cons, List.reverse_cons]; exact (Reps.reverse r).append (.cons h .nil)
theorem Reps.rep {vs : List V} {ds : List D} (r : Reps c H vs ds) : ∀ k : Nat, Reps c H (List.replicate k vs).flatten (List.replicate k ds).flatten
  | 0 => .nil
  | k + 1 => by rw [List.replicate_succ, List.replicate_succ, List.flatten_cons, List.flatten_cons]; exact r.append (r.rep k)
end

/-- a thing of one's own: what stands there holds that -/
def ObR (c : Cn) (H : Hp) : HO → Ob → Prop
  | .lst vs, .lst ds => Reps c H vs ds
  | .dK kvs, .dK ks ds => kvs.map (·.1) = ks ∧ Reps c H (kvs.map (·.2)) ds
  | .dT kvs, .dT ks ds => kvs.map (·.1) = ks ∧ Reps c H (kvs.map (·.2)) ds
  | _, _ => False
theorem ObR.mono {c : Cn} {H H' : Hp} (s : Same H H') {o : HO} {b : Ob} (r : ObR c H o b) : ObR c H' o b := by
  cases b <;> cases o <;> first | exact r.elim | exact Reps.mono s r | exact ⟨r.1, Reps.mono s r.2⟩
theorem ObR.lst {c : Cn} {H : Hp} {o : HO} {xs : List D} (r : ObR c H o (.lst xs)) : ∃ vs, o = .lst vs ∧ Reps c H vs xs := by
  cases o <;> first | exact r.elim | exact ⟨_, rfl, r⟩
@[simp] def D.isOb : D → Bool
  | .lst _ => true
  | .dK _ _ => true
  | .dT _ _ => true
  | _ => false
theorem Ob.is (b : Ob) : b.d.isOb = true := by cases b <;> rfl
/-- let go of: it is a value from now on -/
theorem ObR.rep {c : Cn} {H : Hp} {p : Addr} {o : HO} {xs : List D} (r : ObR c H o (.lst xs)) (h : H p = some o) : Rep c H (.ref p) (.lst xs) := by
  obtain ⟨vs, rfl, r⟩ := r.lst
  exact .lst h r
/-- a dict is let go of: it is locked -/
theorem ObR.repD {c : Cn} {H : Hp} {p : Addr} {o : HO} {od : Obj} {b : Ob} (r : ObR c H o b) (nb : ∀ xs, b ≠ .lst xs) (h : H p = some (.frz od o)) : Rep c H (.ref p) b.d ∧ L2.Mut (some o) := by
  cases b <;> cases o <;> first | exact r.elim | exact absurd rfl (nb _) | (obtain ⟨rfl, r⟩ := r; exact ⟨.dK h r, trivial⟩) | (obtain ⟨rfl, r⟩ := r; exact ⟨.dT h r, trivial⟩)
/-- no tuple: tuples never change, whoever holds them -/
def NT : HO → Prop
  | .tup _ => False
  | _ => True
theorem ObR.nt {c : Cn} {H : Hp} {o : HO} {b : Ob} (r : ObR c H o b) : NT o := by
  cases b <;> cases o <;> first | exact r.elim | trivial
/-! ### the state -/
def SlRel (c : Cn) (pin : Addr) (Z Hf H : Hp) (o : Option (Option V)) : Sl → Prop
  | .un => True
  | .va d => ∃ v, o = some (some v) ∧ Rep c Hf v d
  | .ow io ds => ∃ p ho, o = some (some (.ref p)) ∧ H p = some ho ∧ Hf p = none ∧ Z p = none ∧ ObR c Hf ho ds ∧ (io = true → p = pin)

/-- Z: what stands still and is not spoken of; Hf: what stands still and is spoken of -/
structure SR (c : Cn) (pin : Addr) (Z : Hp) (ρ : En) (σ : Sg) (H Hf : Hp) : Prop where
  z : Same Z H
  f : Same Hf H
  dj : ∀ a o, Z a = some o → NT o → Hf a = none
  len : ρ.length = σ.length
  sl : ∀ (i : Nat) (s : Sl), ρ[i]? = some s → SlRel c pin Z Hf H σ[i]? s
  ap : ∀ (i j : Nat) (io io' : Bool) (xs ys : Ob) (p : Addr), i ≠ j → ρ[i]? = some (.ow io xs) → ρ[j]? = some (.ow io' ys) → σ[i]? = some (some (.ref p)) → σ[j]? = some (some (.ref p)) → False

/-- p is no list of its own of a name -/
def Away (ρ : En) (σ : Sg) (p : Addr) : Prop := ∀ (i : Nat) (io : Bool) (xs : Ob), ρ[i]? = some (.ow io xs) → σ[i]? ≠ some (some (.ref p))

section
variable {c : Cn} {pin : Addr} {Z : Hp} {ρ : En} {σ : Sg} {H H' Hf Hf' : Hp}
theorem SR.away_new (S : SR c pin Z ρ σ H Hf) {p : Addr} (n : H p = none) : Away ρ σ p := fun i io xs e q => by
  obtain ⟨p', vs, e1, e2, _⟩ := S.sl i _ e
  rw [q] at e1
  cases e1
  rw [n] at e2
  cases e2
/-- the heap grows (or changes away from the lists of its own), what is spoken of grows -/
theorem SR.grow (S : SR c pin Z ρ σ H Hf) (hz : Same Z H') (hf : Same Hf' H') (ff : Same Hf Hf') (dj : ∀ a o, Z a = some o → NT o → Hf' a = none)
    (ow : ∀ (i : Nat) (io : Bool) (xs : Ob) (p : Addr) (vs : HO), ρ[i]? = some (.ow io xs) → σ[i]? = some (some (.ref p)) → H p = some vs → NT vs → Hf p = none → H' p = some vs ∧ Hf' p = none) : SR c pin Z ρ σ H' Hf' := by
  refine ⟨hz, hf, dj, S.len, fun i s e => ?_, S.ap⟩
  have q := S.sl i s e
  cases s with
  | un => trivial
  | va d => obtain ⟨v, e1, r⟩ := q; exact ⟨v, e1, r.mono ff⟩
  | ow io ds =>
    obtain ⟨p, vs, e1, e2, e3, e4, r, pn⟩ := q
    obtain ⟨g1, g2⟩ := ow i io ds p vs e e1 e2 r.nt e3
    exact ⟨p, vs, e1, g1, g2, e4, r.mono ff, pn⟩
/-- a new object, not spoken of -/
theorem Same.new {H : Hp} {p : Addr} {o : HO} (n : H p = none) : Same H (upd H p o) := fun b u e => by
  rw [upd_ne (ne_of_none e n)]; exact e
theorem SR.new (S : SR c pin Z ρ σ H Hf) {p : Addr} {o : HO} (n : H p = none) : SR c pin Z ρ σ (upd H p o) Hf := by
  refine S.grow (S.z.trans (Same.new n)) (S.f.trans (Same.new n)) (Same.refl _) S.dj fun i io xs q vs _ _ e _ f => ⟨?_, f⟩
  exact Same.new n _ _ e
/-- an object that stands and is nobody's becomes spoken of -/
theorem SR.speak (S : SR c pin Z ρ σ H Hf) {p : Addr} {o : HO} (h : H p = some o) (hf : Hf p = none) (hz : Z p = none) (aw : Away ρ σ p) : SR c pin Z ρ σ H (upd Hf p o) ∧ Same Hf (upd Hf p o) := by
  have ss : Same Hf (upd Hf p o) := Same.new hf
  refine ⟨S.grow S.z (fun b u e => ?_) ss (fun a u e ne => ?_) fun i io xs q vs e1 e2 e _ f => ⟨e, ?_⟩, ss⟩
  · by_cases hb : b = p
    · subst hb; rw [upd_same] at e; cases e; exact h
    · rw [upd_ne hb] at e; exact S.f _ _ e
  · have : a ≠ p := fun z => by subst z; rw [hz] at e; cases e
    rw [upd_ne this]; exact S.dj _ _ e ne
  · have : q ≠ p := fun z => by subst z; exact aw i io xs e1 e2
    rw [upd_ne this]; exact f
/-- a tuple that stands becomes spoken of -/
theorem SR.speakT (S : SR c pin Z ρ σ H Hf) {p : Addr} {us : List V} (h : H p = some (.tup us)) : ∃ Hf', Same Hf Hf' ∧ SR c pin Z ρ σ H Hf' ∧ Hf' p = some (.tup us) := by
  cases q : Hf p with
  | some o =>
    have := S.f _ _ q
    rw [h] at this
    cases this
    exact ⟨Hf, Same.refl _, S, q⟩
  | none =>
    have ss : Same Hf (upd Hf p (.tup us)) := Same.new q
    refine ⟨_, ss, S.grow S.z (fun b u e => ?_) ss (fun a u e ne => ?_) fun i io xs q vs e1 e2 e nt f => ⟨e, ?_⟩, upd_same⟩
    · by_cases hb : b = p
      · subst hb; rw [upd_same] at e; cases e; exact h
      · rw [upd_ne hb] at e; exact S.f _ _ e
    · have : a ≠ p := fun z => by
        subst z
        have := S.z _ _ e
        rw [h] at this
        cases this
        exact ne.elim
      rw [upd_ne this]; exact S.dj _ _ e ne
    · have : q ≠ p := fun z => by
        subst z
        rw [h] at e
        cases e
        exact nt.elim
      rw [upd_ne this]; exact f
/-- a new object, spoken of -/
theorem SR.newS (S : SR c pin Z ρ σ H Hf) {p : Addr} {o : HO} (n : H p = none) : SR c pin Z ρ σ (upd H p o) (upd Hf p o) ∧ Same Hf (upd Hf p o) := by
  have nz : Z p = none := S.z.free n
  have nf : Hf p = none := S.f.free n
  exact (S.new n).speak upd_same nf nz (S.away_new n)
end

/-! ### readings -/
abbrev Rel (α β : Type) := Hp → En → Sg → Hp → Hp → β → α → Prop
def Go {α β : Type} (c : Cn) (pin : Addr) (Z : Hp) (W : WX) (σ : Sg) (Hf : Hp) (rel : Rel α β) (r : R α) (Q : β → Hp → Prop) : Prop :=
  match r with
  | .ok a ρ => ∀ b H Hf', Same Hf Hf' → SR c pin Z ρ σ H Hf' → rel Z ρ σ Hf' H b a → Q b H
  | .err x ρ => ∀ H Hf', Same Hf Hf' → SR c pin Z ρ σ H Hf' → W (.ref (c.C x)) none σ H
  | .bad => False
abbrev relD (c : Cn) : Rel D V := fun _ _ _ Hf _ v d => Rep c Hf v d
abbrev relDs (c : Cn) : Rel (List D) (List V) := fun _ _ _ Hf _ vs ds => Reps c Hf vs ds
abbrev relB : Rel Bool Bool := fun _ _ _ _ _ b b' => b = b'
/-- a new list at p that nobody holds -/
def relF (c : Cn) : Rel (List D) V := fun Z ρ σ Hf H v ds => ∃ p vs, v = .ref p ∧ H p = some (.lst vs) ∧ Hf p = none ∧ Z p = none ∧ Away ρ σ p ∧ Reps c Hf vs ds
/-- a value that is only looked at: spoken of, or the list of its own of a name -/
def relL (c : Cn) : Rel D V := fun _ _ _ Hf H v d => Rep c Hf v d ∨ ∃ p ho b, v = .ref p ∧ d = Ob.d b ∧ H p = some ho ∧ ObR c Hf ho b

def tG {α β : Type} (c : Cn) (W : WX) (rel : Rel α β) (f : En → R α) : Sg → Hp → (β → Hp → Prop) → Prop := fun σ H Q =>
  ∃ pin Z ρ Hf, SR c pin Z ρ σ H Hf ∧ Go c pin Z W σ Hf rel (f ρ) Q
abbrev tE (c : Cn) (W : WX) (f : En → R D) : TE := tG c W (relD c) f
abbrev tF (c : Cn) (W : WX) (f : En → R (List D)) : TE := tG c W (relF c) f
abbrev tL (c : Cn) (W : WX) (f : En → R D) : TE := tG c W (relL c) f
abbrev tA (c : Cn) (W : WX) (f : En → R (List D)) : TA := tG c W (relDs c) f
abbrev tT (c : Cn) (W : WX) (f : En → R Bool) : TT := tG c W relB f

section
variable {c : Cn} {pin : Addr} {Z : Hp} {W : WX} {σ : Sg} {H Hf Hf' : Hp} {α β γ δ : Type} {rel : Rel α β} {rel' : Rel γ δ}
theorem Go.mono {r : R α} {Q : β → Hp → Prop} (s : Same Hf Hf') (g : Go c pin Z W σ Hf rel r Q) : Go c pin Z W σ Hf' rel r Q := by
  cases r with
  | ok a ρ => exact fun b H Hf'' s' => g b H Hf'' (s.trans s')
  | err x ρ => exact fun H Hf'' s' => g H Hf'' (s.trans s')
  | bad => exact g
theorem Go.imp {r : R α} {Q Q' : β → Hp → Prop} (g : Go c pin Z W σ Hf rel r Q) (h : ∀ b H, Q b H → Q' b H) : Go c pin Z W σ Hf rel r Q' := by
  cases r with
  | ok a ρ => exact fun b H Hf'' s' S e => h _ _ (g b H Hf'' s' S e)
  | err x ρ => exact g
  | bad => exact g
/-- in sequence -/
theorem Go.seq {r : R α} {k : α → En → R γ} {Q : δ → Hp → Prop} {Q1 : β → Hp → Prop} (g : Go c pin Z W σ Hf rel' (r.bind k) Q)
    (h : ∀ a ρ1 b H1 Hf1, Same Hf Hf1 → SR c pin Z ρ1 σ H1 Hf1 → rel Z ρ1 σ Hf1 H1 b a → Go c pin Z W σ Hf1 rel' (k a ρ1) Q → Q1 b H1) : Go c pin Z W σ Hf rel r Q1 := by
  cases r with
  | ok a ρ => exact fun b H Hf'' s' S e => h a ρ b H Hf'' s' S e (Go.mono s' g)
  | err x ρ => exact g
  | bad => exact g
/-- the first part of what is read in sequence -/
theorem tG.seq {f : En → R α} {k : α → En → R γ} {Q : δ → Hp → Prop} {Q1 : β → Hp → Prop} (g : tG c W rel' (fun ρ => (f ρ).bind k) σ H Q)
    (h : ∀ pin Z a ρ1 b H1 Hf1, SR c pin Z ρ1 σ H1 Hf1 → rel Z ρ1 σ Hf1 H1 b a → Go c pin Z W σ Hf1 rel' (k a ρ1) Q → Q1 b H1) : tG c W rel f σ H Q1 := by
  obtain ⟨pin, Z, ρ, Hf, S, g⟩ := g
  exact ⟨pin, Z, ρ, Hf, S, Go.seq g fun a ρ1 b H1 Hf1 _ S1 r1 g1 => h pin Z a ρ1 b H1 Hf1 S1 r1 g1⟩
end

/-! ### readings that ask less -/
section
variable {X : Cx}
theorem pe_of {e : Expr} {t t' : TE} (h : PE X e t) (i : ∀ σ H Q, t' σ H Q → t σ H Q) : PE X e t' := ⟨fun pins s σ H Q I q => h.run pins s σ H Q I (i σ H Q q)⟩
theorem pt_of {e : Expr} {t t' : TT} (h : PT X e t) (i : ∀ σ H Q, t' σ H Q → t σ H Q) : PT X e t' := ⟨fun pins s σ H Q I q => h.run pins s σ H Q I (i σ H Q q)⟩
theorem pa_of {es : List Expr} {t t' : TA} (h : PA X es t) (i : ∀ σ H Q, t' σ H Q → t σ H Q) : PA X es t' := ⟨fun pos pins s σ H Q I q => h.run pos pins s σ H Q I (i σ H Q q)⟩
theorem ps_of {st : Stmt} {t t' : TS} (h : PS X st t) (i : ∀ D σ H, t' D σ H → t D σ H) : PS X st t' := ⟨fun pins s σ H D I q => h.run pins s σ H D I (i D σ H q)⟩
theorem pss_of {st : List Stmt} {t t' : TS} (h : PSs X st t) (i : ∀ D σ H, t' D σ H → t D σ H) : PSs X st t' := ⟨fun pins s σ H D I q => h.run pins s σ H D I (i D σ H q)⟩
/-- lists and tuples that are tracked are not too long -/
def Small (H : Hp) : Prop := ∀ a xs, (Rd H a (.lst xs) ∨ Rd H a (.tup xs)) → xs.length ≤ sizeLine
theorem Small.of {P : Program} {w : World} {H : Hp} {h : Heap} (x : HOk P w H h) : Small H := fun a xs e => by
  rcases e with e | e
  · obtain ⟨z, _⟩ := e.ok x; exact z
  · obtain ⟨z, _⟩ := e.ok x; exact z
theorem Small.sqT {K : PySem.W.Frag} {H : Hp} {a : Addr} {xs : List V} (s : Small H) (h : SqT K H a xs) : xs.length ≤ sizeLine := by
  rcases h with h | ⟨o, its, n, _, _, _, hz, r⟩
  · exact s a xs (.inr h)
  · have e := r.length
    simp only [Array.length_toList] at e
    omega
theorem Small.sqL {K : PySem.W.Frag} {H : Hp} {a : Addr} {xs : List V} (s : Small H) (h : SqL K H a xs) : xs.length ≤ sizeLine := by
  rcases h with h | ⟨o, its, n, _, _, _, _, hz, r⟩
  · exact s a xs (.inl h)
  · have e := r.length
    simp only [Array.length_toList] at e
    omega
end
end Ev

end
section
set_option maxHeartbeats 2000000
namespace Ev
open PySem PySem.Spec PyProof.Rows L2
open PySem.SeqAt

mutual
/-- == of data -/
def eqD : D → D → Bool
  | .non, .non => true
  | .bl a, .bl b => a == b
  | .bl a, .int j => (if a then 1 else 0) == j
  | .int i, .bl b => i == (if b then 1 else 0)
  | .int i, .int j => i == j
  | .str x, .str y => x == y
  | .lst xs, .lst ys => eqDs xs ys
  | .tup xs, .tup ys => eqDs xs ys
  | _, _ => false
def eqDs : List D → List D → Bool
  | [], [] => true
  | x :: xs, y :: ys => eqD x y && eqDs xs ys
  | _, _ => false
end
/-- data that == asks, at most n deep -/
def shp : Nat → D → Bool
  | _, .non => true
  | _, .bl _ => true
  | _, .int _ => true
  | _, .str _ => true
  | 0, .tup xs => xs.isEmpty
  | 0, .lst xs => xs.isEmpty
  | n + 1, .tup xs => xs.all (shp n)
  | n + 1, .lst xs => xs.all (shp n)
  | _, .fn _ => false
  | _, .scr _ => false
  | _, .dK _ _ => false
  | _, .dT _ _ => false

mutual
inductive RdD (h : Heap) : Value → D → Prop
  | non : RdD h .none .non
  | bl (b : Bool) : RdD h (.bool b) (.bl b)
  | int (i : Int) (t : Tok) : RdD h (.int i t) (.int i)
  | str (x : Str) (t : Tok) : RdD h (.str x t) (.str x)
  | lst {l : Addr} {vs : Array Value} {ds : List D} : h.IsList l vs → RdDs h vs.toList ds → RdD h (.ref l) (.lst ds)
  | tup {l : Addr} {vs : Array Value} {ds : List D} : h.IsTuple l vs → RdDs h vs.toList ds → RdD h (.ref l) (.tup ds)
inductive RdDs (h : Heap) : List Value → List D → Prop
  | nil : RdDs h [] []
  | cons {v : Value} {vs : List Value} {d : D} {ds : List D} : RdD h v d → RdDs h vs ds → RdDs h (v :: vs) (d :: ds)
end
theorem RdDs.length {h : Heap} : ∀ {vs : List Value} {ds : List D}, RdDs h vs ds → vs.length = ds.length
  | _, _, .nil => rfl
  | _, _, .cons _ r => by rw [List.length_cons, List.length_cons, r.length]
theorem isList_fun {h : Heap} {l : Addr} {vs ws : Array Value} (a : h.IsList l vs) (b : h.IsList l ws) : vs = ws := by
  obtain ⟨o, e, _, n, d⟩ := a
  obtain ⟨o', e', _, n', d'⟩ := b
  rw [e] at e'; cases e'
  rw [d] at d'; injection d'
theorem isTuple_fun {h : Heap} {l : Addr} {vs ws : Array Value} (a : h.IsTuple l vs) (b : h.IsTuple l ws) : vs = ws := by
  obtain ⟨o, e, _, n, d⟩ := a
  obtain ⟨o', e', _, n', d'⟩ := b
  rw [e] at e'; cases e'
  rw [d] at d'; injection d'
theorem isListTuple {h : Heap} {l : Addr} {vs ws : Array Value} (a : h.IsList l vs) (b : h.IsTuple l ws) : False := by
  obtain ⟨o, e, c, n, d⟩ := a
  obtain ⟨o', e', c', n', d'⟩ := b
  rw [e] at e'; cases e'
  rw [c] at c'
  exact absurd c' (by decide)
mutual
theorem RdD.fun {h : Heap} : ∀ {v : Value} {d e : D}, RdD h v d → RdD h v e → d = e
  | _, _, _, .non, b => by cases b; rfl
  | _, _, _, .bl _, b => by cases b; rfl
  | _, _, _, .int _ _, b => by cases b; rfl
  | _, _, _, .str _ _, b => by cases b; rfl
  | _, _, _, .lst h1 r1, b => by
    cases b with
    | lst h2 r2 => rw [← isList_fun h1 h2] at r2; rw [RdDs.fun r1 r2]
    | tup h2 r2 => exact (isListTuple h1 h2).elim
  | _, _, _, .tup h1 r1, b => by
    cases b with
    | tup h2 r2 => rw [← isTuple_fun h1 h2] at r2; rw [RdDs.fun r1 r2]
    | lst h2 r2 => exact (isListTuple h2 h1).elim
theorem RdDs.fun {h : Heap} : ∀ {vs : List Value} {ds es : List D}, RdDs h vs ds → RdDs h vs es → ds = es
  | _, _, _, .nil, b => by cases b; rfl
  | _, _, _, .cons a r, b => by
    cases b with
    | cons a' r' => rw [RdD.fun a a', RdDs.fun r r']
end
mutual
theorem eqD_refl : ∀ (n : Nat) (d : D), shp n d = true → eqD d d = true
  | _, .non, _ => rfl
  | _, .bl b, _ => by simp [eqD]
  | _, .int i, _ => by simp [eqD]
  | _, .str x, _ => by simp [eqD]
  | n, .dK _ _, h => by cases n <;> cases h
  | n, .dT _ _, h => by cases n <;> cases h
  | 0, .tup xs, h => by cases xs with | nil => rfl | cons => cases h
  | 0, .lst xs, h => by cases xs with | nil => rfl | cons => cases h
  | n + 1, .tup xs, h => by rw [eqD]; exact eqDs_refl n xs h
  | n + 1, .lst xs, h => by rw [eqD]; exact eqDs_refl n xs h
  | n, .fn _, h => by cases n <;> cases h
  | n, .scr _, h => by cases n <;> cases h
theorem eqDs_refl : ∀ (n : Nat) (ds : List D), ds.all (shp n) = true → eqDs ds ds = true
  | _, [], _ => rfl
  | n, d :: ds, h => by
    rw [List.all_cons, Bool.and_eq_true] at h
    rw [eqDs, eqD_refl n d h.1, eqDs_refl n ds h.2]; rfl
end
def pEq (xs ys : List D) (j : Nat) : Bool := eqD (xs.getD j .non) (ys.getD j .non)
theorem eqDs_eq : ∀ xs ys : List D, ((List.range (min xs.length ys.length)).all (pEq xs ys) && xs.length == ys.length) = eqDs xs ys
  | [], [] => rfl
  | [], _ :: _ => by simp [eqDs]
  | _ :: _, [] => by simp [eqDs]
  | x :: xs, y :: ys => by
    have ih := eqDs_eq xs ys
    have e1 : min (x :: xs).length (y :: ys).length = min xs.length ys.length + 1 := by simp only [List.length_cons]; omega
    have e2 : ((x :: xs).length == (y :: ys).length) = (xs.length == ys.length) := by simp
    have e3 : (List.range (min xs.length ys.length + 1)).all (pEq (x :: xs) (y :: ys)) = (eqD x y && (List.range (min xs.length ys.length)).all (pEq xs ys)) := by
      rw [List.range_succ_eq_map, List.all_cons, List.all_map]
      first | rfl | simp [pEq, Function.comp_def]
    rw [e1, e2, e3, eqDs, ← ih, Bool.and_assoc]
theorem eqDs_same {xs ys : List D} (h : xs.length = ys.length) : (List.range xs.length).all (pEq xs ys) = eqDs xs ys := by
  have := eqDs_eq xs ys
  rw [← h, Nat.min_self] at this
  simpa using this
theorem eqDs_other {xs ys : List D} (h : xs.length ≠ ys.length) : eqDs xs ys = false := by
  rw [← eqDs_eq xs ys]; simp [h]

mutual
theorem eqAtD : ∀ (n : Nat) (a b : D) (A : Around) (s : Shared) (u v : Value), RdD s.heap u a → RdD s.heap v b → shp n a = true → shp n b = true → A.units + n < cLine → EqAt A s u v (eqD a b) := by
  intro n a b A s u v ra rb sa sb hu0
  have hu : A.units < cLine := by omega
  have eqat_list : ∀ {l l' : Addr} {vs vs' : Array Value} {xs ys : List D}, s.heap.IsList l vs → RdDs s.heap vs.toList xs → s.heap.IsList l' vs' → RdDs s.heap vs'.toList ys → shp n (.lst xs) = true → shp n (.lst ys) = true → EqAt A s (.ref l) (.ref l') (eqDs xs ys) := by
    intro l l' vs vs' xs ys hl1 rs1 hl2 rs2 sa sb
    have n1 : vs.size = xs.length := by have := rs1.length; simpa using this
    have n2 : vs'.size = ys.length := by have := rs2.length; simpa using this
    by_cases hll : l = l'
    · subst hll
      have e := isList_fun hl1 hl2
      subst e
      have e := RdDs.fun rs1 rs2
      subst e
      have : eqDs xs xs = true := by have := eqD_refl n (.lst xs) sa; simpa [eqD] using this
      rw [this]
      exact EqAt.same _
    · by_cases hsz : vs.size = vs'.size
      · rw [← eqDs_same (by omega : xs.length = ys.length), ← n1]
        refine EqAt.of_refs hll (RcAt.lists hl1 hl2 hsz hu fun j j1 j2 => ?_)
        cases n with
        | zero =>
          cases xs with
          | nil => rw [List.length_nil] at n1; exact absurd j1 (by omega)
          | cons => cases sa
        | succ m =>
          have := eqAtDs m xs ys A.in1 s vs.toList vs'.toList rs1 rs2 sa sb (show A.units + 1 + m < cLine by omega) j (by simpa using j1) (by simpa using j2)
          simpa using this
      · rw [eqDs_other (by omega : xs.length ≠ ys.length)]
        exact EqAt.of_refs hll (RcAt.lists_lengths hl1 hl2 (by simpa using hsz) hu)
  have eqat_tuple : ∀ {l l' : Addr} {vs vs' : Array Value} {xs ys : List D}, s.heap.IsTuple l vs → RdDs s.heap vs.toList xs → s.heap.IsTuple l' vs' → RdDs s.heap vs'.toList ys → shp n (.tup xs) = true → shp n (.tup ys) = true → EqAt A s (.ref l) (.ref l') (eqDs xs ys) := by
    intro l l' vs vs' xs ys hl1 rs1 hl2 rs2 sa sb
    have n1 : vs.size = xs.length := by have := rs1.length; simpa using this
    have n2 : vs'.size = ys.length := by have := rs2.length; simpa using this
    by_cases hll : l = l'
    · subst hll
      have e := isTuple_fun hl1 hl2
      subst e
      have e := RdDs.fun rs1 rs2
      subst e
      have : eqDs xs xs = true := by have := eqD_refl n (.tup xs) sa; simpa [eqD] using this
      rw [this]
      exact EqAt.same _
    · rw [← eqDs_eq xs ys, ← n1, ← n2]
      refine EqAt.of_refs hll (RcAt.tuples hl1 hl2 hu fun j j1 j2 => ?_)
      cases n with
      | zero =>
        cases xs with
        | nil => rw [List.length_nil] at n1; exact absurd j1 (by omega)
        | cons => cases sa
      | succ m =>
        have := eqAtDs m xs ys A.in1 s vs.toList vs'.toList rs1 rs2 sa sb (show A.units + 1 + m < cLine by omega) j (by simpa using j1) (by simpa using j2)
        simpa using this
  cases ra with
    | non =>
      cases rb with
      | non => exact EqAt.same _
      | bl b2 => exact EqAt.none_bool b2
      | int i2 t2 => exact EqAt.none_int i2 t2
      | str x2 t2 => exact EqAt.none_str x2 t2
      | lst hl2 rs2 => exact EqAt.none_list hl2 hu
      | tup hl2 rs2 => exact EqAt.none_tuple hl2 hu
    | bl b1 =>
      cases rb with
      | non => exact EqAt.bool_none b1
      | bl b2 => exact EqAt.bool_bool b1 b2
      | int i2 t2 => exact EqAt.bool_int b1 i2 t2
      | str x2 t2 => exact EqAt.bool_str b1 x2 t2
      | lst hl2 rs2 => exact EqAt.bool_list b1 hl2 hu
      | tup hl2 rs2 => exact EqAt.bool_tuple b1 hl2 hu
    | int i1 t1 =>
      cases rb with
      | non => exact EqAt.int_none i1 t1
      | bl b2 => exact EqAt.int_bool i1 t1 b2
      | int i2 t2 => exact EqAt.int_int i1 t1 i2 t2
      | str x2 t2 => exact EqAt.int_str i1 t1 x2 t2
      | lst hl2 rs2 => exact EqAt.int_list i1 t1 hl2 hu
      | tup hl2 rs2 => exact EqAt.int_tuple i1 t1 hl2 hu
    | str x1 t1 =>
      cases rb with
      | non => exact EqAt.str_none x1 t1
      | bl b2 => exact EqAt.str_bool x1 t1 b2
      | int i2 t2 => exact EqAt.str_int x1 t1 i2 t2
      | str x2 t2 => exact EqAt.str_str x1 t1 x2 t2
      | lst hl2 rs2 => exact EqAt.str_list x1 t1 hl2 hu
      | tup hl2 rs2 => exact EqAt.str_tuple x1 t1 hl2 hu
    | lst hl1 rs1 =>
      cases rb with
      | non => exact EqAt.list_none hl1 hu
      | bl b2 => exact EqAt.list_bool b2 hl1 hu
      | int i2 t2 => exact EqAt.list_int i2 t2 hl1 hu
      | str x2 t2 => exact EqAt.list_str x2 t2 hl1 hu
      | lst hl2 rs2 => exact eqat_list hl1 rs1 hl2 rs2 sa sb
      | tup hl2 rs2 => exact EqAt.list_tuple hl1 hl2 hu
    | tup hl1 rs1 =>
      cases rb with
      | non => exact EqAt.tuple_none hl1 hu
      | bl b2 => exact EqAt.tuple_bool b2 hl1 hu
      | int i2 t2 => exact EqAt.tuple_int i2 t2 hl1 hu
      | str x2 t2 => exact EqAt.tuple_str x2 t2 hl1 hu
      | lst hl2 rs2 => exact EqAt.tuple_list hl1 hl2 hu
      | tup hl2 rs2 => exact eqat_tuple hl1 rs1 hl2 rs2 sa sb
theorem eqAtDs : ∀ (n : Nat) (xs ys : List D) (A : Around) (s : Shared) (us vs : List Value), RdDs s.heap us xs → RdDs s.heap vs ys → xs.all (shp n) = true → ys.all (shp n) = true → A.units + n < cLine →
    ∀ j (h1 : j < us.length) (h2 : j < vs.length), EqAt A s us[j] vs[j] (pEq xs ys j)
  | _, [], _, _, _, _, _, ra, _, _, _, _, j, h1, _ => by cases ra; exact absurd h1 (Nat.not_lt_zero _)
  | _, _ :: _, [], _, _, _, _, _, rb, _, _, _, j, _, h2 => by cases rb; exact absurd h2 (Nat.not_lt_zero _)
  | n, x :: xs, y :: ys, A, s, _, _, ra, rb, sa, sb, hu, j, h1, h2 => by
    rw [List.all_cons, Bool.and_eq_true] at sa sb
    cases ra with
    | cons r rs =>
      cases rb with
      | cons r' rs' =>
        cases j with
        | zero => exact eqAtD n x y A s _ _ r r' sa.1 sb.1 hu
        | succ j => exact eqAtDs n xs ys A s _ _ rs rs' sa.2 sb.2 hu j (Nat.lt_of_succ_lt_succ h1) (Nat.lt_of_succ_lt_succ h2)
end

theorem rcAtD : ∀ (n : Nat) (a b : D) (A : Around) (s : Shared) (u v : Value), RdD s.heap u a → RdD s.heap v b → shp n a = true → shp n b = true → A.units + n < cLine → RcAt A s u v (eqD a b) := by
  intro n a b A s u v ra rb sa sb hu0
  have hu : A.units < cLine := by omega
  have he : ∀ {xs ys : List D} {vs vs' : Array Value}, RdDs s.heap vs.toList xs → RdDs s.heap vs'.toList ys → (shp n (.lst xs) = true ∨ shp n (.tup xs) = true) → (shp n (.lst ys) = true ∨ shp n (.tup ys) = true) → ∀ j (j1 : j < vs.size) (j2 : j < vs'.size), EqAt A.in1 s vs[j] vs'[j] (pEq xs ys j) := by
    intro xs ys vs vs' rs1 rs2 sa sb j j1 j2
    have n1 : vs.size = xs.length := by have := rs1.length; simpa using this
    cases n with
    | zero =>
      cases xs with
      | nil => rw [List.length_nil] at n1; exact absurd j1 (by omega)
      | cons => rcases sa with sa | sa <;> cases sa
    | succ m =>
      have sa' : xs.all (shp m) = true := by rcases sa with sa | sa <;> exact sa
      have sb' : ys.all (shp m) = true := by rcases sb with sb | sb <;> exact sb
      have := eqAtDs m xs ys A.in1 s vs.toList vs'.toList rs1 rs2 sa' sb' (show A.units + 1 + m < cLine by omega) j (by simpa using j1) (by simpa using j2)
      simpa using this
  have f_list : ∀ {l l' : Addr} {vs vs' : Array Value} {xs ys : List D}, s.heap.IsList l vs → RdDs s.heap vs.toList xs → s.heap.IsList l' vs' → RdDs s.heap vs'.toList ys → shp n (.lst xs) = true → shp n (.lst ys) = true → RcAt A s (.ref l) (.ref l') (eqDs xs ys) := by
    intro l l' vs vs' xs ys hl1 rs1 hl2 rs2 sa sb
    have n1 : vs.size = xs.length := by have := rs1.length; simpa using this
    have n2 : vs'.size = ys.length := by have := rs2.length; simpa using this
    by_cases hsz : vs.size = vs'.size
    · rw [← eqDs_same (by omega : xs.length = ys.length), ← n1]
      exact RcAt.lists hl1 hl2 hsz hu (he rs1 rs2 (.inl sa) (.inl sb))
    · rw [eqDs_other (by omega : xs.length ≠ ys.length)]
      exact RcAt.lists_lengths hl1 hl2 (by simpa using hsz) hu
  have f_tuple : ∀ {l l' : Addr} {vs vs' : Array Value} {xs ys : List D}, s.heap.IsTuple l vs → RdDs s.heap vs.toList xs → s.heap.IsTuple l' vs' → RdDs s.heap vs'.toList ys → shp n (.tup xs) = true → shp n (.tup ys) = true → RcAt A s (.ref l) (.ref l') (eqDs xs ys) := by
    intro l l' vs vs' xs ys hl1 rs1 hl2 rs2 sa sb
    have n1 : vs.size = xs.length := by have := rs1.length; simpa using this
    have n2 : vs'.size = ys.length := by have := rs2.length; simpa using this
    rw [← eqDs_eq xs ys, ← n1, ← n2]
    exact RcAt.tuples hl1 hl2 hu (he rs1 rs2 (.inr sa) (.inr sb))
  cases ra with
    | non =>
      cases rb with
      | non => exact RcAt.none_none
      | bl b2 => exact RcAt.none_bool b2
      | int i2 t2 => exact RcAt.none_int i2 t2
      | str x2 t2 => exact RcAt.none_str x2 t2
      | lst hl2 rs2 => exact RcAt.none_list hl2 hu
      | tup hl2 rs2 => exact RcAt.none_tuple hl2 hu
    | bl b1 =>
      cases rb with
      | non => exact RcAt.bool_none b1
      | bl b2 => exact RcAt.bool_bool b1 b2
      | int i2 t2 => exact RcAt.bool_int b1 i2 t2
      | str x2 t2 => exact RcAt.bool_str b1 x2 t2
      | lst hl2 rs2 => exact RcAt.bool_list b1 hl2 hu
      | tup hl2 rs2 => exact RcAt.bool_tuple b1 hl2 hu
    | int i1 t1 =>
      cases rb with
      | non => exact RcAt.int_none i1 t1
      | bl b2 => exact RcAt.int_bool i1 t1 b2
      | int i2 t2 => exact RcAt.int_int i1 t1 i2 t2
      | str x2 t2 => exact RcAt.int_str i1 t1 x2 t2
      | lst hl2 rs2 => exact RcAt.int_list i1 t1 hl2 hu
      | tup hl2 rs2 => exact RcAt.int_tuple i1 t1 hl2 hu
    | str x1 t1 =>
      cases rb with
      | non => exact RcAt.str_none x1 t1
      | bl b2 => exact RcAt.str_bool x1 t1 b2
      | int i2 t2 => exact RcAt.str_int x1 t1 i2 t2
      | str x2 t2 => exact RcAt.str_str x1 t1 x2 t2
      | lst hl2 rs2 => exact RcAt.str_list x1 t1 hl2 hu
      | tup hl2 rs2 => exact RcAt.str_tuple x1 t1 hl2 hu
    | lst hl1 rs1 =>
      cases rb with
      | non => exact RcAt.list_none hl1 hu
      | bl b2 => exact RcAt.list_bool b2 hl1 hu
      | int i2 t2 => exact RcAt.list_int i2 t2 hl1 hu
      | str x2 t2 => exact RcAt.list_str x2 t2 hl1 hu
      | lst hl2 rs2 => exact f_list hl1 rs1 hl2 rs2 sa sb
      | tup hl2 rs2 => exact RcAt.list_tuple hl1 hl2 hu
    | tup hl1 rs1 =>
      cases rb with
      | non => exact RcAt.tuple_none hl1 hu
      | bl b2 => exact RcAt.tuple_bool b2 hl1 hu
      | int i2 t2 => exact RcAt.tuple_int i2 t2 hl1 hu
      | str x2 t2 => exact RcAt.tuple_str x2 t2 hl1 hu
      | lst hl2 rs2 => exact RcAt.tuple_list hl1 hl2 hu
      | tup hl2 rs2 => exact f_tuple hl1 rs1 hl2 rs2 sa sb

theorem rcNeAtD : ∀ (n : Nat) (a b : D) (A : Around) (s : Shared) (u v : Value), RdD s.heap u a → RdD s.heap v b → shp n a = true → shp n b = true → A.units + n < cLine → RcNeAt A s u v (!eqD a b) := by
  intro n a b A s u v ra rb sa sb hu0
  have hu : A.units < cLine := by omega
  have he : ∀ {xs ys : List D} {vs vs' : Array Value}, RdDs s.heap vs.toList xs → RdDs s.heap vs'.toList ys → (shp n (.lst xs) = true ∨ shp n (.tup xs) = true) → (shp n (.lst ys) = true ∨ shp n (.tup ys) = true) → ∀ j (j1 : j < vs.size) (j2 : j < vs'.size), EqAt A.in1 s vs[j] vs'[j] (pEq xs ys j) := by
    intro xs ys vs vs' rs1 rs2 sa sb j j1 j2
    have n1 : vs.size = xs.length := by have := rs1.length; simpa using this
    cases n with
    | zero =>
      cases xs with
      | nil => rw [List.length_nil] at n1; exact absurd j1 (by omega)
      | cons => rcases sa with sa | sa <;> cases sa
    | succ m =>
      have sa' : xs.all (shp m) = true := by rcases sa with sa | sa <;> exact sa
      have sb' : ys.all (shp m) = true := by rcases sb with sb | sb <;> exact sb
      have := eqAtDs m xs ys A.in1 s vs.toList vs'.toList rs1 rs2 sa' sb' (show A.units + 1 + m < cLine by omega) j (by simpa using j1) (by simpa using j2)
      simpa using this
  have f_list : ∀ {l l' : Addr} {vs vs' : Array Value} {xs ys : List D}, s.heap.IsList l vs → RdDs s.heap vs.toList xs → s.heap.IsList l' vs' → RdDs s.heap vs'.toList ys → shp n (.lst xs) = true → shp n (.lst ys) = true → RcNeAt A s (.ref l) (.ref l') (!eqDs xs ys) := by
    intro l l' vs vs' xs ys hl1 rs1 hl2 rs2 sa sb
    have n1 : vs.size = xs.length := by have := rs1.length; simpa using this
    have n2 : vs'.size = ys.length := by have := rs2.length; simpa using this
    by_cases hsz : vs.size = vs'.size
    · rw [← eqDs_same (by omega : xs.length = ys.length), ← n1]
      exact RcNeAt.lists hl1 hl2 hsz hu (he rs1 rs2 (.inl sa) (.inl sb))
    · rw [eqDs_other (by omega : xs.length ≠ ys.length)]
      exact RcNeAt.lists_lengths hl1 hl2 (by simpa using hsz) hu
  have f_tuple : ∀ {l l' : Addr} {vs vs' : Array Value} {xs ys : List D}, s.heap.IsTuple l vs → RdDs s.heap vs.toList xs → s.heap.IsTuple l' vs' → RdDs s.heap vs'.toList ys → shp n (.tup xs) = true → shp n (.tup ys) = true → RcNeAt A s (.ref l) (.ref l') (!eqDs xs ys) := by
    intro l l' vs vs' xs ys hl1 rs1 hl2 rs2 sa sb
    have n1 : vs.size = xs.length := by have := rs1.length; simpa using this
    have n2 : vs'.size = ys.length := by have := rs2.length; simpa using this
    rw [← eqDs_eq xs ys, ← n1, ← n2]
    exact RcNeAt.tuples hl1 hl2 hu (he rs1 rs2 (.inr sa) (.inr sb))
  cases ra with
    | non =>
      cases rb with
      | non => exact RcNeAt.none_none
      | bl b2 => exact RcNeAt.none_bool b2
      | int i2 t2 => exact RcNeAt.none_int i2 t2
      | str x2 t2 => exact RcNeAt.none_str x2 t2
      | lst hl2 rs2 => exact RcNeAt.none_list hl2 hu
      | tup hl2 rs2 => exact RcNeAt.none_tuple hl2 hu
    | bl b1 =>
      cases rb with
      | non => exact RcNeAt.bool_none b1
      | bl b2 => exact RcNeAt.bool_bool b1 b2
      | int i2 t2 => exact RcNeAt.bool_int b1 i2 t2
      | str x2 t2 => exact RcNeAt.bool_str b1 x2 t2
      | lst hl2 rs2 => exact RcNeAt.bool_list b1 hl2 hu
      | tup hl2 rs2 => exact RcNeAt.bool_tuple b1 hl2 hu
    | int i1 t1 =>
      cases rb with
      | non => exact RcNeAt.int_none i1 t1
      | bl b2 => exact RcNeAt.int_bool i1 t1 b2
      | int i2 t2 => exact RcNeAt.int_int i1 t1 i2 t2
      | str x2 t2 => exact RcNeAt.int_str i1 t1 x2 t2
      | lst hl2 rs2 => exact RcNeAt.int_list i1 t1 hl2 hu
      | tup hl2 rs2 => exact RcNeAt.int_tuple i1 t1 hl2 hu
    | str x1 t1 =>
      cases rb with
      | non => exact RcNeAt.str_none x1 t1
      | bl b2 => exact RcNeAt.str_bool x1 t1 b2
      | int i2 t2 => exact RcNeAt.str_int x1 t1 i2 t2
      | str x2 t2 => exact RcNeAt.str_str x1 t1 x2 t2
      | lst hl2 rs2 => exact RcNeAt.str_list x1 t1 hl2 hu
      | tup hl2 rs2 => exact RcNeAt.str_tuple x1 t1 hl2 hu
    | lst hl1 rs1 =>
      cases rb with
      | non => exact RcNeAt.list_none hl1 hu
      | bl b2 => exact RcNeAt.list_bool b2 hl1 hu
      | int i2 t2 => exact RcNeAt.list_int i2 t2 hl1 hu
      | str x2 t2 => exact RcNeAt.list_str x2 t2 hl1 hu
      | lst hl2 rs2 => exact f_list hl1 rs1 hl2 rs2 sa sb
      | tup hl2 rs2 => exact RcNeAt.list_tuple hl1 hl2 hu
    | tup hl1 rs1 =>
      cases rb with
      | non => exact RcNeAt.tuple_none hl1 hu
      | bl b2 => exact RcNeAt.tuple_bool b2 hl1 hu
      | int i2 t2 => exact RcNeAt.tuple_int i2 t2 hl1 hu
      | str x2 t2 => exact RcNeAt.tuple_str x2 t2 hl1 hu
      | lst hl2 rs2 => exact RcNeAt.tuple_list hl1 hl2 hu
      | tup hl2 rs2 => exact f_tuple hl1 rs1 hl2 rs2 sa sb

section
variable {X : Cx} {c : Cn}
mutual
theorem Rep.rd {pins : List (Addr × Obj)} {σ : Sg} {H : Hp} {s : Shared} (hK : X.K = c.K) (I : Inv X pins σ H s) : ∀ (d : D) (v : V) (u : Value) (n : Nat), shp n d = true → Rep c H v d → RelV v u → RdD s.heap u d
  | .non, _, _, _, _, h, r => by cases h; cases r; exact .non
  | .bl b, _, _, _, _, h, r => by cases h; cases r; exact .bl b
  | .int i, _, _, _, _, h, r => by cases h; obtain ⟨t, rfl⟩ := r; exact .int i t
  | .str x, _, _, _, _, h, r => by cases h; obtain ⟨t, rfl⟩ := r; exact .str x t
  | .dK _ _, _, _, n, sh, _, _ => by cases n <;> cases sh
  | .dT _ _, _, _, n, sh, _, _ => by cases n <;> cases sh
  | .tup ds, _, _, n, sh, h, r => by
    cases h with
    | tup h q =>
      cases r
      obtain ⟨its, rv, p, _⟩ := I.tuple (SqT.of h)
      refine .tup (show s.heap.IsTuple _ its.toArray from p) ?_
      cases n with
      | zero =>
        cases ds with
        | nil => cases q; cases rv; exact .nil
        | cons => cases sh
      | succ m => exact Reps.rd hK I ds _ _ m sh q rv
  | .lst ds, _, _, n, sh, h, r => by
    cases h with
    | lst h q =>
      cases r
      obtain ⟨its, rv, p, _⟩ := I.list (SqL.of h)
      refine .lst p.isList ?_
      cases n with
      | zero =>
        cases ds with
        | nil => cases q; cases rv; exact .nil
        | cons => cases sh
      | succ m => exact Reps.rd hK I ds _ _ m sh q rv
  | .fn k, _, _, n, sh, _, _ => by cases n <;> cases sh
  | .scr _, _, _, n, sh, _, _ => by cases n <;> cases sh
theorem Reps.rd {pins : List (Addr × Obj)} {σ : Sg} {H : Hp} {s : Shared} (hK : X.K = c.K) (I : Inv X pins σ H s) : ∀ (ds : List D) (vs : List V) (us : List Value) (n : Nat), ds.all (shp n) = true → Reps c H vs ds → Vals vs us → RdDs s.heap us ds
  | [], _, _, _, _, h, r => by cases h; cases r; exact .nil
  | d :: ds, _, _, n, sh, h, r => by
    rw [List.all_cons, Bool.and_eq_true] at sh
    cases h with
    | cons h q =>
      cases r with
      | cons r1 r2 => exact .cons (Rep.rd hK I d _ _ n sh.1 h r1) (Reps.rd hK I ds _ _ n sh.2 q r2)
end
/-- == and != by values -/
theorem op_eqX (hK : X.K = c.K) (hu : X.A.units + 64 < cLine) : OpR X (compareOp .Eq) (fun x y H Q => ∃ d e, Rep c H x d ∧ Rep c H y e ∧ shp 60 d = true ∧ shp 60 e = true ∧ Q (.bl (eqD d e)) H) := by
  intro pins s σ H x y v u Q I rx ry h
  obtain ⟨d, e, hd, he, sd, se, q⟩ := h
  exact rcAtD 60 d e X.A s v u (Rep.rd hK I d x v 60 sd hd rx) (Rep.rd hK I e y u 60 se he ry) sd se (by omega) X.prog X.w X.xe _ ⟨.bl _, H, I, rfl, q⟩
theorem op_neX (hK : X.K = c.K) (hu : X.A.units + 64 < cLine) : OpR X (compareOp .NotEq) (fun x y H Q => ∃ d e, Rep c H x d ∧ Rep c H y e ∧ shp 60 d = true ∧ shp 60 e = true ∧ Q (.bl (!eqD d e)) H) := by
  intro pins s σ H x y v u Q I rx ry h
  obtain ⟨d, e, hd, he, sd, se, q⟩ := h
  exact rcNeAtD 60 d e X.A s v u (Rep.rd hK I d x v 60 sd hd rx) (Rep.rd hK I e y u 60 se he ry) sd se (by omega) X.prog X.w X.xe _ ⟨.bl _, H, I, rfl, q⟩
end
end Ev

end
section
set_option maxHeartbeats 2000000
namespace Ev
open PySem PySem.Spec PyProof.Rows L2

def LN : Nat := 16777216
theorem LN_eq : sizeLine = LN := sizeLine_eq
@[irreducible] def BIG : Nat := 2 ^ 499000
@[irreducible] def BIGD : Nat := 2 ^ 8999
def mulOk (i j : Int) : Bool := decide (j.natAbs < 18446744073709551616) || decide (i.natAbs < 18446744073709551616) || (decide (i.natAbs < BIG) && decide (j.natAbs < BIG))
def divOk (j : Int) : Bool := decide (0 < j) && decide (j.natAbs < BIGD)
theorem mulOk_of {i j : Int} (h : mulOk i j = true) : IntMulOk i j := by
  unfold mulOk at h
  rw [Bool.or_eq_true, Bool.or_eq_true, Bool.and_eq_true] at h
  rcases h with (h | h) | h
  · have h1 := of_decide_eq_true h
    exact CMul.ok (.inr (by omega))
  · have h1 := of_decide_eq_true h
    exact CMul.ok (.inl (by omega))
  · have h1 := of_decide_eq_true h.1
    have h2 := of_decide_eq_true h.2
    unfold BIG at h1 h2
    exact CMulW.ok (wide_mul h1 h2 (by decide) (by decide) (by decide))
theorem op_mulG {X : Cx} : OpR X (binaryOp .Mult) (rI IntMulOk fun i j => .int (i * j)) := opI fun _ _ _ _ _ _ _ hc q => mul_int q hc
theorem divOk_of {i j : Int} (h : divOk j = true) : CDivW i j := by
  unfold divOk at h
  rw [Bool.and_eq_true] at h
  have h1 := of_decide_eq_true h.1
  have h2 := of_decide_eq_true h.2
  unfold BIGD at h2
  exact wide_div h1 h2 (by decide) (by decide)

def R.lift {α : Type} : Option α → En → R α
  | some a, ρ => .ok a ρ
  | none, _ => .bad

@[simp] theorem R.lift_some {α : Type} (a : α) (ρ : En) : R.lift (some a) ρ = .ok a ρ := (rfl)
@[simp] theorem R.lift_none {α : Type} (ρ : En) : R.lift (none : Option α) ρ = .bad := (rfl)
/-- the operators on data -/
def op2 : Operator → D → D → Option D
  | .Add, .int i, .int j => some (.int (i + j))
  | .Add, .str x, .str y => if x.length + y.length ≤ LN then some (.str (x ++ y)) else none
  | .Add, .lst xs, .lst ys => if xs.length + ys.length ≤ LN then some (.lst (xs ++ ys)) else none
  | .Add, .tup xs, .tup ys => if xs.length + ys.length ≤ LN then some (.tup (xs ++ ys)) else none
  | .Sub, .int i, .int j => some (.int (i - j))
  | .Mult, .int i, .int j => if mulOk i j = true then some (.int (i * j)) else none
  | .Mult, .lst xs, .int k => if xs.length * k.toNat ≤ LN ∧ -(2 ^ 63) ≤ k ∧ k < 2 ^ 63 then some (.lst (List.replicate k.toNat xs).flatten) else none
  | .FloorDiv, .int i, .int j => if divOk j = true then some (.int (i / j)) else none
  | .Mod, .int i, .int j => if 0 < j then some (.int (i % j)) else none
  | .Pow, .int i, .int j => if 0 ≤ j ∧ j ≤ 1000000 ∧ i.natAbs < 2 ^ 64 then some (.int (i ^ j.toNat)) else none
  | .LShift, .int i, .int j => if 0 ≤ j ∧ j ≤ 1000000 ∧ i.natAbs < 2 ^ 64 then some (.int (i * 2 ^ j.toNat)) else none
  | .RShift, .int i, .int j => if 0 ≤ j then some (.int (i / 2 ^ j.toNat)) else none
  | .BitAnd, .int i, .int j => some (.int (Builtin.bitAnd i j))
  | .BitOr, .int i, .int j => some (.int (Builtin.bitOr i j))
  | .BitXor, .int i, .int j => some (.int (Builtin.bitXor i j))
  | _, _, _ => none
/-- x op= y -/
def aop2 : Operator → D → D → Option D
  | .Add, .int i, .int j => some (.int (i + j))
  | .Add, .str x, .str y => if x.length + y.length ≤ LN then some (.str (x ++ y)) else none
  | .Sub, .int i, .int j => some (.int (i - j))
  | .Mult, .int i, .int j => if (-(2 ^ 64) < i ∧ i < 2 ^ 64) ∨ (-(2 ^ 64) < j ∧ j < 2 ^ 64) then some (.int (i * j)) else none
  | .FloorDiv, .int i, .int j => if divOk j = true then some (.int (i / j)) else none
  | .Mod, .int i, .int j => if 0 < j then some (.int (i % j)) else none
  | .RShift, .int i, .int j => if 0 ≤ j then some (.int (i / 2 ^ j.toNat)) else none
  | .BitAnd, .int i, .int j => some (.int (Builtin.bitAnd i j))
  | .BitOr, .int i, .int j => some (.int (Builtin.bitOr i j))
  | .BitXor, .int i, .int j => some (.int (Builtin.bitXor i j))
  | _, _, _ => none

def rOp (c : Cn) (g : D → D → Option D) : R2 := fun x y H Q => ∃ pin Z ρ σ Hf d e z, SR c pin Z ρ σ H Hf ∧ Rep c Hf x d ∧ Rep c Hf y e ∧ g d e = some z ∧
  ∀ v H' Hf', Same Hf Hf' → SR c pin Z ρ σ H' Hf' → Rep c Hf' v z → Q v H'
def rUn (c : Cn) (g : D → Option D) : V → Hp → VK → Prop := fun x H Q => ∃ pin Z ρ σ Hf d z, SR c pin Z ρ σ H Hf ∧ Rep c Hf x d ∧ g d = some z ∧
  ∀ v H' Hf', Same Hf Hf' → SR c pin Z ρ σ H' Hf' → Rep c Hf' v z → Q v H'

section
variable {X : Cx} {c : Cn} {W : WX} {a b : Expr} {pos : Pos} {fa fb : En → R D}
theorem Rep.seqT (hK : X.K = c.K) {H Hf : Hp} {v : V} {ds : List D} (s : Same Hf H) (r : Rep c Hf v (.tup ds)) : ∃ p vs, v = .ref p ∧ SqT X.K H p vs ∧ Reps c Hf vs ds := by
  cases r with
  | tup h q => exact ⟨_, _, rfl, SqT.of (s _ _ h), q⟩
theorem Rep.seqL {H Hf : Hp} {v : V} {ds : List D} (s : Same Hf H) (r : Rep c Hf v (.lst ds)) : ∃ p vs, v = .ref p ∧ H p = some (.lst vs) ∧ Reps c Hf vs ds := by
  cases r with
  | lst h q => exact ⟨_, _, rfl, s _ _ h, q⟩
theorem Rep.newL {Hf : Hp} {p : Addr} {vs : List V} {ds : List D} (s : Same Hf (upd Hf p (.lst vs))) (r : Reps c Hf vs ds) : Rep c (upd Hf p (.lst vs)) (.ref p) (.lst ds) := .lst upd_same (r.mono s)
theorem Rep.newT {Hf : Hp} {p : Addr} {vs : List V} {ds : List D} (s : Same Hf (upd Hf p (.tup vs))) (r : Reps c Hf vs ds) : Rep c (upd Hf p (.tup vs)) (.ref p) (.tup ds) := .tup upd_same (r.mono s)

theorem opr (hK : X.K = c.K) (op : Operator) : OpR X (binaryOp op) (rOp c (op2 op)) := by
  intro pins s σ0 H x y v u Q I rx ry h
  obtain ⟨pin, Z, ρ, σ, Hf, d, e, z, S, rd, re, g, q⟩ := h
  have fin : ∀ {w : V}, Rep c Hf w z → Q w H := fun r => q _ H Hf (Same.refl _) S r
  unfold op2 at g
  split at g
  · cases g; cases rd; cases re; exact op_add pins s σ0 H _ _ v u Q I rx ry ⟨_, _, rfl, rfl, fin (.int _)⟩
  · rename_i i j
    by_cases hz : i.length + j.length ≤ LN
    · rw [if_pos hz] at g; cases g; cases rd; cases re
      exact op_add_str pins s σ0 H _ _ v u Q I rx ry ⟨_, _, rfl, rfl, by rw [LN_eq]; exact hz, fin (.str _)⟩
    · rw [if_neg hz] at g; cases g
  · rename_i xs ys
    by_cases hz : xs.length + ys.length ≤ LN
    · rw [if_pos hz] at g; cases g
      obtain ⟨p, vs, rfl, hp, r1⟩ := rd.seqL S.f
      obtain ⟨p2, vs2, rfl, hp2, r2⟩ := re.seqL S.f
      refine op_cat pins s σ0 H _ _ v u Q I rx ry ⟨_, _, _, _, rfl, rfl, hp, hp2, by rw [LN_eq, r1.length, r2.length]; exact hz, fun l hl => ?_⟩
      obtain ⟨S', s'⟩ := S.newS hl
      exact q _ _ _ s' S' (Rep.newL s' (r1.append r2))
    · rw [if_neg hz] at g; cases g
  · rename_i xs ys
    by_cases hz : xs.length + ys.length ≤ LN
    · rw [if_pos hz] at g; cases g
      have rd0 := rd
      have re0 := re
      obtain ⟨p, vs, rfl, hp, r1⟩ := rd.seqT hK S.f
      obtain ⟨p2, vs2, rfl, hp2, r2⟩ := re.seqT hK S.f
      refine op_catA pins s σ0 H _ _ v u Q I rx ry ⟨_, _, _, _, rfl, rfl, hp, hp2, by rw [LN_eq, r1.length, r2.length]; exact hz, fun e => ?_, fun _ e => ?_, fun _ _ l hl => ?_⟩
      · subst e; cases r1; exact fin re0
      · subst e; cases r2; rw [List.append_nil] at q fin; exact fin rd0
      · obtain ⟨S', s'⟩ := S.newS hl
        exact q _ _ _ s' S' (Rep.newT s' (r1.append r2))
    · rw [if_neg hz] at g; cases g
  · cases g; cases rd; cases re; exact op_sub pins s σ0 H _ _ v u Q I rx ry ⟨_, _, rfl, rfl, fin (.int _)⟩
  · rename_i i j
    by_cases hz : mulOk i j = true
    · rw [if_pos hz] at g; cases g; cases rd; cases re
      exact op_mulG pins s σ0 H _ _ v u Q I rx ry ⟨_, _, rfl, rfl, mulOk_of hz, fin (.int _)⟩
    · rw [if_neg hz] at g; cases g
  · rename_i xs k
    split at g
    · rename_i hz
      cases g
      obtain ⟨p, vs, rfl, hp, r1⟩ := rd.seqL S.f
      cases re
      refine op_rep pins s σ0 H _ _ v u Q I rx ry ⟨_, _, _, rfl, rfl, hp, hz.2.1, hz.2.2, by rw [LN_eq, r1.length]; exact hz.1, fun l hl => ?_⟩
      obtain ⟨S', s'⟩ := S.newS hl
      exact q _ _ _ s' S' (Rep.newL s' (r1.rep _))
    · cases g
  · rename_i i j
    by_cases hz : divOk j = true
    · rw [if_pos hz] at g; cases g; cases rd; cases re
      exact op_fdivW pins s σ0 H _ _ v u Q I rx ry ⟨_, _, rfl, rfl, divOk_of hz, fin (.int _)⟩
    · rw [if_neg hz] at g; cases g
  · rename_i i j
    by_cases hz : 0 < j
    · rw [if_pos hz] at g; cases g; cases rd; cases re
      exact op_mod pins s σ0 H _ _ v u Q I rx ry ⟨_, _, rfl, rfl, hz, fin (.int _)⟩
    · rw [if_neg hz] at g; cases g
  · split at g
    · rename_i hz
      cases g; cases rd; cases re
      exact op_pow pins s σ0 H _ _ v u Q I rx ry ⟨_, _, rfl, rfl, hz, fin (.int _)⟩
    · cases g
  · split at g
    · rename_i hz
      cases g; cases rd; cases re
      exact op_shl pins s σ0 H _ _ v u Q I rx ry ⟨_, _, rfl, rfl, hz, fin (.int _)⟩
    · cases g
  · split at g
    · rename_i hz
      cases g; cases rd; cases re
      exact op_shr pins s σ0 H _ _ v u Q I rx ry ⟨_, _, rfl, rfl, hz, fin (.int _)⟩
    · cases g
  · cases g; cases rd; cases re; exact op_and pins s σ0 H _ _ v u Q I rx ry ⟨_, _, rfl, rfl, fin (.int _)⟩
  · cases g; cases rd; cases re; exact op_or pins s σ0 H _ _ v u Q I rx ry ⟨_, _, rfl, rfl, fin (.int _)⟩
  · cases g; cases rd; cases re; exact op_xor pins s σ0 H _ _ v u Q I rx ry ⟨_, _, rfl, rfl, fin (.int _)⟩
  · cases g
theorem iopr (op : Operator) : OpR X (inplaceOp op) (rOp c (aop2 op)) := by
  intro pins s σ0 H x y v u Q I rx ry h
  obtain ⟨pin, Z, ρ, σ, Hf, d, e, z, S, rd, re, g, q⟩ := h
  have fin : ∀ {w : V}, Rep c Hf w z → Q w H := fun r => q _ H Hf (Same.refl _) S r
  unfold aop2 at g
  split at g
  · cases g; cases rd; cases re; exact iop_add pins s σ0 H _ _ v u Q I rx ry ⟨_, _, rfl, rfl, fin (.int _)⟩
  · split at g
    · rename_i hz
      cases g; cases rd; cases re
      exact iop_add_str pins s σ0 H _ _ v u Q I rx ry ⟨_, _, rfl, rfl, by rw [LN_eq]; exact hz, fin (.str _)⟩
    · cases g
  · cases g; cases rd; cases re; exact iop_sub pins s σ0 H _ _ v u Q I rx ry ⟨_, _, rfl, rfl, fin (.int _)⟩
  · split at g
    · rename_i hz
      cases g; cases rd; cases re
      exact iop_mul pins s σ0 H _ _ v u Q I rx ry ⟨_, _, rfl, rfl, hz, fin (.int _)⟩
    · cases g
  · split at g
    · rename_i hz
      cases g; cases rd; cases re
      exact iop_fdivW pins s σ0 H _ _ v u Q I rx ry ⟨_, _, rfl, rfl, divOk_of hz, fin (.int _)⟩
    · cases g
  · split at g
    · rename_i hz
      cases g; cases rd; cases re
      exact iop_mod pins s σ0 H _ _ v u Q I rx ry ⟨_, _, rfl, rfl, hz, fin (.int _)⟩
    · cases g
  · split at g
    · rename_i hz
      cases g; cases rd; cases re
      exact iop_shr pins s σ0 H _ _ v u Q I rx ry ⟨_, _, rfl, rfl, hz, fin (.int _)⟩
    · cases g
  · cases g; cases rd; cases re; exact iop_and pins s σ0 H _ _ v u Q I rx ry ⟨_, _, rfl, rfl, fin (.int _)⟩
  · cases g; cases rd; cases re; exact iop_or pins s σ0 H _ _ v u Q I rx ry ⟨_, _, rfl, rfl, fin (.int _)⟩
  · cases g; cases rd; cases re; exact iop_xor pins s σ0 H _ _ v u Q I rx ry ⟨_, _, rfl, rfl, fin (.int _)⟩
  · cases g
/-- two values, then an operation on them -/
theorem two {g : D → D → Option D} {σ : Sg} {H : Hp} {Q : VK} {rr : R2} (hr : ∀ x y H2, rOp c g x y H2 Q → rr x y H2 Q)
    (h : tE c W (fun ρ => (fa ρ).bind fun x ρ1 => (fb ρ1).bind fun y ρ2 => R.lift (g x y) ρ2) σ H Q) : tE c W fa σ H fun x H1 => tE c W fb σ H1 fun y H2 => rr x y H2 Q := by
  refine tG.seq h fun pin Z d ρ1 x H1 Hf1 S1 r1 h1 => ?_
  refine ⟨pin, Z, ρ1, Hf1, S1, Go.seq h1 fun e ρ2 y H2 Hf2 s2 S2 r2 h2 => ?_⟩
  refine hr _ _ _ ?_
  cases hg : g d e with
  | none => rw [hg] at h2; exact h2.elim
  | some z =>
    rw [hg] at h2
    exact ⟨pin, Z, ρ2, σ, Hf2, d, e, z, S2, r1.mono s2, r2, hg, h2⟩
theorem s_bin {op : Operator} (hK : X.K = c.K) (ha : PE X a (tE c W fa)) (hb : PE X b (tE c W fb)) :
    PE X (.BinOp a op b pos) (tE c W fun ρ => (fa ρ).bind fun x ρ1 => (fb ρ1).bind fun y ρ2 => R.lift (op2 op x y) ρ2) :=
  pe_of (pe_op (opr hK op) ha hb) fun _ _ _ h => two (fun _ _ _ z => z) h
def neg1 : D → Option D
  | .int i => some (.int (-i))
  | _ => none
theorem one {β : Type} {g : D → Option D} {σ : Sg} {H : Hp} {Q : VK} {rr : V → Hp → VK → Prop} (hr : ∀ x H2, rUn c g x H2 Q → rr x H2 Q)
    (h : tE c W (fun ρ => (fa ρ).bind fun x ρ1 => R.lift (g x) ρ1) σ H Q) : tE c W fa σ H fun x H1 => rr x H1 Q := by
  refine tG.seq h fun pin Z d ρ1 x H1 Hf1 S1 r1 h1 => hr _ _ ?_
  cases hg : g d with
  | none => rw [hg] at h1; exact h1.elim
  | some z => rw [hg] at h1; exact ⟨pin, Z, ρ1, σ, Hf1, d, z, S1, r1, hg, h1⟩
theorem s_neg (ha : PE X a (tE c W fa)) : PE X (.UnaryOp .USub a pos) (tE c W fun ρ => (fa ρ).bind fun x ρ1 => R.lift (neg1 x) ρ1) :=
  pe_of (pe_un un_neg ha) fun σ H Q h => one (β := Unit) (fun x H2 ⟨pin, Z, ρ, σ, Hf, d, z, S, r, g, q⟩ => by
    cases d <;> cases g
    cases r
    exact ⟨_, rfl, q _ _ _ (Same.refl _) S (.int _)⟩) h
/-! ### constants and names -/
theorem s_con {e : Expr} {v : V} {d : D} (hr : ∀ H, Rep c H v d) (h : PE X e (tC v)) : PE X e (tE c W fun ρ => .ok d ρ) :=
  pe_of h fun σ H Q ⟨pin, Z, ρ, Hf, S, g⟩ => g v H Hf (Same.refl _) S (hr _)
def rdV (ρ : En) (i : Nat) : R D :=
  match ρ[i]? with
  | some (.va d) => .ok d ρ
  | some (.ow false ds) => .ok ds.d (ρ.set i (.va ds.d))
  | _ => .bad
def rdL (ρ : En) (i : Nat) : R D :=
  match ρ[i]? with
  | some (.va d) => .ok d ρ
  | some (.ow _ ds) => .ok ds.d ρ
  | _ => .bad
theorem set_get {α : Type} {l : List α} {i j : Nat} {x y : α} (h : (l.set i x)[j]? = some y) : (i = j ∧ y = x ∧ i < l.length) ∨ (i ≠ j ∧ l[j]? = some y) := by
  by_cases e : i = j
  · subst e
    by_cases hl : i < l.length
    · rw [List.getElem?_set_self hl] at h; cases h; exact .inl ⟨rfl, rfl, hl⟩
    · rw [List.getElem?_eq_none (by simpa using hl)] at h; cases h
  · rw [List.getElem?_set_ne e] at h; exact .inr ⟨e, h⟩
/-- at the slots: what becomes a value, the others stay -/
theorem SR.let {pin : Addr} {Z : Hp} {ρ : En} {σ : Sg} {H H' Hf Hf' : Hp} {i : Nat} {io : Bool} {ds : Ob} {d : D} {p : Addr} (S : SR c pin Z ρ σ H Hf) (h : ρ[i]? = some (.ow io ds)) (e1 : σ[i]? = some (some (.ref p))) (hz : Same Z H') (hf : Same Hf' H') (ff : Same Hf Hf')
    (dj : ∀ a o, Z a = some o → NT o → Hf' a = none) (ot : ∀ q o, q ≠ p → H q = some o → H' q = some o) (of : ∀ q, q ≠ p → Hf q = none → Hf' q = none) (rp : Rep c Hf' (.ref p) d) : SR c pin Z (ρ.set i (.va d)) σ H' Hf' := by
  refine ⟨hz, hf, dj, by rw [List.length_set]; exact S.len, fun j s e => ?_, fun j k io io' xs ys q hjk ej ek sj sk => ?_⟩
  · rcases set_get e with ⟨e5, e6, _⟩ | ⟨e5, e6⟩
    · subst e5; subst e6; exact ⟨_, e1, rp⟩
    · have q := S.sl j s e6
      cases s with
      | un => trivial
      | va d => obtain ⟨v, e7, r7⟩ := q; exact ⟨v, e7, r7.mono ff⟩
      | ow io' es =>
        obtain ⟨p', vs', f1, f2, f3, f4, r', pn'⟩ := q
        have ne : p' ≠ p := fun z => by subst z; exact S.ap i j _ _ _ _ _ e5 h e6 e1 f1
        exact ⟨p', vs', f1, ot _ _ ne f2, of _ ne f3, f4, r'.mono ff, pn'⟩
  · rcases set_get ej with ⟨_, f, _⟩ | ⟨_, ej⟩
    · cases f
    rcases set_get ek with ⟨_, f, _⟩ | ⟨_, ek⟩
    · cases f
    exact S.ap j k _ _ _ _ q hjk ej ek sj sk
/-- a list of its own is let go of: it stays as it is from now on -/
theorem SR.freeze {pin : Addr} {Z : Hp} {ρ : En} {σ : Sg} {H Hf : Hp} {i : Nat} {ds : List D} {io : Bool} (S : SR c pin Z ρ σ H Hf) (h : ρ[i]? = some (.ow io (.lst ds))) :
    ∃ p vs, σ[i]? = some (some (.ref p)) ∧ Same Hf (upd Hf p vs) ∧ SR c pin Z (ρ.set i (.va (.lst ds))) σ H (upd Hf p vs) ∧ Rep c (upd Hf p vs) (.ref p) (.lst ds) := by
  obtain ⟨p, vs, e1, e2, e3, e4, r, pn⟩ := S.sl i _ h
  have ss : Same Hf (upd Hf p vs) := Same.new e3
  have rp : Rep c (upd Hf p vs) (.ref p) (.lst ds) := (r.mono ss).rep upd_same
  refine ⟨p, vs, e1, ss, S.let h e1 S.z (fun b u e => ?_) ss (fun a u e ne => ?_) (fun _ _ _ e => e) (fun q ne e => by rw [upd_ne ne]; exact e) rp, rp⟩
  · by_cases hb : b = p
    · subst hb; rw [upd_same] at e; cases e; exact e2
    · rw [upd_ne hb] at e; exact S.f _ _ e
  · have : a ≠ p := fun z => by subst z; rw [e4] at e; cases e
    rw [upd_ne this]; exact S.dj _ _ e ne
/-- a dict of its own is let go of: it is locked from now on -/
theorem SR.freezeD {pin : Addr} {Z : Hp} {ρ : En} {σ : Sg} {H Hf : Hp} {i : Nat} {ds : Ob} {io : Bool} (S : SR c pin Z ρ σ H Hf) (h : ρ[i]? = some (.ow io ds)) (nb : ∀ xs, ds ≠ .lst xs) :
    ∃ p u, σ[i]? = some (some (.ref p)) ∧ H p = some u ∧ Mut (some u) ∧ ∀ od, Same Hf (upd Hf p (.frz od u)) ∧ SR c pin Z (ρ.set i (.va ds.d)) σ (upd H p (.frz od u)) (upd Hf p (.frz od u)) ∧ Rep c (upd Hf p (.frz od u)) (.ref p) ds.d := by
  obtain ⟨p, u, e1, e2, e3, e4, r, pn⟩ := S.sl i _ h
  have mu : Mut (some u) := by
    cases ds <;> cases u <;> first | exact r.elim | exact absurd rfl (nb _) | trivial
  refine ⟨p, u, e1, e2, mu, fun od => ?_⟩
  have ss : Same Hf (upd Hf p (.frz od u)) := Same.new e3
  have rp : Rep c (upd Hf p (.frz od u)) (.ref p) ds.d := ((r.mono ss).repD nb upd_same).1
  refine ⟨ss, S.let h e1 (fun b o e => ?_) (fun b o e => ?_) ss (fun a o e ne => ?_) (fun q o ne e => by rw [upd_ne ne]; exact e) (fun q ne e => by rw [upd_ne ne]; exact e) rp, rp⟩
  · have : b ≠ p := fun z => by subst z; rw [e4] at e; cases e
    rw [upd_ne this]; exact S.z _ _ e
  · by_cases hb : b = p
    · subst hb; rw [upd_same] at e ⊢; exact e
    · rw [upd_ne hb] at e ⊢; exact S.f _ _ e
  · have : a ≠ p := fun z => by subst z; rw [e4] at e; cases e
    rw [upd_ne this]; exact S.dj _ _ e ne
/-- a value is read, and what stands there may be locked -/
def tFrz (t : TE) : TE := fun σ H Q => t σ H fun v H1 => Q v H1 ∨ ∃ p u, v = .ref p ∧ H1 p = some u ∧ Mut (some u) ∧ ∀ od, Q v (upd H1 p (.frz od u))
theorem pe_frz {e : Expr} {t : TE} (h : PE X e t) : PE X e (tFrz t) := by
  refine ⟨fun pins s σ H Q I q => ?_⟩
  refine thn (h.run pins s σ H _ I q) fun u s1 ⟨v, H1, I1, rv, q1⟩ => ?_
  rcases q1 with q1 | ⟨p, w, rfl, hp, mu, q1⟩
  · exact ⟨v, H1, I1, rv, q1⟩
  · obtain ⟨od, I2⟩ := I1.lock hp mu
    exact ⟨_, _, I2, rv, q1 od⟩
theorem s_var {i : Nat} {x : Str} (h : PE X (.Name x pos) (tVar i)) : PE X (.Name x pos) (tE c W fun ρ => rdV ρ i) :=
  pe_of (pe_frz h) fun σ H Q ⟨pin, Z, ρ, Hf, S, g⟩ => by
    simp only [rdV] at g
    split at g
    · rename_i d hd
      obtain ⟨v, e, r⟩ := S.sl i _ hd
      exact ⟨v, e, .inl (g v H Hf (Same.refl _) S r)⟩
    · rename_i ds hd
      cases ds with
      | lst xs =>
        obtain ⟨p, vs, e1, ss, S', r⟩ := S.freeze hd
        exact ⟨_, e1, .inl (g _ H _ ss S' r)⟩
      | dK ks xs =>
        obtain ⟨p, u, e1, e2, mu, f⟩ := S.freezeD hd (fun _ z => by cases z)
        exact ⟨_, e1, .inr ⟨p, u, rfl, e2, mu, fun od => g _ _ _ (f od).1 (f od).2.1 (f od).2.2⟩⟩
      | dT ks xs =>
        obtain ⟨p, u, e1, e2, mu, f⟩ := S.freezeD hd (fun _ z => by cases z)
        exact ⟨_, e1, .inr ⟨p, u, rfl, e2, mu, fun od => g _ _ _ (f od).1 (f od).2.1 (f od).2.2⟩⟩
    · exact g.elim
theorem s_varL {i : Nat} {x : Str} (h : PE X (.Name x pos) (tVar i)) : PE X (.Name x pos) (tL c W fun ρ => rdL ρ i) :=
  pe_of h fun σ H Q ⟨pin, Z, ρ, Hf, S, g⟩ => by
    simp only [rdL] at g
    split at g
    · rename_i d hd
      obtain ⟨v, e, r⟩ := S.sl i _ hd
      exact ⟨v, e, g v H Hf (Same.refl _) S (.inl r)⟩
    · rename_i io ds hd
      obtain ⟨p, vs, e1, e2, e3, e4, r, pn⟩ := S.sl i _ hd
      exact ⟨_, e1, g _ H Hf (Same.refl _) S (.inr ⟨p, vs, _, rfl, rfl, e2, r⟩)⟩
    · exact g.elim
/-- a value that is held is a value that is looked at -/
theorem s_toL {e : Expr} {f : En → R D} (h : PE X e (tE c W f)) : PE X e (tL c W f) :=
  pe_of h fun σ H Q ⟨pin, Z, ρ, Hf, S, g⟩ => ⟨pin, Z, ρ, Hf, S, by
    cases hf : f ρ with
    | ok a ρ' => rw [hf] at g; exact fun b H' Hf' s' S' r => g b H' Hf' s' S' (.inl r)
    | err x ρ' => rw [hf] at g; exact g
    | bad => rw [hf] at g; exact g⟩
end
end Ev

end
section
set_option maxHeartbeats 2000000
namespace Ev
open PySem PySem.Spec PyProof.Rows L2

/-! ### comparisons -/
def ints? : List D → Option (List Int)
  | [] => some []
  | .int i :: r => (ints? r).map (i :: ·)
  | _ => none
def inD (x : D) (ys : List D) : Option Bool := if shp 60 x = true ∧ ys.all (shp 60) = true then some (ys.any fun y => eqD y x) else none
def inAny (x : D) : D → Option Bool
  | .lst ys => inD x ys
  | .tup ys => inD x ys
  | .str j => match x with
    | .str i => some (!(Builtin.Str.occurrences j i 0 j.length 1).isEmpty)
    | _ => none
  | _ => none
def isD : D → D → Option Bool
  | x, .non => some (match x with | .non => true | _ => false)
  | .bl a, .bl b => some (a == b)
  | _, _ => none
def cmpD : CmpOp → D → D → Option Bool
  | .Eq, x, y => if shp 60 x = true ∧ shp 60 y = true then some (eqD x y) else none
  | .NotEq, x, y => if shp 60 x = true ∧ shp 60 y = true then some (!eqD x y) else none
  | .Lt, .int i, .int j => some (decide (i < j))
  | .LtE, .int i, .int j => some (decide (i ≤ j))
  | .Gt, .int i, .int j => some (decide (j < i))
  | .GtE, .int i, .int j => some (decide (j ≤ i))
  | .Lt, .str i, .str j => some (decide (i.cps.toList < j.cps.toList))
  | .Lt, .tup xs, .tup ys => match ints? xs, ints? ys with
    | some ns, some ms => some (HT.lexLt ns ms)
    | _, _ => none
  | .Is, x, y => isD x y
  | .IsNot, x, y => (isD x y).map (!·)
  | .In, x, y => inAny x y
  | .NotIn, x, y => (inAny x y).map (!·)
  | _, _, _ => none

theorem no_some {α : Type} {p : Prop} {k : α} (h : (none : Option α) = some k) : p := nomatch h
section
variable {X : Cx} {c : Cn} {W : WX} {a b : Expr} {pos : Pos} {fa fb : En → R D}
theorem ints_reps {H : Hp} : ∀ {vs : List V} {ds : List D} {ns : List Int}, Reps c H vs ds → ints? ds = some ns → vs = ns.map V.int
  | _, _, _, .nil, e => by cases e; rfl
  | _, d :: ds, ns, .cons h r, e => by
    cases d with
    | int i =>
      simp only [ints?, Option.map_eq_some_iff] at e
      obtain ⟨ms, e1, rfl⟩ := e
      cases h
      rw [ints_reps r e1, List.map_cons]
    | _ => simp [ints?] at e
open Classical in
theorem op_inX {neg : Bool} (hK : X.K = c.K) (hu : X.A.units + 65 < cLine) : OpR X (compareOp (if neg then .NotIn else .In)) (fun x y H Q => ∃ d ds, Rep c H x d ∧ (Rep c H y (.lst ds) ∨ Rep c H y (.tup ds)) ∧ shp 60 d = true ∧ ds.all (shp 60) = true ∧
    Q (.bl (if neg then !(ds.any fun z => eqD z d) else ds.any fun z => eqD z d)) H) := by
  intro pins s σ H x y v u Q I rx ry h
  obtain ⟨d, ds, hd, hq, sd, ss, q⟩ := h
  have rdx := Rep.rd hK I d x v 60 sd hd rx
  let f : Value → Bool := fun w => if h : ∃ e, RdD s.heap w e ∧ shp 60 e = true then eqD h.choose d else false
  have fe : ∀ w e, RdD s.heap w e → shp 60 e = true → f w = eqD e d := fun w e r z => by
    have h : ∃ e, RdD s.heap w e ∧ shp 60 e = true := ⟨e, r, z⟩
    show (if h : ∃ e, RdD s.heap w e ∧ shp 60 e = true then eqD h.choose d else false) = _
    rw [dif_pos h, RdD.fun h.choose_spec.1 r]
  have fat : ∀ (us : List Value) (es : List D), RdDs s.heap us es → es.all (shp 60) = true → ∀ w ∈ us, SeqAt.EqAt X.A.in1 s w v (f w) := by
    intro us
    induction us with
    | nil => intro _ _ _ w hw; cases hw
    | cons w us ih =>
      intro es r z w' hw
      cases r with
      | cons r1 r2 =>
        rw [List.all_cons, Bool.and_eq_true] at z
        rcases List.mem_cons.mp hw with rfl | hw
        · rw [fe _ _ r1 z.1]
          exact eqAtD 60 _ _ X.A.in1 s _ _ r1 rdx z.1 sd (show X.A.units + 1 + 60 < cLine by omega)
        · exact ih _ r2 z.2 w' hw
  have fany : ∀ (us : List Value) (es : List D), RdDs s.heap us es → es.all (shp 60) = true → us.any f = es.any fun z => eqD z d := by
    intro us
    induction us with
    | nil => intro es r _; cases r; rfl
    | cons w us ih =>
      intro es r z
      cases r with
      | cons r1 r2 =>
        rw [List.all_cons, Bool.and_eq_true] at z
        rw [List.any_cons, List.any_cons, fe _ _ r1 z.1, ih _ r2 z.2]
  rcases hq with hq | hq
  · cases hq with
    | lst hp rs =>
      cases ry
      obtain ⟨its, r, pl, hz⟩ := I.list (SqL.of hp)
      have rds := Reps.rd hK I ds _ its 60 ss rs r
      cases neg with
      | false => exact SeqAt.in_listAt f pl.isList (fun w hw => fat its ds rds ss w (by simpa using hw)) ⟨.bl _, H, I, rfl, by rw [show its.toArray.any f = its.any f by simp, fany its ds rds ss]; exact q⟩
      | true => exact SeqAt.notIn_listAt f pl.isList (fun w hw => fat its ds rds ss w (by simpa using hw)) ⟨.bl _, H, I, rfl, by rw [show its.toArray.any f = its.any f by simp, fany its ds rds ss]; exact q⟩
  · cases hq with
    | tup hp rs =>
      cases ry
      obtain ⟨its, r, pl, hz⟩ := I.tuple (SqT.of hp)
      have rds := Reps.rd hK I ds _ its 60 ss rs r
      cases neg with
      | false => exact SeqAt.in_tupleAt f pl (fun w hw => fat its ds rds ss w (by simpa using hw)) ⟨.bl _, H, I, rfl, by rw [show its.toArray.any f = its.any f by simp, fany its ds rds ss]; exact q⟩
      | true => exact SeqAt.notIn_tupleAt f pl (fun w hw => fat its ds rds ss w (by simpa using hw)) ⟨.bl _, H, I, rfl, by rw [show its.toArray.any f = its.any f by simp, fany its ds rds ss]; exact q⟩
theorem rep_non {H : Hp} {v : V} {d : D} (r : Rep c H v d) : decide (v = .non) = (match d with | .non => true | _ => false) := by
  cases r <;> simp
/-- two values that are looked at, a bool out -/
def rCp (c : Cn) (g : D → D → Option Bool) : R2 := fun x y H Q => ∃ d e k, Rep c H x d ∧ Rep c H y e ∧ g d e = some k ∧ Q (.bl k) H
theorem cpr (hK : X.K = c.K) (hu : X.A.units + 65 < cLine) (op : CmpOp) : OpR X (compareOp op) (rCp c (cmpD op)) := by
  intro pins s σ0 H x y v u Q I rx ry h
  obtain ⟨d, e, k, rd, re, g, q⟩ := h
  cases op with
  | Eq =>
    simp only [cmpD] at g
    split at g
    · rename_i z; cases g; exact op_eqX hK (by omega) pins s σ0 H x y v u Q I rx ry ⟨d, e, rd, re, z.1, z.2, q⟩
    · cases g
  | NotEq =>
    simp only [cmpD] at g
    split at g
    · rename_i z; cases g; exact op_neX hK (by omega) pins s σ0 H x y v u Q I rx ry ⟨d, e, rd, re, z.1, z.2, q⟩
    · cases g
  | Lt =>
    cases d <;> cases e <;> simp only [cmpD] at g <;> try exact no_some g
    · cases g; cases rd; cases re; exact op_lt pins s σ0 H _ _ v u Q I rx ry ⟨_, _, rfl, rfl, q⟩
    · cases g; cases rd; cases re; exact op_lt_str pins s σ0 H _ _ v u Q I rx ry ⟨_, _, rfl, rfl, q⟩
    · split at g
      · rename_i ns ms e1 e2
        cases g
        cases rd with
        | tup h1 r1 =>
          cases re with
          | tup h2 r2 =>
            rw [ints_reps r1 e1] at h1
            rw [ints_reps r2 e2] at h2
            exact op_ltT (by omega) pins s σ0 H _ _ v u Q I rx ry ⟨_, _, ns, ms, rfl, rfl, SqT.of h1, SqT.of h2, q⟩
      · cases g
  | LtE =>
    cases d <;> cases e <;> simp only [cmpD] at g <;> try exact no_some g
    cases g; cases rd; cases re; exact op_le pins s σ0 H _ _ v u Q I rx ry ⟨_, _, rfl, rfl, q⟩
  | Gt =>
    cases d <;> cases e <;> simp only [cmpD] at g <;> try exact no_some g
    cases g; cases rd; cases re; exact op_gt pins s σ0 H _ _ v u Q I rx ry ⟨_, _, rfl, rfl, q⟩
  | GtE =>
    cases d <;> cases e <;> simp only [cmpD] at g <;> try exact no_some g
    cases g; cases rd; cases re; exact op_ge pins s σ0 H _ _ v u Q I rx ry ⟨_, _, rfl, rfl, q⟩
  | Is =>
    simp only [cmpD] at g
    cases e with
    | non =>
      cases re
      have hk : k = decide (x = .non) := by
        rw [rep_non rd]
        cases d <;> simp only [isD, Option.some.injEq] at g <;> exact g.symm
      subst hk
      exact op_isN pins s σ0 H _ _ v u Q I rx ry ⟨rfl, q⟩
    | bl b =>
      cases d <;> simp only [isD] at g <;> try exact no_some g
      cases g; cases rd; cases re
      exact op_isBl pins s σ0 H _ _ v u Q I rx ry ⟨_, _, rfl, rfl, by rw [← Bool.beq_eq_decide_eq]; exact q⟩
    | _ => cases d <;> simp [isD] at g
  | IsNot =>
    simp only [cmpD, Option.map_eq_some_iff] at g
    obtain ⟨k', g, rfl⟩ := g
    cases e with
    | non =>
      cases re
      have hk : k' = decide (x = .non) := by
        rw [rep_non rd]
        cases d <;> simp only [isD, Option.some.injEq] at g <;> exact g.symm
      subst hk
      exact op_notN pins s σ0 H _ _ v u Q I rx ry ⟨rfl, q⟩
    | bl b =>
      cases d <;> simp only [isD] at g <;> try exact no_some g
      cases g; cases rd; cases re
      exact op_notBl pins s σ0 H _ _ v u Q I rx ry ⟨_, _, rfl, rfl, by rw [← Bool.beq_eq_decide_eq]; exact q⟩
    | _ => cases d <;> simp [isD] at g
  | In =>
    simp only [cmpD] at g
    cases e with
    | lst ys =>
      simp only [inAny, inD] at g
      split at g
      · rename_i z; cases g
        exact op_inX (neg := false) hK hu pins s σ0 H x y v u Q I rx ry ⟨d, ys, rd, .inl re, z.1, z.2, q⟩
      · cases g
    | tup ys =>
      simp only [inAny, inD] at g
      split at g
      · rename_i z; cases g
        exact op_inX (neg := false) hK hu pins s σ0 H x y v u Q I rx ry ⟨d, ys, rd, .inr re, z.1, z.2, q⟩
      · cases g
    | str j =>
      cases d <;> simp only [inAny] at g <;> try exact no_some g
      cases g; cases rd; cases re
      exact op_in_str pins s σ0 H _ _ v u Q I rx ry ⟨_, _, rfl, rfl, q⟩
    | _ => simp [inAny] at g
  | NotIn =>
    simp only [cmpD, Option.map_eq_some_iff] at g
    obtain ⟨k', g, rfl⟩ := g
    cases e with
    | lst ys =>
      simp only [inAny, inD] at g
      split at g
      · rename_i z; cases g
        exact op_inX (neg := true) hK hu pins s σ0 H x y v u Q I rx ry ⟨d, ys, rd, .inl re, z.1, z.2, q⟩
      · cases g
    | tup ys =>
      simp only [inAny, inD] at g
      split at g
      · rename_i z; cases g
        exact op_inX (neg := true) hK hu pins s σ0 H x y v u Q I rx ry ⟨d, ys, rd, .inr re, z.1, z.2, q⟩
      · cases g
    | str j =>
      cases d <;> simp only [inAny] at g <;> try exact no_some g
      cases g; cases rd; cases re
      exact op_notin_str pins s σ0 H _ _ v u Q I rx ry ⟨_, _, rfl, rfl, q⟩
    | _ => simp [inAny] at g

def liftB : Option Bool → En → R D
  | some k, ρ => .ok (.bl k) ρ
  | none, _ => .bad
@[simp] theorem liftB_some (k : Bool) (ρ : En) : liftB (some k) ρ = .ok (.bl k) ρ := rfl
@[simp] theorem liftB_none (ρ : En) : liftB none ρ = .bad := rfl
theorem twoC {g : D → D → Option Bool} {σ : Sg} {H : Hp} {Q : VK} {rr : R2} (hr : ∀ x y H2, rCp c g x y H2 Q → rr x y H2 Q)
    (h : tE c W (fun ρ => (fa ρ).bind fun x ρ1 => (fb ρ1).bind fun y ρ2 => liftB (g x y) ρ2) σ H Q) : tE c W fa σ H fun x H1 => tE c W fb σ H1 fun y H2 => rr x y H2 Q := by
  refine tG.seq h fun pin Z d ρ1 x H1 Hf1 S1 r1 h1 => ?_
  refine ⟨pin, Z, ρ1, Hf1, S1, Go.seq h1 fun e ρ2 y H2 Hf2 s2 S2 r2 h2 => ?_⟩
  refine hr _ _ _ ?_
  cases hg : g d e with
  | none => rw [hg] at h2; exact h2.elim
  | some z =>
    rw [hg] at h2
    exact ⟨d, e, z, (r1.mono s2).mono S2.f, r2.mono S2.f, hg, h2 _ _ _ (Same.refl _) S2 (.bl z)⟩
/-- the marks behind «in» are for displays of sets alone -/
def isSet : Expr → Bool
  | .Set .. => true
  | _ => false
theorem noMark {op : CmpOp} {b : Expr} (h : isSet b = false) : behindInMarks op b = false := by
  cases b <;> first | rfl | cases h
theorem s_cmp {op : CmpOp} (hK : X.K = c.K) (hu : X.A.units + 65 < cLine) (ns : isSet b = false) (ha : PE X a (tE c W fa)) (hb : PE X b (tE c W fb)) :
    PE X (.Compare a [op] [b] pos) (tE c W fun ρ => (fa ρ).bind fun x ρ1 => (fb ρ1).bind fun y ρ2 => liftB (cmpD op x y) ρ2) :=
  pe_of (pe_cmpR (cpr hK hu op) ha hb (noMark ns)) fun _ _ _ h => twoC (fun _ _ _ z => z) h
def boolOf (d : D) (ρ : En) : R Bool :=
  match d with
  | .bl k => .ok k ρ
  | _ => .bad
theorem s_cmpT {op : CmpOp} (hK : X.K = c.K) (hu : X.A.units + 65 < cLine) (ns : isSet b = false) (ha : PE X a (tE c W fa)) (hb : PE X b (tE c W fb)) :
    PT X (.Compare a [op] [b] pos) (tT c W fun ρ => ((fa ρ).bind fun x ρ1 => (fb ρ1).bind fun y ρ2 => liftB (cmpD op x y) ρ2).bind boolOf) := by
  refine pt_of (pt_cmpR (cpr hK hu op) ha hb (noMark ns)) fun σ H Q h => ?_
  refine twoC (fun _ _ _ z => z) (Q := fun x H' => ∃ k, x = .bl k ∧ Q k H') ?_
  refine tG.seq h fun pin Z d ρ1 x H1 Hf1 S1 r1 h1 => ?_
  cases d <;> try exact h1.elim
  cases r1
  exact ⟨_, rfl, h1 _ _ _ (Same.refl _) S1 rfl⟩
/-- a op b op' c -/
theorem chainC {e : Expr} {fc : En → R D} {g g' : D → D → Option Bool} {σ : Sg} {H : Hp} {Q : VK} {rr rr' : R2} (hr : ∀ x y H2 Q, rCp c g x y H2 Q → rr x y H2 Q) (hr' : ∀ x y H2 Q, rCp c g' x y H2 Q → rr' x y H2 Q)
    (h : tE c W (fun ρ => (fa ρ).bind fun x ρ1 => (fb ρ1).bind fun y ρ2 => (liftB (g x y) ρ2).bind fun k ρ3 => match k with | .bl true => (fc ρ3).bind fun z ρ4 => liftB (g' y z) ρ4 | _ => .ok (.bl false) ρ3) σ H Q) :
    tChain rr rr' (tE c W fa) (tE c W fb) (tE c W fc) σ H Q := by
  refine tG.seq h fun pin Z d ρ1 x H1 Hf1 S1 r1 h1 => ?_
  refine ⟨pin, Z, ρ1, Hf1, S1, Go.seq h1 fun e ρ2 y H2 Hf2 s2 S2 r2 h2 => ?_⟩
  cases hg : g d e with
  | none => rw [hg] at h2; exact h2.elim
  | some k =>
    rw [hg] at h2
    refine hr _ _ _ _ ⟨d, e, k, (r1.mono s2).mono S2.f, r2.mono S2.f, hg, k, rfl, ?_⟩
    cases k with
    | false => exact iteF (h2 _ _ _ (Same.refl _) S2 (.bl false))
    | true =>
      refine iteT ⟨pin, Z, ρ2, Hf2, S2, Go.seq (r := fc ρ2) h2 fun z ρ3 w H3 Hf3 s3 S3 r3 h3 => ?_⟩
      cases hg' : g' e z with
      | none => rw [hg'] at h3; exact h3.elim
      | some k' =>
        rw [hg'] at h3
        exact hr' _ _ _ _ ⟨e, z, k', (r2.mono s3).mono S3.f, r3.mono S3.f, hg', h3 _ _ _ (Same.refl _) S3 (.bl k')⟩
theorem noLast {op op' : CmpOp} {b c : Expr} (h : isSet c = false) : lastMarks [op, op'] [b, c] = false := noMark (op := op') h
theorem s_chain {e : Expr} {fc : En → R D} {op op' : CmpOp} (hK : X.K = c.K) (hu : X.A.units + 65 < cLine) (ns : isSet e = false) (ha : PE X a (tE c W fa)) (hb : PE X b (tE c W fb)) (he : PE X e (tE c W fc)) :
    PE X (.Compare a [op, op'] [b, e] pos) (tE c W (fun ρ => (fa ρ).bind fun x ρ1 => (fb ρ1).bind fun y ρ2 => (liftB (cmpD op x y) ρ2).bind fun k ρ3 => match k with | .bl true => (fc ρ3).bind fun z ρ4 => liftB (cmpD op' y z) ρ4 | _ => .ok (.bl false) ρ3)) :=
  pe_of (pe_chain (cpr hK hu op) (cpr hK hu op') ha hb he (noLast ns)) fun _ _ _ h => chainC (e := e) (fun _ _ _ _ z => z) (fun _ _ _ _ z => z) h
theorem s_chainT {e : Expr} {fc : En → R D} {op op' : CmpOp} (hK : X.K = c.K) (hu : X.A.units + 65 < cLine) (ns : isSet e = false) (ha : PE X a (tE c W fa)) (hb : PE X b (tE c W fb)) (he : PE X e (tE c W fc)) :
    PT X (.Compare a [op, op'] [b, e] pos) (tT c W (fun ρ => ((fa ρ).bind fun x ρ1 => (fb ρ1).bind fun y ρ2 => (liftB (cmpD op x y) ρ2).bind fun k ρ3 => match k with | .bl true => (fc ρ3).bind fun z ρ4 => liftB (cmpD op' y z) ρ4 | _ => .ok (.bl false) ρ3).bind boolOf)) := by
  refine pt_of (pt_chain (cpr hK hu op) (cpr hK hu op') ha hb he (noLast ns)) fun σ H Q h => ?_
  refine chainC (e := e) (fun _ _ _ _ z => z) (fun _ _ _ _ z => z) (Q := fun x H' => ∃ k, x = .bl k ∧ Q k H') ?_
  refine tG.seq h fun pin Z d ρ1 x H1 Hf1 S1 r1 h1 => ?_
  cases d <;> try exact h1.elim
  cases r1
  exact ⟨_, rfl, h1 _ _ _ (Same.refl _) S1 rfl⟩

/-! ### truth, and, or, not, if -/
def tru : D → Option Bool
  | .non => some false
  | .bl b => some b
  | .int i => some (i != 0)
  | .str x => if x.length ≤ LN then some ((x.length : Int) != 0) else none
  | .lst xs => some (!xs.isEmpty)
  | .tup xs => some (!xs.isEmpty)
  | _ => none
def truB (d : D) (ρ : En) : R Bool := R.lift (tru d) ρ
theorem emp_reps {H : Hp} {vs : List V} {ds : List D} (r : Reps c H vs ds) : ds.isEmpty = vs.isEmpty := by cases r <;> rfl
theorem tru_rep (hK : X.K = c.K) {H Hf : Hp} {v : V} {d : D} {k : Bool} (s : Same Hf H) (r : Rep c Hf v d ∨ ∃ p ho b, v = .ref p ∧ d = Ob.d b ∧ H p = some ho ∧ ObR c Hf ho b) (h : tru d = some k) : TruV X.K v H k := by
  rcases r with r | ⟨p, vs, b, rfl, rfl, e, r⟩
  · cases r with
    | dK => cases h
    | dT => cases h
    | non => cases h; rfl
    | bl b => cases h; rfl
    | int i => cases h; rfl
    | str x =>
      simp only [tru] at h
      split at h
      · rename_i z; cases h; exact ⟨by rw [LN_eq]; exact z, rfl⟩
      · cases h
    | tup hq r => cases h; exact .inr (.inl ⟨_, SqT.of (s _ _ hq), by rw [emp_reps r]⟩)
    | lst hq r => cases h; exact .inl ⟨_, SqL.of (s _ _ hq), by rw [emp_reps r]⟩
    | fn k => cases h
    | scr hq => cases h
  · cases b with
    | lst xs =>
      obtain ⟨us, rfl, r⟩ := r.lst
      cases h
      exact .inl ⟨_, SqL.of e, by rw [emp_reps r]⟩
    | dK => cases h
    | dT => cases h
/-- an expression as a test, by its truth -/
theorem s_truth (hK : X.K = c.K) (he : ∀ whole, isTrue a X.env whole = (do let v ← whole; standAt a.pos; holding [v] (truthy v))) (ha : PE X a (tL c W fa)) : PT X a (tT c W fun ρ => (fa ρ).bind truB) := by
  refine pt_of (pt_truth ha he) fun σ H Q h => ?_
  refine tG.seq h fun pin Z d ρ1 x H1 Hf1 S1 r1 h1 => ?_
  unfold truB at h1
  cases ht : tru d with
  | none => rw [ht] at h1; exact h1.elim
  | some k => rw [ht] at h1; exact ⟨k, tru_rep hK S1.f r1 ht, h1 _ _ _ (Same.refl _) S1 rfl⟩
variable {ta tb : En → R Bool} {rest : List Expr}
theorem s_andT (ha : PT X a (tT c W ta)) (hb : PW X (.BoolOp .And (b :: rest) pos) (tT c W tb)) : PW X (.BoolOp .And (a :: b :: rest) pos) (tT c W fun ρ => (ta ρ).bind fun k ρ1 => if k = true then tb ρ1 else .ok false ρ1) := by
  refine ⟨fun wh pins s σ H Q I h => (pw_and ha hb).run wh pins s σ H Q I ?_⟩
  refine tG.seq h fun pin Z k ρ1 k' H1 Hf1 S1 r1 h1 => ?_
  cases r1
  cases k with
  | true => exact iteT ⟨pin, Z, ρ1, Hf1, S1, h1⟩
  | false => exact iteF (h1 _ _ _ (Same.refl _) S1 rfl)
theorem s_orT (ha : PT X a (tT c W ta)) (hb : PW X (.BoolOp .Or (b :: rest) pos) (tT c W tb)) : PW X (.BoolOp .Or (a :: b :: rest) pos) (tT c W fun ρ => (ta ρ).bind fun k ρ1 => if k = true then .ok true ρ1 else tb ρ1) := by
  refine ⟨fun wh pins s σ H Q I h => (pw_or ha hb).run wh pins s σ H Q I ?_⟩
  refine tG.seq h fun pin Z k ρ1 k' H1 Hf1 S1 r1 h1 => ?_
  cases r1
  cases k with
  | true => exact iteT (h1 _ _ _ (Same.refl _) S1 rfl)
  | false => exact iteF ⟨pin, Z, ρ1, Hf1, S1, h1⟩
theorem s_and1 (ha : PT X a (tT c W ta)) : PW X (.BoolOp .And [a] pos) (tT c W ta) := pw_and1 ha
theorem s_or1 (ha : PT X a (tT c W ta)) : PW X (.BoolOp .Or [a] pos) (tT c W ta) := pw_or1 ha
theorem s_notT (ha : PT X a (tT c W ta)) : PT X (.UnaryOp .Not a pos) (tT c W fun ρ => (ta ρ).bind fun k ρ1 => .ok (!k) ρ1) := by
  refine pt_of (pt_not ha) fun σ H Q h => ?_
  refine tG.seq h fun pin Z k ρ1 k' H1 Hf1 S1 r1 h1 => ?_
  cases r1
  exact h1 _ _ _ (Same.refl _) S1 rfl
/-- as values -/
def andV (f : En → R D) (d : D) (ρ : En) : R D :=
  match tru d with
  | some true => f ρ
  | some false => .ok d ρ
  | none => .bad
def orV (f : En → R D) (d : D) (ρ : En) : R D :=
  match tru d with
  | some true => .ok d ρ
  | some false => f ρ
  | none => .bad
theorem s_and (hK : X.K = c.K) (ha : PE X a (tE c W fa)) (hb : PE X (.BoolOp .And (b :: rest) pos) (tE c W fb)) : PE X (.BoolOp .And (a :: b :: rest) pos) (tE c W fun ρ => (fa ρ).bind (andV fb)) := by
  refine pe_of (pe_andT ha hb) fun σ H Q h => ?_
  refine tG.seq h fun pin Z d ρ1 x H1 Hf1 S1 r1 h1 => ?_
  unfold andV at h1
  cases ht : tru d with
  | none => rw [ht] at h1; exact h1.elim
  | some k =>
    rw [ht] at h1
    refine ⟨k, tru_rep hK S1.f (.inl r1) ht, ?_⟩
    cases k with
    | true => exact iteT ⟨pin, Z, ρ1, Hf1, S1, h1⟩
    | false => exact iteF (h1 _ _ _ (Same.refl _) S1 r1)
theorem s_or (hK : X.K = c.K) (ha : PE X a (tE c W fa)) (hb : PE X (.BoolOp .Or (b :: rest) pos) (tE c W fb)) : PE X (.BoolOp .Or (a :: b :: rest) pos) (tE c W fun ρ => (fa ρ).bind (orV fb)) := by
  refine pe_of (pe_orT ha hb) fun σ H Q h => ?_
  refine tG.seq h fun pin Z d ρ1 x H1 Hf1 S1 r1 h1 => ?_
  unfold orV at h1
  cases ht : tru d with
  | none => rw [ht] at h1; exact h1.elim
  | some k =>
    rw [ht] at h1
    refine ⟨k, tru_rep hK S1.f (.inl r1) ht, ?_⟩
    cases k with
    | true => exact iteT (h1 _ _ _ (Same.refl _) S1 r1)
    | false => exact iteF ⟨pin, Z, ρ1, Hf1, S1, h1⟩
def notV (d : D) : Option D := (tru d).map fun k => .bl (!k)
theorem s_not (hK : X.K = c.K) (ha : PE X a (tE c W fa)) : PE X (.UnaryOp .Not a pos) (tE c W fun ρ => (fa ρ).bind fun d ρ1 => R.lift (notV d) ρ1) := by
  refine pe_of (pe_notT ha) fun σ H Q h => ?_
  refine tG.seq h fun pin Z d ρ1 x H1 Hf1 S1 r1 h1 => ?_
  unfold notV at h1
  cases ht : tru d with
  | none => rw [ht] at h1; exact h1.elim
  | some k => rw [ht] at h1; exact ⟨k, tru_rep hK S1.f (.inl r1) ht, h1 _ _ _ (Same.refl _) S1 (.bl _)⟩
theorem s_ife {e : Expr} (hc : PT X e (tT c W ta)) (ha : PE X a (tE c W fa)) (hb : PE X b (tE c W fb)) : PE X (.IfExp e a b pos) (tE c W fun ρ => (ta ρ).bind fun k ρ1 => if k = true then fa ρ1 else fb ρ1) := by
  refine pe_of (pe_ifExp hc ha hb) fun σ H Q h => ?_
  refine tG.seq h fun pin Z k ρ1 k' H1 Hf1 S1 r1 h1 => ?_
  cases r1
  cases k with
  | true => exact iteT ⟨pin, Z, ρ1, Hf1, S1, h1⟩
  | false => exact iteF ⟨pin, Z, ρ1, Hf1, S1, h1⟩

/-! ### several values, displays -/
def noStar : Expr → Bool
  | .Starred .. => false
  | _ => true
theorem star_cons {e : Expr} {es : List Expr} {env : Env} (h : noStar e = true) : starEach (e :: es) env = (false, eval e env) :: starEach es env := by
  cases e <;> first | rfl | cases h
theorem s_nil : PA X [] (tA c W fun ρ => .ok [] ρ) := pa_of pa_nil fun σ H Q ⟨pin, Z, ρ, Hf, S, g⟩ => g _ _ _ (Same.refl _) S .nil
theorem s_cons {es : List Expr} {fs : En → R (List D)} (h : noStar a = true) (ha : PE X a (tE c W fa)) (hs : PA X es (tA c W fs)) :
    PA X (a :: es) (tA c W fun ρ => (fa ρ).bind fun x ρ1 => (fs ρ1).bind fun xs ρ2 => .ok (x :: xs) ρ2) := by
  refine pa_of (pa_cons ha hs (star_cons h)) fun σ H Q h => ?_
  refine tG.seq h fun pin Z d ρ1 x H1 Hf1 S1 r1 h1 => ?_
  refine ⟨pin, Z, ρ1, Hf1, S1, Go.seq h1 fun ds ρ2 xs H2 Hf2 s2 S2 r2 h2 => ?_⟩
  exact h2 _ _ _ (Same.refl _) S2 (.cons (r1.mono s2) r2)
theorem s_tup {es : List Expr} {fs : En → R (List D)} {k : Nat} (hl : ∀ ρ ds ρ', fs ρ = .ok ds ρ' → ds.length ≤ LN) (hs : PA X es (tA c W fs)) : PE X (.Tuple es k pos) (tE c W fun ρ => (fs ρ).bind fun xs ρ1 => .ok (.tup xs) ρ1) := by
  refine pe_of (pe_tup hs) fun σ H Q ⟨pin, Z, ρ, Hf, S, g⟩ => ⟨pin, Z, ρ, Hf, S, ?_⟩
  dsimp only at g
  cases hf : fs ρ with
  | ok ds ρ1 =>
    rw [hf] at g
    intro vs H1 Hf1 s1 S1 r1
    refine ⟨by rw [LN_eq, Reps.length r1]; exact hl _ _ _ hf, fun p hp => ?_⟩
    obtain ⟨S', s'⟩ := S1.newS hp
    exact g _ _ _ (s1.trans s') S' (Rep.newT s' r1)
  | err x ρ1 => rw [hf] at g; exact g
  | bad => rw [hf] at g; exact g
/-- a new list of the values -/
theorem s_lst {es : List Expr} {fs : En → R (List D)} (hl : ∀ ρ ds ρ', fs ρ = .ok ds ρ' → ds.length ≤ LN) (hs : PA X es (tA c W fs)) : PE X (.List es pos) (tF c W fs) := by
  refine pe_of (pe_lst hs) fun σ H Q ⟨pin, Z, ρ, Hf, S, g⟩ => ⟨pin, Z, ρ, Hf, S, ?_⟩
  cases hf : fs ρ with
  | ok ds ρ1 =>
    rw [hf] at g
    intro vs H1 Hf1 s1 S1 r1
    refine ⟨by rw [LN_eq, Reps.length r1]; exact hl _ _ _ hf, fun p hp => ?_⟩
    exact g _ _ Hf1 s1 (S1.new hp) ⟨p, vs, rfl, upd_same, S1.f.free hp, S1.z.free hp, S1.away_new hp, r1⟩
  | err x ρ1 => rw [hf] at g; exact g
  | bad => rw [hf] at g; exact g
/-- a new list as a value -/
theorem s_fr {f : En → R (List D)} (h : PE X a (tF c W f)) : PE X a (tE c W fun ρ => (f ρ).bind fun ds ρ1 => .ok (.lst ds) ρ1) := by
  refine pe_of h fun σ H Q ⟨pin, Z, ρ, Hf, S, g⟩ => ⟨pin, Z, ρ, Hf, S, ?_⟩
  dsimp only at g
  cases hf : f ρ with
  | ok ds ρ1 =>
    rw [hf] at g
    intro v H1 Hf1 s1 S1 ⟨p, vs, e1, e2, e3, e4, aw, r⟩
    subst e1
    obtain ⟨S', s'⟩ := S1.speak e2 e3 e4 aw
    exact g _ _ _ (s1.trans s') S' (Rep.newL s' r)
  | err x ρ1 => rw [hf] at g; exact g
  | bad => rw [hf] at g; exact g
end
end Ev

end
section
set_option maxHeartbeats 2000000
namespace Ev
open PySem PySem.Spec PyProof.Rows L2

/-! ### dicts: what stands at a key -/
def keyD : D → Option Key
  | .int i => some (.inl i)
  | .str x => some (.inr x)
  | _ => none
def keysD : List D → Option (List Key)
  | [] => some []
  | d :: ds => (keyD d).bind fun k => (keysD ds).map (k :: ·)
def keyT : D → Option (List Key)
  | .tup ds => keysD ds
  | _ => none
def lkp {κ : Type} [DecidableEq κ] : List κ → List D → κ → Option D
  | k :: ks, x :: xs, j => if k = j then some x else lkp ks xs j
  | _, _, _ => none
/-- a dict, a key that it may have: what stands there -/
def dgD : D → D → Option (Option D)
  | .dK ks xs, k => (keyD k).map (lkp ks xs)
  | .dT ks xs, k => (keyT k).map (lkp ks xs)
  | _, _ => none
section
variable {X : Cx} {c : Cn}
theorem key_rep {H : Hp} {y : V} {e : D} {k : Key} (r : Rep c H y e) (g : keyD e = some k) : y = kV k := by
  cases e <;> first | (cases g; cases r; rfl) | cases g
theorem keys_rep {H : Hp} : ∀ {vs : List V} {ds : List D} {ks : List Key}, Reps c H vs ds → keysD ds = some ks → vs = ks.map kV
  | _, _, _, .nil, g => by cases g; rfl
  | _, d :: ds, ks, .cons r rs, g => by
    simp only [keysD, Option.bind_eq_some_iff, Option.map_eq_some_iff] at g
    obtain ⟨k, g1, ks', g2, rfl⟩ := g
    rw [key_rep r g1, keys_rep rs g2]
    rfl
/-- what is found, side by side -/
def RepO (c : Cn) (H : Hp) : Option V → Option D → Prop
  | some v, some d => Rep c H v d
  | none, none => True
  | _, _ => False
theorem lkp_rep {κ : Type} [DecidableEq κ] {H : Hp} (k : κ) : ∀ {kvs : List (κ × V)} {xs : List D}, Reps c H (kvs.map (·.2)) xs → RepO c H (valV kvs k) (lkp (kvs.map (·.1)) xs k)
  | [], _, .nil => trivial
  | p :: kvs, x :: xs, .cons r rs => by
    show RepO c H _ (if p.1 = k then some x else lkp (kvs.map (·.1)) xs k)
    by_cases e : p.1 = k
    · rw [valV_pos e, if_pos e]; exact r
    · rw [valV_neg e, if_neg e]; exact lkp_rep k rs
theorem dget_of {H Hf : Hp} {x y : V} {d e : D} {o : Option D} (s : Same Hf H) (rd : relL c (fun _ => none) [] [] Hf H x d) (re : Rep c Hf y e) (g : dgD d e = some o) : ∃ a ov, x = .ref a ∧ DGet H a y ov ∧ RepO c Hf ov o := by
  have goK : ∀ {a : Addr} {kvs : List (Key × V)} {ks : List Key} {xs : List D}, Rd H a (.dK kvs) → kvs.map (·.1) = ks → Reps c Hf (kvs.map (·.2)) xs → dgD (.dK ks xs) e = some o → ∃ ov, DGet H a y ov ∧ RepO c Hf ov o := by
    rintro a kvs ks xs rd rfl r g
    simp only [dgD, Option.map_eq_some_iff] at g
    obtain ⟨k, g1, rfl⟩ := g
    exact ⟨_, .inl ⟨kvs, k, rd, key_rep re g1, rfl⟩, lkp_rep k r⟩
  have goT : ∀ {a : Addr} {kvs : List (List Key × V)} {ks : List (List Key)} {xs : List D}, Rd H a (.dT kvs) → kvs.map (·.1) = ks → Reps c Hf (kvs.map (·.2)) xs → dgD (.dT ks xs) e = some o → ∃ ov, DGet H a y ov ∧ RepO c Hf ov o := by
    rintro a kvs ks xs rd rfl r g
    simp only [dgD, Option.map_eq_some_iff] at g
    obtain ⟨k, g1, rfl⟩ := g
    cases e <;> try (cases g1; done)
    cases re with
    | tup hb rb => exact ⟨_, .inr ⟨kvs, k, _, rd, rfl, by rw [← keys_rep rb g1]; exact s _ _ hb, rfl⟩, lkp_rep k r⟩
  rcases rd with rd | ⟨p, ho, b, rfl, rfl, hp, r⟩
  · cases rd with
    | dK h r => obtain ⟨ov, q⟩ := goK (.inr ⟨_, s _ _ h⟩) rfl r g; exact ⟨_, ov, rfl, q⟩
    | dT h r => obtain ⟨ov, q⟩ := goT (.inr ⟨_, s _ _ h⟩) rfl r g; exact ⟨_, ov, rfl, q⟩
    | _ => cases g
  · cases b <;> cases ho <;> first | exact r.elim | (cases g; done) | (obtain ⟨ov, q⟩ := goK (.inl hp) r.1 r.2 g; exact ⟨_, ov, rfl, q⟩) | (obtain ⟨ov, q⟩ := goT (.inl hp) r.1 r.2 g; exact ⟨_, ov, rfl, q⟩)
/-- d[k] as a subscript by values -/
def rDG : R2 := fun x y H Q => ∃ a v, x = .ref a ∧ DGet H a y (some v) ∧ Q v H
theorem tail_of {pr : Program} {wd : World} {ar : Around} {wish : Value → Shared → Prop} {s0 : Shared} {ve se : Expr} {ov iv : Value} {tn bi : String} {post : Value → Shared → Prop} (ht : s0.TypeIs ov tn) (lk : typeLookup (.type tn) "__getitem__" = pure (some (.builtin bi)))
    (hs : subscripted se false ov iv = operate [ov, iv] (getItem ov iv)) (go : wpAny (model pr wd) ar (getItem ov iv) post wish s0) : wpAny (model pr wd) ar (subscriptTail ve se ov iv) post wish s0 := by
  have last : wpAny (model pr wd) ar (subscripted se false ov iv) (fun got st => wpAny (model pr wd) ar (letTemporaryGo ve ov got >>= fun _ => pure got) post wish st) wish s0 := by
    rw [hs]
    refine wpAny_operating (wpAny_mono go (fun got st ok => ?_) fun _ _ z => z)
    exact wpAny_bind (wpAny_letTemporaryGo (wpAny_pure ok))
  unfold subscriptTail
  refine wpAny_bind ?_
  rw [getitemInPython_of_ne ht.not_modules]
  refine wpAny_bind (wpAny_specialOf ht lk ?_)
  first | exact wpAny_pure (wpAny_bind last) | exact wpAny_bind (wpAny_pure (wpAny_bind last)) | exact wpAny_bind last
theorem ix_dict (hu : X.A.units + 1 < cLine) : IxR X rDG := by
  rintro value slice pins s σ H x y v u Q I rx ry ⟨a, w, rfl, g, q⟩ hs
  obtain rfl : v = Value.ref a := rx
  exact tail_of (dict_typeIs I g) PySem.F.slot_dict_getitem.lookup hs (d_getItem hu I g ry fun w' s3 I3 rw' => ⟨w, H, I3, rw', q⟩)
end
/-! ### subscripts -/
def ixD : D → D → Option D
  | .dK ks xs, k => (keyD k).bind (lkp ks xs)
  | .dT ks xs, k => (keyT k).bind (lkp ks xs)
  | .lst xs, .int i => atI xs i
  | .tup xs, .int i => atI xs i
  | .scr ns, .int i => (atI ns i).map .int
  | .str z, .int i => if z.length ≤ LN then (atI z.cps.toList i).map fun k => .str ⟨#[k]⟩ else none
  | _, _ => none
section
variable {X : Cx} {c : Cn} {W : WX} {a b : Expr} {pos : Pos} {fa fb : En → R D}
theorem ixN_lt {n : Nat} {i : Int} {j : Nat} (h : ixN n i = some j) : j < n := (ixN_seq h).2.1
theorem atI_reps {H : Hp} {vs : List V} {ds : List D} {i : Int} {d : D} (r : Reps c H vs ds) (h : atI ds i = some d) : ∃ v, atI vs i = some v ∧ Rep c H v d := by
  unfold atI at h ⊢
  rw [r.length]
  cases e : ixN ds.length i with
  | none => rw [e] at h; cases h
  | some j =>
    rw [e] at h
    obtain ⟨v, e1, r1⟩ := r.get (show ds[j]? = some d from h)
    exact ⟨v, e1, r1⟩
theorem atI_map {α β : Type} (f : α → β) (xs : List α) (i : Int) : atI (xs.map f) i = (atI xs i).map f := by
  unfold atI
  rw [List.length_map]
  cases ixN xs.length i with
  | none => rfl
  | some j => show (xs.map f)[j]? = (xs[j]?).map f; rw [List.getElem?_map]
/-- a value that is looked at, an index -/
theorem ixr (hK : X.K = c.K) {H Hf : Hp} {x y : V} {d e z : D} {Q : VK} (s : Same Hf H) (rd : relL c (fun _ => none) [] [] Hf H x d) (re : Rep c Hf y e) (g : ixD d e = some z) (q : ∀ v, Rep c Hf v z → Q v H) : rIx X.K x y H Q ∨ rDG x y H Q := by
  have dict : dgD d e = some (some z) → rIx X.K x y H Q ∨ rDG x y H Q := fun g => by
    obtain ⟨a, ov, rfl, dg, ro⟩ := dget_of s rd re g
    cases ov with
    | none => exact ro.elim
    | some v => exact .inr ⟨a, v, rfl, dg, q v ro⟩
  have dj : ∀ {o : Option (Option D)}, o.bind (fun z => z) = some z → o = some (some z) := fun {o} h => by
    cases o with
    | none => cases h
    | some o => cases o <;> cases h; rfl
  rcases rd with rd | ⟨p, vs, b, rfl, rfl, hp, r⟩
  · cases rd with
    | tup h r =>
      cases re <;> try exact no_some g
      obtain ⟨v, e1, r1⟩ := atI_reps r g
      exact .inl (.inr (.inl ⟨_, _, _, v, rfl, rfl, SqT.of (s _ _ h), e1, q v r1⟩))
    | lst h r =>
      cases re <;> try exact no_some g
      obtain ⟨v, e1, r1⟩ := atI_reps r g
      exact .inl (.inl ⟨_, _, _, v, rfl, rfl, SqL.of (s _ _ h), e1, q v r1⟩)
    | scr h =>
      cases re <;> try exact no_some g
      rename_i ns i
      simp only [ixD, Option.map_eq_some_iff] at g
      obtain ⟨n, e1, rfl⟩ := g
      exact .inl (.inl ⟨_, _, _, .int n, rfl, rfl, by rw [hK]; exact s.seq h, by rw [atI_map, e1]; rfl, q _ (.int n)⟩)
    | str zz =>
      cases re <;> try exact no_some g
      simp only [ixD] at g
      split at g
      · rename_i hz
        simp only [Option.map_eq_some_iff] at g
        obtain ⟨k, e1, rfl⟩ := g
        exact .inl (.inr (.inr ⟨_, _, k, rfl, rfl, by rw [LN_eq]; exact hz, e1, q _ (.str _)⟩))
      · cases g
    | dK h r => exact dict (by simp only [ixD, dgD, Option.bind_eq_some_iff] at g ⊢; obtain ⟨k, g1, g2⟩ := g; rw [g1, Option.map_some, g2])
    | dT h r => exact dict (by simp only [ixD, dgD, Option.bind_eq_some_iff] at g ⊢; obtain ⟨k, g1, g2⟩ := g; rw [g1, Option.map_some, g2])
    | _ => exact no_some g
  · cases b with
    | lst ds =>
      obtain ⟨us, rfl, r⟩ := r.lst
      cases re <;> try exact no_some g
      obtain ⟨v, e1, r1⟩ := atI_reps r g
      exact .inl (.inl ⟨_, _, _, v, rfl, rfl, SqL.of hp, e1, q v r1⟩)
    | dK ks xs => exact dict (by simp only [Ob.d, ixD, dgD, Option.bind_eq_some_iff] at g ⊢; obtain ⟨k, g1, g2⟩ := g; rw [g1, Option.map_some, g2])
    | dT ks xs => exact dict (by simp only [Ob.d, ixD, dgD, Option.bind_eq_some_iff] at g ⊢; obtain ⟨k, g1, g2⟩ := g; rw [g1, Option.map_some, g2])
/-! ### in -/
def isinD (neg : Bool) (d e : D) : Option Bool :=
  match dgD e d with
  | some o => some (neg != o.isSome)
  | none => cmpD (if neg = true then .NotIn else .In) d e
def rDI (c : Cn) (neg : Bool) : R2 := fun x y H Q => rCp c (cmpD (if neg = true then .NotIn else .In)) x y H Q ∨ ∃ a o, y = .ref a ∧ DGet H a x o ∧ Q (.bl (neg != o.isSome)) H
theorem in_opr (hK : X.K = c.K) (hu : X.A.units + 65 < cLine) (neg : Bool) : OpR X (compareOp (if neg = true then .NotIn else .In)) (rDI c neg) := by
  intro pins s σ H x y v u Q I rx ry h
  rcases h with h | ⟨a, o, rfl, g, q⟩
  · exact cpr hK hu _ pins s σ H x y v u Q I rx ry h
  · obtain rfl : u = Value.ref a := ry
    cases neg with
    | false => exact d_in (by omega) I g rx fun s' I' => ⟨.bl o.isSome, H, I', rfl, by simpa using q⟩
    | true => exact d_notIn (by omega) I g rx fun s' I' => ⟨.bl (!o.isSome), H, I', rfl, by simpa using q⟩
theorem in_reads {neg : Bool} {fl : En → R D} {σ : Sg} {H : Hp} {Q : VK} (h : tE c W (fun ρ => (fa ρ).bind fun x ρ1 => (fl ρ1).bind fun y ρ2 => liftB (isinD neg x y) ρ2) σ H Q) :
    tE c W fa σ H fun x H1 => tL c W fl σ H1 fun y H2 => rDI c neg x y H2 Q := by
  refine tG.seq h fun pin Z d ρ1 x H1 Hf1 S1 r1 h1 => ?_
  refine ⟨pin, Z, ρ1, Hf1, S1, Go.seq h1 fun e ρ2 y H2 Hf2 s2 S2 r2 h2 => ?_⟩
  have r1 := r1.mono s2
  cases hg : isinD neg d e with
  | none => rw [hg] at h2; exact h2.elim
  | some k =>
    rw [hg] at h2
    have q : Q (.bl k) H2 := h2 _ _ _ (Same.refl _) S2 (.bl k)
    unfold isinD at hg
    cases hd : dgD e d with
    | some o =>
      rw [hd] at hg
      cases hg
      obtain ⟨a, ov, rfl, dg, ro⟩ := dget_of S2.f r2 r1 hd
      refine .inr ⟨a, ov, rfl, dg, ?_⟩
      have : ov.isSome = o.isSome := by cases ov <;> cases o <;> first | rfl | exact ro.elim
      rw [this]; exact q
    | none =>
      rw [hd] at hg
      refine .inl ⟨d, e, k, r1.mono S2.f, ?_, hg, q⟩
      rcases r2 with r2 | ⟨p, ho, b, rfl, rfl, hp, r⟩
      · exact r2.mono S2.f
      · cases b with
        | lst xs => obtain ⟨us, rfl, r⟩ := r.lst; exact .lst hp (r.mono S2.f)
        | dK => cases neg <;> cases hg
        | dT => cases neg <;> cases hg
theorem s_isin {neg : Bool} {fl : En → R D} {op : CmpOp} (hop : op = if neg = true then .NotIn else .In) (hK : X.K = c.K) (hu : X.A.units + 65 < cLine) (ns : isSet b = false) (ha : PE X a (tE c W fa)) (hb : PE X b (tL c W fl)) :
    PE X (.Compare a [op] [b] pos) (tE c W fun ρ => (fa ρ).bind fun x ρ1 => (fl ρ1).bind fun y ρ2 => liftB (isinD neg x y) ρ2) := by
  subst hop
  exact pe_of (pe_cmpR (in_opr hK hu neg) ha hb (noMark ns)) fun _ _ _ h => in_reads h
theorem s_isinT {neg : Bool} {fl : En → R D} {op : CmpOp} (hop : op = if neg = true then .NotIn else .In) (hK : X.K = c.K) (hu : X.A.units + 65 < cLine) (ns : isSet b = false) (ha : PE X a (tE c W fa)) (hb : PE X b (tL c W fl)) :
    PT X (.Compare a [op] [b] pos) (tT c W fun ρ => ((fa ρ).bind fun x ρ1 => (fl ρ1).bind fun y ρ2 => liftB (isinD neg x y) ρ2).bind boolOf) := by
  subst hop
  refine pt_of (pt_cmpR (in_opr hK hu neg) ha hb (noMark ns)) fun σ H Q h => ?_
  refine in_reads (Q := fun x H' => ∃ k, x = .bl k ∧ Q k H') ?_
  refine tG.seq h fun pin Z d ρ1 x H1 Hf1 S1 r1 h1 => ?_
  cases d <;> try exact h1.elim
  cases r1
  exact ⟨_, rfl, h1 _ _ _ (Same.refl _) S1 rfl⟩
def plainSl : Expr → Bool
  | .Slice .. => false
  | _ => true
theorem plainIx {b : Expr} (h : plainSl b = true) : PlainIx b := by
  intro o i
  cases b <;> first | rfl | cases h
theorem s_ix (hK : X.K = c.K) (hu : X.A.units + 65 < cLine) (hp : plainSl b = true) (ha : PE X a (tE c W fa)) (hb : PE X b (tE c W fb)) :
    PE X (.Subscript a b pos) (tE c W fun ρ => (fa ρ).bind fun x ρ1 => (fb ρ1).bind fun k ρ2 => R.lift (ixD x k) ρ2) := by
  refine pe_of (pe_ix (ix_seq.or (ix_dict (by omega))) ha hb (plainIx hp)) fun σ H Q h => ?_
  refine two (g := ixD) (rr := fun x y H Q => rIx X.K x y H Q ∨ rDG x y H Q) (fun x y H2 z => ?_) h
  obtain ⟨pin, Z, ρ, σ, Hf, d, e, w, S, rd, re, g, q⟩ := z
  exact ixr hK S.f (.inl rd) re g fun v r => q v _ _ (Same.refl _) S r
theorem rdL_at {pin : Addr} {Z : Hp} {ρ ρ' : En} {σ : Sg} {H Hf : Hp} {i : Nat} {d : D} (S : SR c pin Z ρ σ H Hf) (h : rdL ρ i = .ok d ρ') : ρ' = ρ ∧ ∃ v, σ[i]? = some (some v) ∧ relL c Z ρ σ Hf H v d := by
  unfold rdL at h
  split at h
  · rename_i d' hd
    cases h
    obtain ⟨v, e, r⟩ := S.sl i _ hd
    exact ⟨rfl, v, e, .inl r⟩
  · rename_i io ds hd
    cases h
    obtain ⟨p, vs, e1, e2, e3, e4, r, pn⟩ := S.sl i _ hd
    exact ⟨rfl, _, e1, .inr ⟨p, vs, ds, rfl, rfl, e2, r⟩⟩
  · cases h
/-- x[e], x a name whose list may still grow -/
theorem s_ixV {i : Nat} {x : Str} {p : Pos} (hK : X.K = c.K) (hu : X.A.units + 65 < cLine) (hp : plainSl b = true) (h : PE X (.Name x p) (tVar i)) (hb : PE X b (tE c W fb)) :
    PE X (.Subscript (.Name x p) b pos) (tE c W fun ρ => (rdL ρ i).bind fun _ ρ0 => (fb ρ0).bind fun k ρ1 => (rdL ρ1 i).bind fun x ρ2 => R.lift (ixD x k) ρ2) := by
  refine pe_of (pe_ix (ix_seq.or (ix_dict (by omega))) h hb (plainIx hp)) fun σ H Q ⟨pin, Z, ρ, Hf, S, g⟩ => ?_
  dsimp only at g
  cases h0 : rdL ρ i with
  | err => unfold rdL at h0; split at h0 <;> cases h0
  | bad => rw [h0] at g; exact g.elim
  | ok d0 ρ0 =>
    rw [h0] at g
    obtain ⟨e0, v, ev, _⟩ := rdL_at S h0
    subst e0
    refine ⟨v, ev, pin, Z, ρ0, Hf, S, Go.seq g fun k ρ1 y H1 Hf1 s1 S1 r1 h1 => ?_⟩
    cases h2 : rdL ρ1 i with
    | err => unfold rdL at h2; split at h2 <;> cases h2
    | bad => rw [h2] at h1; exact h1.elim
    | ok d ρ2 =>
      rw [h2] at h1
      obtain ⟨e2, v', ev', rl⟩ := rdL_at S1 h2
      subst e2
      rw [ev] at ev'
      cases ev'
      cases hg : ixD d k with
      | none => simp only [R.bind, hg] at h1; exact h1.elim
      | some z =>
        simp only [R.bind, hg] at h1
        exact ixr hK S1.f rl r1 hg fun v r => h1 v _ _ (Same.refl _) S1 r
/-! ### slices -/
def cutD (xs : List D) (lo hi : Option Int) : List D := (xs.drop (HT.sIx xs.length 0 lo)).take (HT.sIx xs.length xs.length hi - HT.sIx xs.length 0 lo)
def partD : D → Option (Option Int)
  | .int i => some (some i)
  | _ => none
/-- a part of a slice: left out, or an int -/
structure PPart (X : Cx) (c : Cn) (W : WX) (o : Option Expr) (f : En → R (Option Int)) : Prop where
  run : PO X o (tG c W (fun _ _ _ _ _ (x y : Option Int) => x = y) f)
theorem s_pnone : PPart X c W none fun ρ => .ok none ρ := ⟨⟨fun pins s σ H Q I ⟨pin, Z, ρ, Hf, S, g⟩ => po_none.run pins s σ H Q I (g _ _ _ (Same.refl _) S rfl)⟩⟩
theorem s_psome (ha : PE X a (tE c W fa)) : PPart X c W (some a) fun ρ => (fa ρ).bind fun d ρ1 => R.lift (partD d) ρ1 := ⟨⟨fun pins s σ H Q I h => (po_some ha).run pins s σ H Q I (by
  refine tG.seq h fun pin Z d ρ1 x H1 Hf1 S1 r1 h1 => ?_
  cases d <;> try exact h1.elim
  cases r1
  exact ⟨_, rfl, h1 _ _ _ (Same.refl _) S1 rfl⟩)⟩⟩
theorem cutV_reps {H : Hp} {vs : List V} {ds : List D} (lo hi : Option Int) (r : Reps c H vs ds) : Reps c H (cutV vs lo hi) (cutD ds lo hi) := by
  unfold cutV cutD
  rw [r.length]
  exact (r.drop _).take _
/-- what a slice gives -/
def slD : D → Option Int → Option Int → Option D
  | .lst xs, lo, hi => some (.lst (cutD xs lo hi))
  | .tup xs, lo, hi => some (.tup (cutD xs lo hi))
  | .str z, lo, hi => if z.length ≤ LN then some (.str (cutS z lo hi)) else none
  | _, _, _ => none
theorem HT_all {lo hi : Option Int} {xs : List D} (h : HT.sIx xs.length 0 lo = 0 ∧ HT.sIx xs.length xs.length hi = xs.length) : cutD xs lo hi = xs := by
  unfold cutD
  rw [h.1, h.2, List.drop_zero, Nat.sub_zero, List.take_length]
def rSlX (K : PySem.W.Frag) : V → Option Int → Option Int → Hp → VK → Prop := fun x lo hi H Q => rSlL K x lo hi H Q ∨ rSlA K x lo hi H Q ∨ rSlS x lo hi H Q
theorem sl_any : SlR X (rSlX X.K) := sl_list.or (sl_tupA.or sl_str)
theorem slr (hK : X.K = c.K) {pin : Addr} {Z : Hp} {ρ : En} {σ : Sg} {H Hf : Hp} {x : V} {d z : D} {lo hi : Option Int} {Q : VK} (S : SR c pin Z ρ σ H Hf) (rd : relL c Z ρ σ Hf H x d) (g : slD d lo hi = some z)
    (q : ∀ v H' Hf', Same Hf Hf' → SR c pin Z ρ σ H' Hf' → Rep c Hf' v z → Q v H') : rSlX X.K x lo hi H Q := by
  have lst : ∀ {p : Addr} {vs : List V} {ds : List D}, H p = some (.lst vs) → Reps c Hf vs ds → z = .lst (cutD ds lo hi) → rSlX X.K (.ref p) lo hi H Q := fun {p vs ds} hp r e => by
    subst e
    refine .inl ⟨_, _, rfl, SqL.of hp, fun l hl => ?_⟩
    obtain ⟨S', s'⟩ := S.newS hl
    exact q _ _ _ s' S' (Rep.newL s' (cutV_reps lo hi r))
  rcases rd with rd | ⟨p, vs, b, rfl, rfl, hp, r⟩
  · have rd0 := rd
    cases rd with
    | lst h r => cases g; exact lst (S.f _ _ h) r rfl
    | tup h r =>
      cases g
      rename_i p vs ds
      refine .inr (.inl ⟨_, _, rfl, SqT.of (S.f _ _ h), fun e => ?_, fun _ l hl => ?_⟩)
      · rw [r.length] at e
        rw [HT_all e] at q
        exact q _ _ _ (Same.refl _) S rd0
      · obtain ⟨S', s'⟩ := S.newS hl
        exact q _ _ _ s' S' (Rep.newT s' (cutV_reps lo hi r))
    | str zz =>
      simp only [slD] at g
      split at g
      · rename_i hz; cases g
        exact .inr (.inr ⟨_, rfl, by rw [LN_eq]; exact hz, q _ _ _ (Same.refl _) S (.str _)⟩)
      · cases g
    | _ => exact no_some g
  · cases b with
    | lst ds => obtain ⟨us, rfl, r⟩ := r.lst; cases g; exact lst hp r rfl
    | _ => exact no_some g
variable {lo hi : Option Expr} {p2 : Pos} {fl fh : En → R (Option Int)}
theorem s_slice (hK : X.K = c.K) (ha : PE X a (tE c W fa)) (hl : PPart X c W lo fl) (hh : PPart X c W hi fh) :
    PE X (.Subscript a (.Slice lo hi none p2) pos) (tE c W fun ρ => (fa ρ).bind fun x ρ1 => (fl ρ1).bind fun l ρ2 => (fh ρ2).bind fun h ρ3 => R.lift (slD x l h) ρ3) := by
  refine pe_of (pe_slice sl_any ha hl.run hh.run) fun σ H Q h => ?_
  refine tG.seq h fun pin Z d ρ1 x H1 Hf1 S1 r1 h1 => ?_
  refine ⟨pin, Z, ρ1, Hf1, S1, Go.seq h1 fun l ρ2 l' H2 Hf2 s2 S2 r2 h2 => ?_⟩
  refine ⟨pin, Z, ρ2, Hf2, S2, Go.seq h2 fun u ρ3 u' H3 Hf3 s3 S3 r3 h3 => ?_⟩
  cases r2
  cases r3
  cases hg : slD d l u with
  | none => rw [hg] at h3; exact h3.elim
  | some z => rw [hg] at h3; exact slr hK S3 (.inl ((r1.mono s2).mono s3)) hg h3
theorem s_sliceV {i : Nat} {x : Str} {p : Pos} (hK : X.K = c.K) (h : PE X (.Name x p) (tVar i)) (hl : PPart X c W lo fl) (hh : PPart X c W hi fh) :
    PE X (.Subscript (.Name x p) (.Slice lo hi none p2) pos) (tE c W fun ρ => (rdL ρ i).bind fun _ ρ0 => (fl ρ0).bind fun l ρ1 => (fh ρ1).bind fun h ρ2 => (rdL ρ2 i).bind fun x ρ3 => R.lift (slD x l h) ρ3) := by
  refine pe_of (pe_slice sl_any h hl.run hh.run) fun σ H Q ⟨pin, Z, ρ, Hf, S, g⟩ => ?_
  dsimp only at g
  cases h0 : rdL ρ i with
  | err => unfold rdL at h0; split at h0 <;> cases h0
  | bad => rw [h0] at g; exact g.elim
  | ok d0 ρ0 =>
    rw [h0] at g
    obtain ⟨e0, v, ev, _⟩ := rdL_at S h0
    subst e0
    refine ⟨v, ev, pin, Z, ρ0, Hf, S, Go.seq g fun l ρ1 l' H1 Hf1 s1 S1 r1 h1 => ?_⟩
    refine ⟨pin, Z, ρ1, Hf1, S1, Go.seq h1 fun u ρ2 u' H2 Hf2 s2 S2 r2 h2 => ?_⟩
    cases r1
    cases r2
    cases h3 : rdL ρ2 i with
    | err => unfold rdL at h3; split at h3 <;> cases h3
    | bad => rw [h3] at h2; exact h2.elim
    | ok d ρ3 =>
      rw [h3] at h2
      obtain ⟨e2, v', ev', rl⟩ := rdL_at S2 h3
      subst e2
      rw [ev] at ev'
      cases ev'
      cases hg : slD d l u with
      | none => simp only [R.bind, hg] at h2; exact h2.elim
      | some z => simp only [R.bind, hg] at h2; exact slr hK S2 rl hg h2

/-! ### built-in functions of one value -/
inductive B1 where
  | len | abs | int | bool | str | all | any | sum | max | min | tuple
  deriving DecidableEq
def B1.nm : B1 → Str
  | .len => "len" | .abs => "abs" | .int => "int" | .bool => "bool" | .str => "str" | .all => "all" | .any => "any" | .sum => "sum" | .max => "max" | .min => "min" | .tuple => "tuple"
def B1.val : B1 → Value
  | .len => .builtin "len" | .abs => .builtin "abs" | .int => .type "int" | .bool => .type "bool" | .str => .type "str" | .all => .builtin "all" | .any => .builtin "any" | .sum => .builtin "sum" | .max => .builtin "max" | .min => .builtin "min" | .tuple => .type "tuple"
theorem B1.boot : ∀ f : B1, bootBuiltins f.nm = some f.val
  | .len => by decide +kernel
  | .abs => by decide +kernel
  | .int => by decide +kernel
  | .bool => by decide +kernel
  | .str => by decide +kernel
  | .all => by decide +kernel
  | .any => by decide +kernel
  | .sum => by decide +kernel
  | .max => by decide +kernel
  | .min => by decide +kernel
  | .tuple => by decide +kernel
def bls? : List D → Option (List Bool)
  | [] => some []
  | .bl b :: r => (bls? r).map (b :: ·)
  | _ => none
theorem bls_reps {H : Hp} : ∀ {vs : List V} {ds : List D} {bs : List Bool}, Reps c H vs ds → bls? ds = some bs → vs = bs.map V.bl
  | _, _, _, .nil, e => by cases e; rfl
  | _, d :: ds, bs, .cons h r, e => by
    cases d with
    | bl i =>
      simp only [bls?, Option.map_eq_some_iff] at e
      obtain ⟨ms, e1, rfl⟩ := e
      cases h
      rw [bls_reps r e1, List.map_cons]
    | _ => simp [bls?] at e
def maxI : List Int → Option Int
  | [] => none
  | n :: ns => some (ns.foldl max n)
def minI : List Int → Option Int
  | [] => none
  | n :: ns => some (ns.foldl min n)
theorem foldmax : ∀ (ns : List Int) (n : Int), (ns.foldl max n = n ∨ ns.foldl max n ∈ ns) ∧ n ≤ ns.foldl max n ∧ ∀ m ∈ ns, m ≤ ns.foldl max n
  | [], n => ⟨.inl rfl, Int.le_refl _, fun m h => by cases h⟩
  | k :: ns, n => by
    rw [List.foldl_cons]
    obtain ⟨h1, h2, h3⟩ := foldmax ns (max n k)
    refine ⟨?_, by omega, fun m hm => ?_⟩
    · rcases h1 with h1 | h1
      · rw [h1]
        by_cases e : n ≤ k
        · right; rw [Int.max_eq_right e]; exact List.mem_cons_self
        · left; exact Int.max_eq_left (by omega)
      · right; exact List.mem_cons_of_mem _ h1
    · rcases List.mem_cons.mp hm with rfl | hm
      · omega
      · exact h3 m hm
theorem foldmin : ∀ (ns : List Int) (n : Int), (ns.foldl min n = n ∨ ns.foldl min n ∈ ns) ∧ ns.foldl min n ≤ n ∧ ∀ m ∈ ns, ns.foldl min n ≤ m
  | [], n => ⟨.inl rfl, Int.le_refl _, fun m h => by cases h⟩
  | k :: ns, n => by
    rw [List.foldl_cons]
    obtain ⟨h1, h2, h3⟩ := foldmin ns (min n k)
    refine ⟨?_, by omega, fun m hm => ?_⟩
    · rcases h1 with h1 | h1
      · rw [h1]
        by_cases e : n ≤ k
        · left; exact Int.min_eq_left e
        · right; rw [Int.min_eq_right (by omega)]; exact List.mem_cons_self
      · right; exact List.mem_cons_of_mem _ h1
    · rcases List.mem_cons.mp hm with rfl | hm
      · omega
      · exact h3 m hm
theorem maxI_is {ns : List Int} {m k : Int} (h : maxI ns = some k) (hm : m ∈ ns) (hl : ∀ y ∈ ns, y ≤ m) : m = k := by
  cases ns with
  | nil => cases h
  | cons n ns =>
    cases h
    obtain ⟨h1, h2, h3⟩ := foldmax ns n
    have a1 : ns.foldl max n ≤ m := by
      rcases h1 with h1 | h1
      · rw [h1]; exact hl n List.mem_cons_self
      · exact hl _ (List.mem_cons_of_mem _ h1)
    have a2 : m ≤ ns.foldl max n := by
      rcases List.mem_cons.mp hm with e | e
      · rw [e]; exact h2
      · exact h3 m e
    omega
theorem minI_is {ns : List Int} {m k : Int} (h : minI ns = some k) (hm : m ∈ ns) (hl : ∀ y ∈ ns, m ≤ y) : m = k := by
  cases ns with
  | nil => cases h
  | cons n ns =>
    cases h
    obtain ⟨h1, h2, h3⟩ := foldmin ns n
    have a1 : m ≤ ns.foldl min n := by
      rcases h1 with h1 | h1
      · rw [h1]; exact hl n List.mem_cons_self
      · exact hl _ (List.mem_cons_of_mem _ h1)
    have a2 : ns.foldl min n ≤ m := by
      rcases List.mem_cons.mp hm with e | e
      · rw [e]; exact h2
      · exact h3 m e
    omega
def onInts {α : Type} (f : List Int → Option α) : D → Option α
  | .lst xs => (ints? xs).bind f
  | _ => none
def onBls {α : Type} (f : List Bool → Option α) : D → Option α
  | .lst xs => (bls? xs).bind f
  | _ => none
def lenD : D → Option D
  | .lst xs => some (.int xs.length)
  | .tup xs => some (.int xs.length)
  | .scr ns => some (.int ns.length)
  | .str x => if x.length ≤ LN then some (.int x.length) else none
  | .dK ks _ => some (.int ks.length)
  | .dT ks _ => some (.int ks.length)
  | _ => none
def b1 : B1 → D → Option D
  | .len, d => lenD d
  | .abs, .int i => some (.int (if i < 0 then -i else i))
  | .int, .int i => some (.int i)
  | .int, .bl k => some (.int (if k then 1 else 0))
  | .bool, .int i => some (.bl (i != 0))
  | .bool, .bl k => some (.bl k)
  | .str, .int i => if i.natAbs.log2 < 1920 then some (.str (toString i)) else none
  | .all, d => onBls (fun bs => some (.bl (bs.all id))) d
  | .any, d => onBls (fun bs => some (.bl (bs.any id))) d
  | .sum, d => onInts (fun ns => some (.int ns.sum)) d
  | .max, d => onInts (fun ns => (maxI ns).map .int) d
  | .min, d => onInts (fun ns => (minI ns).map .int) d
  | .tuple, .lst xs => some (.tup xs)
  | .tuple, .tup xs => some (.tup xs)
  | _, _ => none
def rC1 (c : Cn) (g : D → Option D) : List V → Hp → VK → Prop := fun xs H Q => ∃ pin Z ρ σ Hf x d z, xs = [x] ∧ SR c pin Z ρ σ H Hf ∧ relL c Z ρ σ Hf H x d ∧ g d = some z ∧
  ∀ v H' Hf', Same Hf Hf' → SR c pin Z ρ σ H' Hf' → Rep c Hf' v z → Q v H'
/-- the list that is looked at -/
theorem relL.seq (hK : X.K = c.K) {Z H Hf : Hp} {ρ : En} {σ : Sg} {x : V} {ds : List D} (s : Same Hf H) (r : relL c Z ρ σ Hf H x (.lst ds)) : ∃ p vs, x = .ref p ∧ H p = some (.lst vs) ∧ Reps c Hf vs ds := by
  rcases r with r | ⟨p, vs, b, rfl, e, hp, r⟩
  · exact Rep.seqL s r
  · cases b with
    | lst xs => cases e; obtain ⟨us, rfl, r⟩ := r.lst; exact ⟨p, us, rfl, hp, r⟩
    | _ => cases e
/-- a dict that is looked at -/
theorem relL.dK {Z H Hf : Hp} {ρ : En} {σ : Sg} {x : V} {ks : List Key} {xs : List D} (s : Same Hf H) (r : relL c Z ρ σ Hf H x (.dK ks xs)) : ∃ p kvs, x = .ref p ∧ Rd H p (.dK kvs) ∧ kvs.map (·.1) = ks ∧ Reps c Hf (kvs.map (·.2)) xs := by
  rcases r with r | ⟨p, ho, b, rfl, e, hp, r⟩
  · cases r with
    | dK h r => exact ⟨_, _, rfl, .inr ⟨_, s _ _ h⟩, rfl, r⟩
  · cases b <;> cases ho <;> first | exact r.elim | (cases e; done) | (cases e; exact ⟨_, _, rfl, .inl hp, r.1, r.2⟩)
theorem relL.dT {Z H Hf : Hp} {ρ : En} {σ : Sg} {x : V} {ks : List (List Key)} {xs : List D} (s : Same Hf H) (r : relL c Z ρ σ Hf H x (.dT ks xs)) : ∃ p kvs, x = .ref p ∧ Rd H p (.dT kvs) ∧ kvs.map (·.1) = ks ∧ Reps c Hf (kvs.map (·.2)) xs := by
  rcases r with r | ⟨p, ho, b, rfl, e, hp, r⟩
  · cases r with
    | dT h r => exact ⟨_, _, rfl, .inr ⟨_, s _ _ h⟩, rfl, r⟩
  · cases b <;> cases ho <;> first | exact r.elim | (cases e; done) | (cases e; exact ⟨_, _, rfl, .inl hp, r.1, r.2⟩)
theorem relL.non (hK : X.K = c.K) {Z H Hf : Hp} {ρ : En} {σ : Sg} {x : V} {d : D} (r : relL c Z ρ σ Hf H x d) (h : d.isOb = false) : Rep c Hf x d := by
  rcases r with r | ⟨p, vs, b, rfl, e, hp, r⟩
  · exact r
  · rw [e, b.is] at h; cases h
theorem c1r (hK : X.K = c.K) (hc : X.calm = true) (f : B1) : CallR X f.val (rC1 c (b1 f)) := by
  intro pins s σ0 H xs us Q I r h
  obtain ⟨pin, Z, ρ, σ, Hf, x, d, z, rfl, S, rd, g, q⟩ := h
  have fin : ∀ {w : V}, Rep c Hf w z → Q w H := fun r => q _ H Hf (Same.refl _) S r
  have inl : ∀ {α : Type} {F : List Int → Option α} {w : α}, onInts F d = some w → ∃ p ns, x = .ref p ∧ H p = some (.lst (ns.map V.int)) ∧ F ns = some w := fun {α F w} e => by
    cases d <;> try exact no_some e
    simp only [onInts, Option.bind_eq_some_iff] at e
    obtain ⟨ns, e1, e2⟩ := e
    obtain ⟨p, vs, rfl, hp, r1⟩ := relL.seq hK S.f rd
    rw [ints_reps r1 e1] at hp
    exact ⟨p, ns, rfl, hp, e2⟩
  have bnl : ∀ {α : Type} {F : List Bool → Option α} {w : α}, onBls F d = some w → ∃ p ns, x = .ref p ∧ H p = some (.lst (ns.map V.bl)) ∧ F ns = some w := fun {α F w} e => by
    cases d <;> try exact no_some e
    simp only [onBls, Option.bind_eq_some_iff] at e
    obtain ⟨ns, e1, e2⟩ := e
    obtain ⟨p, vs, rfl, hp, r1⟩ := relL.seq hK S.f rd
    rw [bls_reps r1 e1] at hp
    exact ⟨p, ns, rfl, hp, e2⟩
  cases f with
  | len =>
    simp only [b1, lenD] at g
    cases d <;> try exact no_some g
    · rename_i y
      simp only at g
      split at g
      · rename_i hz; cases g
        cases relL.non hK rd (by simp)
        exact call_len pins s σ0 H _ us Q I r ⟨_, _, rfl, ⟨by rw [LN_eq]; exact hz, rfl⟩, fin (.int _)⟩
      · cases g
    · cases g
      obtain ⟨p, vs, rfl, hp, r1⟩ := (relL.non hK rd (by simp)).seqT hK S.f
      exact call_len pins s σ0 H _ us Q I r ⟨_, _, rfl, .inr ⟨_, hp, rfl⟩, by rw [r1.length]; exact fin (.int _)⟩
    · cases g
      obtain ⟨p, vs, rfl, hp, r1⟩ := relL.seq hK S.f rd
      exact call_len pins s σ0 H _ us Q I r ⟨_, _, rfl, .inl ⟨_, SqL.of hp, rfl⟩, by rw [r1.length]; exact fin (.int _)⟩
    · cases g
      cases relL.non hK rd (by simp) with
      | scr h => exact call_len pins s σ0 H _ us Q I r ⟨_, _, rfl, .inl ⟨_, by rw [hK]; exact S.f.seq h, rfl⟩, by rw [List.length_map]; exact fin (.int _)⟩
    · cases g
      obtain ⟨p, kvs, rfl, hp, rfl, _⟩ := relL.dK S.f rd
      obtain ⟨u, rfl, ru⟩ := vals1 r
      cases ru
      exact d_len I hp fun t s' I' => ⟨.int kvs.length, H, I', ⟨t, rfl⟩, by rw [List.length_map] at fin q; exact q _ H Hf (Same.refl _) S (.int _)⟩
    · cases g
      obtain ⟨p, kvs, rfl, hp, rfl, _⟩ := relL.dT S.f rd
      obtain ⟨u, rfl, ru⟩ := vals1 r
      cases ru
      obtain ⟨z, hd, ys, rel, dd⟩ := dt_rd I.hok hp
      have hl : kvs.length = ys.length := Paired.length rel
      refine call_len_dictH hd dd (by rw [← hl]; rw [sizeLine_eq] at z; omega) ?_
      rw [← hl]
      exact ⟨.int ((kvs.length : Nat) : Int), H, I.tok _, ⟨_, rfl⟩, by rw [List.length_map] at q; exact q _ H Hf (Same.refl _) S (.int _)⟩
  | abs =>
    cases d <;> try exact no_some g
    cases g; cases relL.non hK rd (by simp)
    exact call_abs pins s σ0 H _ us Q I r ⟨_, rfl, fin (.int _)⟩
  | int =>
    cases d <;> try exact no_some g
    · cases g; cases relL.non hK rd (by simp)
      exact call_int1 pins s σ0 H _ us Q I r (.inr ⟨_, rfl, fin (.int _)⟩)
    · cases g; cases relL.non hK rd (by simp)
      exact call_int1 pins s σ0 H _ us Q I r (.inl ⟨_, rfl, fin (.int _)⟩)
  | bool =>
    cases d <;> try exact no_some g
    · cases g; cases relL.non hK rd (by simp)
      exact call_bool1 pins s σ0 H _ us Q I r (.inr ⟨_, rfl, fin (.bl _)⟩)
    · cases g; cases relL.non hK rd (by simp)
      exact call_bool1 pins s σ0 H _ us Q I r (.inl ⟨_, rfl, fin (.bl _)⟩)
  | str =>
    cases d <;> try exact no_some g
    simp only [b1] at g
    split at g
    · rename_i hz; cases g; cases relL.non hK rd (by simp)
      exact call_str_int pins s σ0 H _ us Q I r ⟨_, rfl, hz, fin (.str _)⟩
    · cases g
  | all =>
    obtain ⟨p, bs, rfl, hp, e⟩ := bnl (show onBls _ d = some z from g)
    cases e
    exact cr_all hc pins s σ0 H _ us Q I r ⟨_, _, rfl, SqL.of hp, fin (.bl _)⟩
  | any =>
    obtain ⟨p, bs, rfl, hp, e⟩ := bnl (show onBls _ d = some z from g)
    cases e
    exact cr_any hc pins s σ0 H _ us Q I r ⟨_, _, rfl, SqL.of hp, fin (.bl _)⟩
  | sum =>
    obtain ⟨p, ns, rfl, hp, e⟩ := inl (show onInts _ d = some z from g)
    cases e
    exact cr_sum hc pins s σ0 H _ us Q I r ⟨_, _, rfl, SqL.of hp, fin (.int _)⟩
  | max =>
    obtain ⟨p, ns, rfl, hp, e⟩ := inl (show onInts _ d = some z from g)
    simp only [Option.map_eq_some_iff] at e
    obtain ⟨k, e, rfl⟩ := e
    refine cr_max hc pins s σ0 H _ us Q I r ⟨_, _, rfl, SqL.of hp, ?_, fun m h1 h2 => ?_⟩
    · cases ns with
      | nil => cases e
      | cons => simp
    · rw [maxI_is e h1 h2]; exact fin (.int _)
  | min =>
    obtain ⟨p, ns, rfl, hp, e⟩ := inl (show onInts _ d = some z from g)
    simp only [Option.map_eq_some_iff] at e
    obtain ⟨k, e, rfl⟩ := e
    refine cr_min hc pins s σ0 H _ us Q I r ⟨_, _, rfl, SqL.of hp, ?_, fun m h1 h2 => ?_⟩
    · cases ns with
      | nil => cases e
      | cons => simp
    · rw [minI_is e h1 h2]; exact fin (.int _)
  | tuple =>
    cases d <;> try exact no_some g
    · cases g
      have rr := relL.non hK rd (by simp)
      obtain ⟨p, vs, e, hp, r1⟩ := rr.seqT hK S.f
      subst e
      exact call_tuple_of pins s σ0 H _ us Q I r ⟨_, _, rfl, .inr ⟨hp, fin rr⟩⟩
    · cases g
      obtain ⟨p, vs, rfl, hp, r1⟩ := relL.seq hK S.f rd
      refine call_tuple_of pins s σ0 H _ us Q I r ⟨_, _, rfl, .inl ⟨SqL.of hp, fun l hl => ?_⟩⟩
      obtain ⟨S', s'⟩ := S.newS hl
      exact q _ _ _ s' S' (Rep.newT s' r1)
/-- f(e), f a built-in -/
theorem s_b1 (f : B1) {p : Pos} (hK : X.K = c.K) (hc : X.calm = true) (hg : Gl X f.nm) (hm : X.mg f.nm = none) (hn : noStar a = true) (ha : PE X a (tL c W fa)) :
    PE X (.Call (.Name f.nm p) [a] [] pos) (tE c W fun ρ => (fa ρ).bind fun x ρ1 => R.lift (b1 f x) ρ1) := by
  have go : ∀ σ H Q, tE c W (fun ρ => (fa ρ).bind fun x ρ1 => R.lift (b1 f x) ρ1) σ H Q → tCB (rC1 c (b1 f)) (tCons (tL c W fa) tNil) σ H Q := fun σ H Q h => by
    refine tG.seq h fun pin Z d ρ1 x H1 Hf1 S1 r1 h1 => ?_
    cases hb : b1 f d with
    | none => rw [hb] at h1; exact h1.elim
    | some z => rw [hb] at h1; exact ⟨pin, Z, ρ1, σ, Hf1, x, d, z, rfl, S1, r1, hb, h1⟩
  have pa : PA X [a] (tCons (tL c W fa) tNil) := pa_cons ha pa_nil (star_cons hn)
  have hv := f.boot
  have hcr := c1r hK hc f
  cases f with
  | int => exact pe_of (pe_callTy hcr hg hm hv pa (by decide) (by decide) (star_cons hn) rfl) go
  | bool => exact pe_of (pe_callTy hcr hg hm hv pa (by decide) (by decide) (star_cons hn) rfl) go
  | str => exact pe_of (pe_callTy hcr hg hm hv pa (by decide) (by decide) (star_cons hn) rfl) go
  | tuple => exact pe_of (pe_callTy hcr hg hm hv pa (by decide) (by decide) (star_cons hn) rfl) go
  | _ => exact pe_of (pe_callB hcr hg hm hv pa (by decide) (by decide) (star_cons hn) rfl) go
/-! ### .. of two -/
inductive B2 where
  | max | min
  deriving DecidableEq
def B2.nm : B2 → Str
  | .max => "max" | .min => "min"
def b2 : B2 → D → D → Option D
  | .max, .int i, .int j => some (.int (if j > i then j else i))
  | .min, .int i, .int j => some (.int (if j < i then j else i))
  | _, _, _ => none
theorem s_b2 (f : B2) {p : Pos} (hc : X.calm = true) (hg : Gl X f.nm) (hm : X.mg f.nm = none) (hn : noStar a = true) (hn2 : noStar b = true) (ha : PE X a (tE c W fa)) (hb : PE X b (tE c W fb)) :
    PE X (.Call (.Name f.nm p) [a, b] [] pos) (tE c W fun ρ => (fa ρ).bind fun x ρ1 => (fb ρ1).bind fun y ρ2 => R.lift (b2 f x y) ρ2) := by
  have pa : PA X [a, b] (tCons (tE c W fa) (tCons (tE c W fb) tNil)) := pa_cons ha (pa_cons hb pa_nil (star_cons hn2)) (star_cons hn)
  have hpl : (backTo pos (starEach [b] X.env)).any (·.1) = false := by rw [star_cons hn2]; rfl
  cases f with
  | max =>
    refine pe_of (pe_callB (call_max2 hc) hg hm (by decide +kernel) pa (by decide) (by decide) (star_cons hn) hpl) fun σ H Q h => ?_
    show tE c W fa σ H fun x H1 => tE c W fb σ H1 fun y H2 => _
    refine two (rr := fun x y H2 Q => ∃ i j, [x, y] = [V.int i, V.int j] ∧ Q (.int (if j > i then j else i)) H2) (fun x y H2 z => ?_) h
    obtain ⟨pin, Z, ρ, σ, Hf, d, e, w, S, rd, re, g, q⟩ := z
    cases d <;> cases e <;> try exact no_some g
    cases g; cases rd; cases re
    exact ⟨_, _, rfl, q _ _ _ (Same.refl _) S (.int _)⟩
  | min =>
    refine pe_of (pe_callB (call_min2 hc) hg hm (by decide +kernel) pa (by decide) (by decide) (star_cons hn) hpl) fun σ H Q h => ?_
    show tE c W fa σ H fun x H1 => tE c W fb σ H1 fun y H2 => _
    refine two (rr := fun x y H2 Q => ∃ i j, [x, y] = [V.int i, V.int j] ∧ Q (.int (if j < i then j else i)) H2) (fun x y H2 z => ?_) h
    obtain ⟨pin, Z, ρ, σ, Hf, d, e, w, S, rd, re, g, q⟩ := z
    cases d <;> cases e <;> try exact no_some g
    cases g; cases rd; cases re
    exact ⟨_, _, rfl, q _ _ _ (Same.refl _) S (.int _)⟩
/-! ### isinstance -/
inductive Ty where
  | int | bool | str | list | tuple | dict
  deriving DecidableEq
def Ty.nm : Ty → Str
  | .int => "int" | .bool => "bool" | .str => "str" | .list => "list" | .tuple => "tuple" | .dict => "dict"
def Ty.id : Ty → String
  | .int => "int" | .bool => "bool" | .str => "str" | .list => "list" | .tuple => "tuple" | .dict => "dict"
theorem Ty.boot : ∀ f : Ty, bootBuiltins f.nm = some (.type f.id)
  | .int => by decide +kernel
  | .bool => by decide +kernel
  | .str => by decide +kernel
  | .list => by decide +kernel
  | .tuple => by decide +kernel
  | .dict => by decide +kernel
def isiD : Ty → D → Option Bool
  | .int, .int _ => some true
  | .int, .bl _ => some true
  | .bool, .bl _ => some true
  | .str, .str _ => some true
  | .list, .lst _ => some true
  | .list, .scr _ => some true
  | .tuple, .tup _ => some true
  | .dict, .dK _ _ => some true
  | _, .dT _ _ => none
  | _, .fn _ => none
  | _, _ => some false
def tyId : D → String
  | .non => "NoneType" | .bl _ => "bool" | .int _ => "int" | .str _ => "str" | .tup _ => "tuple" | .lst _ => "list" | .fn _ => "function" | .scr _ => "list" | .dK _ _ => "dict" | .dT _ _ => "dict"
theorem kits : ∀ (t : Ty) (d : D) (k : Bool), isiD t d = some k → kitB (tyId d) t.id = some k := by
  intro t d k h
  cases t <;> cases d <;> first | exact no_some h | (cases h; dsimp only [tyId, Ty.id]; decide +kernel)
theorem sqL_ty {K : PySem.W.Frag} {H : Hp} {a : Addr} {xs : List V} (h : SqL K H a xs) : TyX K H (.ref a) (.type "list") := by
  rcases h with (h | ⟨o, h⟩) | ⟨o, its, n, h1, h2, _⟩
  · exact .base (.lst h)
  · exact .base (.frz h)
  · exact .kList h1 h2
theorem sqT_ty {K : PySem.W.Frag} {H : Hp} {a : Addr} {xs : List V} (h : SqT K H a xs) : TyX K H (.ref a) (.type "tuple") := by
  rcases h with (h | ⟨o, h⟩) | ⟨o, its, n, h1, h2, _⟩
  · exact .base (.tup h)
  · exact .fTuple h
  · exact .kTuple h1 h2
theorem tyX (hK : X.K = c.K) {Z H Hf : Hp} {ρ : En} {σ : Sg} {x : V} {d : D} (s : Same Hf H) (r : relL c Z ρ σ Hf H x d) (h0 : ∀ k, d ≠ .fn k) (h2 : ∀ k l, d ≠ .dT k l) : TyX X.K H x (.type (tyId d)) := by
  rcases r with r | ⟨p, vs, b, rfl, e, hp, r⟩
  · cases r with
    | dK h r => exact .fDict (s _ _ h)
    | dT h r => exact absurd rfl (h2 _ _)
    | non => exact .base .non
    | bl b => exact .base (.bl b)
    | int i => exact .base (.int i)
    | str x => exact .base (.str x)
    | tup h r => exact sqT_ty (SqT.of (s _ _ h))
    | lst h r => exact sqL_ty (SqL.of (s _ _ h))
    | fn k => exact absurd rfl (h0 k)
    | scr h => exact sqL_ty (by rw [hK]; exact s.seq h)
  · subst e
    cases b <;> cases vs <;> first | exact r.elim | exact sqL_ty (SqL.of hp) | exact .base (.dK hp) | exact .base (.dT hp)
theorem s_isi (t : Ty) {p p2 : Pos} (hK : X.K = c.K) (hg : Gl X "isinstance") (hm : X.mg "isinstance" = none) (hgt : Gl X t.nm) (hmt : X.mg t.nm = none) (hn : noStar a = true) (ha : PE X a (tL c W fa)) :
    PE X (.Call (.Name "isinstance" p) [a, .Name t.nm p2] [] pos) (tE c W fun ρ => (fa ρ).bind fun x ρ1 => liftB (isiD t x) ρ1) := by
  have hdt : (t.nm == ("__debug__" : Str)) = false := by cases t <;> decide
  have hnt : t.nm ≠ "__name__" := by cases t <;> decide
  have pt : PE X (.Name t.nm p2) (tC (.ty t.id)) := pe_bltn hgt hmt t.boot rfl hnt hdt
  have pa : PA X [a, .Name t.nm p2] (tCons (tL c W fa) (tCons (tC (.ty t.id)) tNil)) := pa_cons ha (pa_cons pt pa_nil (star_cons rfl)) (star_cons hn)
  refine pe_of (pe_callB call_isi hg hm boot_isinstance pa (by decide) (by decide) (star_cons hn) rfl) fun σ H Q h => ?_
  refine tG.seq h fun pin Z d ρ1 x H1 Hf1 S1 r1 h1 => ?_
  cases hb : isiD t d with
  | none => rw [hb] at h1; exact h1.elim
  | some k =>
    rw [hb] at h1
    have nf : ∀ k, d ≠ .fn k := fun k e => by subst e; cases t <;> cases hb
    have nt : ∀ k l, d ≠ .dT k l := fun k l e => by subst e; cases t <;> cases hb
    exact ⟨x, _, _, _, k, rfl, .ty _, tyX hK S1.f r1 nf nt, kit_ty (kits t d k hb), h1 _ _ _ (Same.refl _) S1 (.bl k)⟩
end
end Ev

end
section
set_option maxHeartbeats 2000000
namespace RT
open PySem PySem.Spec PyProof.Rows
section
variable {prog : Program} {w : World} {A : Around} {E : Value → Shared → Prop} {s : Shared}
/-- list.extend over a list's backward iterator -/
theorem rev_extend {it l S : Addr} {items : Array Value} {c₀ : Nat} {R : Result → Shared → Prop} {res : Value} (hh : A.handled = none) (hit : s.heap.IsRevIter it l ((items.size : Int) - 1)) (hl : s.heap.IsList l items) (hne : l ≠ it) (hn : items.size ≤ sizeLine)
    (hSi : S ≠ it) (hSl : S ≠ l) (hS : s.heap.get? S = some { cls := .type "list", data := .seq #[] c₀ })
    (hR : ∀ h' tk acc' c', (∀ b o, b ≠ S → b ≠ it → s.heap.get? b = some o → h'.get? b = some o) → h'.get? S = some { cls := .type "list", dict := none, data := .seq acc' c', slots := #[] } → ItemsOf (fun i v => items[items.size - 1 - i]? = some v) acc' items.size → R (.ok (.ret res)) { s with heap := h', toks := tk }) :
    wpAny (model prog w) A.in1 (Builtin.List.listExtendWith (.ref S) (.ref it) res)
      (fun fin s' => match fin with | .done f => R (.ok f) s' | .again c' => c'.quiet = true ∧ codeAny (model prog w) A c' R s') (fun e s' => R (.error e) s') s := by
  have W := (Walks.listRev (prog := prog) (w := w) (A := A.in1) hh it l hne items).toS
  have hSf : S ∉ [it, l] := by simp only [List.mem_cons, List.not_mem_nil, or_false, not_or]; exact ⟨hSi, hSl⟩
  have hT : s.TypeIs (.ref it) "list_reverseiterator" := hit.typeIs
  have h1 : Builtin.List.listSameRef (.ref S) (.ref it) = false := by simp [Builtin.List.listSameRef, hSi]
  unfold Builtin.List.listExtendWith
  refine wpAny_bind (wpAny_typeOf hT ?_)
  rw [if_neg (by rw [h1]; decide)]
  refine wpAny_bind (wpAny_pyIter_revIter hit ?_)
  refine wpAny_bind (wpAny_holding ?_)
  unfold Builtin.List.listLengthHint
  refine wpAny_bind (wpAny_specialOf hT nolen_lri ?_)
  show wpAny _ A.in1 (specialOf (Value.ref it) (Str.ofString "__length_hint__") >>= _) _ _ _
  refine wpAny_bind (wpAny_specialOf hT hint_lri ?_)
  generalize hid : ("list_reverseiterator.__length_hint__" : String) = id0
  wp_delta
  rw [show splitId id0 = some ("list_reverseiterator", "__length_hint__") from by subst hid; decide +kernel]
  subst hid
  refine wpAny_bind (wpAny_isInstance (b := true) hT (by rw [isSubtype_type]; kernel_rfl) ?_)
  refine wpAny_pure ?_
  rw [if_neg (by decide)]
  have e0 : ((items.size : Nat) : Int) - 1 - ((0 : Nat) : Int) = (items.size : Int) - 1 := by omega
  refine wpAny_pure ⟨plainId_quiet F.plain_extend_loop _, codeAny_extend_loopS W hn _ hSf _ items.size 0 _ _ _ rfl (Nat.zero_le _) ⟨Nat.zero_le _, by rw [e0]; exact hit, hl⟩ hS (ItemsOf.nil _) fun s' acc' c' hm hS' hacc => ?_⟩
  rw [Moved.eq_with hm]
  refine hR s'.heap s'.toks acc' c' (fun b o hb hi e => hm.heap b o (fun hmem => ?_) e) hS' hacc
  rcases List.mem_cons.mp hmem with e' | hmem
  · exact hb e'
  · exact hi (List.mem_singleton.mp hmem)
theorem rev_init {it l S : Addr} {items : Array Value} {R : Result → Shared → Prop} (hh : A.handled = none) (hit : s.heap.IsRevIter it l ((items.size : Int) - 1)) (hl : s.heap.IsList l items) (hne : l ≠ it) (hn : items.size ≤ sizeLine)
    (hSi : S ≠ it) (hSl : S ≠ l) (hS : s.heap.get? S = some { cls := .type "list", data := .seq #[] })
    (hR : ∀ h' tk acc' c', (∀ b o, b ≠ S → b ≠ it → s.heap.get? b = some o → h'.get? b = some o) → h'.get? S = some { cls := .type "list", dict := none, data := .seq acc' c', slots := #[] } → ItemsOf (fun i v => items[items.size - 1 - i]? = some v) acc' items.size → R (.ok (.ret .none)) { s with heap := h', toks := tk }) :
    wpAny (model prog w) A.in1 (Builtin.«list.__init__» ⟨[.ref S, .ref it], []⟩)
      (fun fin s' => match fin with | .done f => R (.ok f) s' | .again c' => c'.quiet = true ∧ codeAny (model prog w) A c' R s') (fun e s' => R (.error e) s') s := by
  show wpAny _ _ (do let old ← Builtin.List.listItems (.ref S); Builtin.List.listUpdate (.ref S) (fun _ => #[]); letGo old.toList.reverse; Builtin.List.listExtendWith (.ref S) (.ref it) .none) _ _ s
  refine wpAny_bind ?_
  unfold Builtin.List.listItems
  refine wpAny_bind (wpAny_seqItems hS rfl (wpAny_pure ?_))
  show wpAny _ _ (updateSeq S (fun _ => #[]) >>= fun _ => letGo (#[] : Array Value).toList.reverse >>= fun _ => Builtin.List.listExtendWith (.ref S) (.ref it) .none) _ _ s
  refine wpAny_bind (wpAny_updateSeq hS rfl ?_)
  have hS₂ := Heap.get?_update_self (Obj.mapSeq (fun _ => (#[] : Array Value))) hS rfl
  have oth : ∀ b o, b ≠ S → s.heap.get? b = some o → (s.heap.update S (Obj.mapSeq (fun _ => (#[] : Array Value)))).get? b = some o :=
    fun b o hb e => (Heap.get?_update_other _ _ (Ne.symm hb)).trans e
  refine wpAny_bind (wpAny_letGo ?_)
  refine rev_extend (s := { s with heap := s.heap.update S (Obj.mapSeq (fun _ => (#[] : Array Value))) }) hh (hit.at fun o e => oth it o (Ne.symm hSi) e) ?_ hne hn hSi hSl hS₂ (fun h' tk acc' c' hk hS' hacc => ?_)
  · obtain ⟨o, ho, r⟩ := hl; exact ⟨o, oth l o (Ne.symm hSl) ho, r⟩
  · exact hR h' tk acc' c' (fun b o hb hi e => hk b o hb hi (oth b o hb e)) hS' hacc
theorem call_list_rev {it l : Addr} {items : Array Value} {Q : Value → Shared → Prop} (hh : A.handled = none) (hit : s.heap.IsRevIter it l ((items.size : Int) - 1)) (hl : s.heap.IsList l items) (hne : l ≠ it) (hn : items.size ≤ sizeLine)
    (hQ : ∀ h' tk acc' c', (∀ b o, b ≠ it → s.heap.get? b = some o → h'.get? b = some o) → h'.get? s.heap.objs.size = some { cls := .type "list", dict := none, data := .seq acc' c', slots := #[] } → ItemsOf (fun i v => items[items.size - 1 - i]? = some v) acc' items.size → Q (.ref s.heap.objs.size) { s with heap := h', toks := tk }) :
    wpAny (model prog w) A (call (.type "list") [.ref it]) Q E s := by
  refine callType_codes (Q₁ := fun obj s₁ => obj = .ref s.heap.objs.size ∧ s₁ = { s with heap := s.heap.push { cls := .type "list", data := .seq #[] } }) PySem.F.called_list (PySem.F.typeCall_list_1 _) PySem.F.entry_list_init
    (code_list_new _ ⟨rfl, rfl⟩) fun obj s₁ h₁ => ?_
  obtain ⟨rfl, rfl⟩ := h₁
  have hS : (s.heap.push { cls := .type "list", data := .seq #[] }).get? s.heap.objs.size = some { cls := .type "list", data := .seq #[] } := Heap.get?_push_size _ rfl
  obtain ⟨oi, hoi, _⟩ := id hit
  obtain ⟨ol, hol, _⟩ := id hl
  have hSi : s.heap.objs.size ≠ it := Nat.ne_of_gt (Heap.lt_size hoi)
  have hSl : s.heap.objs.size ≠ l := Nat.ne_of_gt (Heap.lt_size hol)
  refine ⟨⟨_, hS, rfl⟩, PySem.F.args_list_init_2 _ _, rev_init (A := A.in1) (s := { s with heap := s.heap.push { cls := .type "list", data := .seq #[] } }) hh (hit.at fun o e => Heap.get?_push_of_some _ e) (hl.push _) hne hn hSi hSl hS (fun h' tk acc' c' hk hS' hacc => ?_)⟩
  exact ⟨rfl, hQ h' tk acc' c' (fun b o hi e => hk b o (Nat.ne_of_lt (Heap.lt_size e)) hi (Heap.get?_push_of_some _ e)) hS' hacc⟩
end
end RT
namespace L2
open PySem PySem.Spec PyProof.Rows
section
variable {X : Cx}
/-- list(reversed(x)), x a list: a new list -/
def tLstRev (K : PySem.W.Frag) (te : TE) : TE := fun σ H Q => te σ H fun v H1 => ∃ (a : Addr) (xs : List V), v = .ref a ∧ SqL K H1 a xs ∧ ∀ q, H1 q = none → Q (.ref q) (upd H1 q (.lst xs.reverse))
theorem pe_lstRev {e : Expr} {te : TE} {p p2 pos pos2 : Pos} (hc : X.calm = true) (hg : Gl X "list") (hm : X.mg "list" = none) (hg2 : Gl X "reversed") (hm2 : X.mg "reversed" = none) (he : PE X e te)
    (hs : starEach [e] X.env = (false, eval e X.env) :: starEach [] X.env := by rfl)
    (hs2 : starEach [.Call (.Name "reversed" p2) [e] [] pos2] X.env = (false, eval (.Call (.Name "reversed" p2) [e] [] pos2) X.env) :: starEach [] X.env := by rfl) :
    PE X (.Call (.Name "list" p) [.Call (.Name "reversed" p2) [e] [] pos2] [] pos) (tLstRev X.K te) := by
  refine ⟨fun pins s σ H Q I h => ?_⟩
  refine Call_ (ld_blt I hg hm boot_list (PyProof.Rows.callWith_type1 (args_cons (Call_ (ld_blt I hg2 hm2 PyProof.Rows.boot_reversed (PyProof.Rows.callWith_type1 (args_cons (thn (he.run pins s σ H _ I h) fun u s1 ⟨v, H1, I1, r1, q1⟩ => args_nil ?_) hs) hs rfl))) hs2) hs2 rfl))
  obtain ⟨a, xs, ev, hq, q⟩ := q1
  subst ev
  obtain rfl : u = Value.ref a := r1
  obtain ⟨its, rv, p', hz⟩ := I1.list hq
  refine PySem.call_reversed_list p'.isList (args_nil ?_)
  have k0 : ∀ b o, s1.heap.get? b = some o → (s1.heap.push (PySem.revObj a ((its.toArray.size : Int) - 1))).get? b = some o := fun b o e => Heap.get?_push_of_some _ e
  have I2 : Inv X pins σ H1 { s1 with heap := s1.heap.push (PySem.revObj a ((its.toArray.size : Int) - 1)) } := I1.kept (t' := s1.toks) k0
  obtain ⟨f0, f1, f2, f3, f4, f5⟩ := I1.fpOk (H' := H1) (b := s1.heap.objs.size) (Nat.le_refl _) (I1.hok.fresh (Nat.le_refl _))
  have hl := p'.isList
  obtain ⟨ol, hol, _⟩ := id hl
  have hne : a ≠ s1.heap.objs.size := Nat.ne_of_lt (Heap.lt_size hol)
  have hn : its.toArray.size ≤ sizeLine := by rw [List.size_toArray, ← rv.length]; exact hz
  refine RT.call_list_rev (s := { s1 with heap := s1.heap.push (PySem.revObj a ((its.toArray.size : Int) - 1)) }) (I1.ok.hd hc) ⟨_, Heap.get?_push_size _ rfl, rfl, rfl⟩ (hl.push _) hne hn fun h' tk acc c' hk hD hi => ?_
  -- the iterator has turned; the new list stands at the end
  have I3 : Inv X pins σ H1 { s1 with heap := h', toks := tk } := I2.turned (t' := tk) (fun b o hb e => hk b o hb e) f0 f1 f3 f4 f5
  generalize hsz : (s1.heap.push (PySem.revObj a ((its.toArray.size : Int) - 1))).objs.size = D at hD ⊢
  have nD : H1 D = none := I2.hok.fresh (Nat.le_of_eq hsz)
  have ltD : ∀ b o, (s1.heap.push (PySem.revObj a ((its.toArray.size : Int) - 1))).get? b = some o → b ≠ D := fun b o e z => by
    have := Heap.lt_size e
    rw [hsz, z] at this
    exact absurd this (Nat.lt_irrefl _)
  have hok : HOk X.prog X.w (upd H1 D (.lst xs.reverse)) h' := fun b u e => by
    by_cases hb : b = D
    · subst hb
      rw [upd_same] at e
      cases e
      exact ⟨by rw [List.length_reverse]; exact hz, acc.toList, c', RT.vals_rev rv hi, by rw [Array.toArray_toList]; exact hD⟩
    · rw [upd_ne hb] at e
      exact (I3.hok b u e).stay (fun _ _ _ q => q) (fun c q => by rw [upd_ne (ne_of_none q nD)]; exact q) fun c zs q => by rw [upd_ne (ne_of_none q nD)]; exact q
  have I4 : Inv X pins σ (upd H1 D (.lst xs.reverse)) { s1 with heap := h', toks := tk } := by
    refine Inv.step (s := { s1 with heap := s1.heap.push (PySem.revObj a ((its.toArray.size : Int) - 1)) }) (h' := h') (g' := s1.gens) (d' := s1.drawn) (ch := [s1.heap.objs.size]) I2 (fun b hb => ?_) (fun b o _ _ hc e _ => hk b o (fun z => hc (by simp [z])) e) (fun b o _ _ hc e _ => ⟨o.slots, hk b o (fun z => hc (by simp [z])) e⟩)
      (fun b o _ e n => by rw [upd_ne (ltD b o e)]; exact n) (fun b o hc e => ⟨o, hk b o (fun z => hc (by simp [z])) e⟩) (fun b zs e => by rw [upd_ne (ne_of_none e nD)]; exact e) (fun b ob u e => by rw [upd_ne (ne_of_none e nD)]; exact e)
      (fun b ps e => ⟨#[], by rw [upd_ne (ne_of_none e nD), e]; simp⟩) (fun m hm => ?_) hok I2.bare
    · have e : b = s1.heap.objs.size := by simpa using hb
      subst e
      exact ⟨f3, f1, f4, f5⟩
    · obtain ⟨o, es, ep, ho, r⟩ := hm
      exact ⟨o, es, ep, hk _ o (Ne.symm f1) ho, r⟩
  exact ⟨.ref D, _, I4, rfl, q D nD⟩
end
end L2

end
section
set_option maxHeartbeats 2000000
namespace Ev
open PySem PySem.Spec PyProof.Rows L2

/-! ### what is walked -/
/-- the iterator yields the items, one a turn, whatever is done meanwhile -/
structure Yields (c : Cn) (Hf0 : Hp) (J : It) (items : List D) : Prop where
  go : ∀ (i : Nat) pin Z ρ σ H Hf, Same Hf0 Hf → SR c pin Z ρ σ H Hf → i < items.length → J.go i H
  stop : ∀ pin Z ρ σ H Hf, Same Hf0 Hf → SR c pin Z ρ σ H Hf → J.stop items.length H
  yld : ∀ (i : Nat) pin Z ρ σ H Hf x H' d, Same Hf0 Hf → SR c pin Z ρ σ H Hf → items[i]? = some d → J.yld i H x H' → ∃ Hf', Same Hf Hf' ∧ SR c pin Z ρ σ H' Hf' ∧ Rep c Hf' x d
abbrev relI (c : Cn) : Rel (List D) It := fun _ _ _ Hf _ J items => Yields c Hf J items
abbrev tI (c : Cn) (W : WX) (f : En → R (List D)) : TI := tG c W (relI c) f
/-- .. not too many items -/
abbrev relJ (c : Cn) : Rel (List D) It := fun _ _ _ Hf H J items => Yields c Hf J items ∧ (Small H → items.length ≤ LN)
abbrev tJ (c : Cn) (W : WX) (f : En → R (List D)) : TI := tG c W (relJ c) f

section
variable {X : Cx} {c : Cn} {W : WX} {tg a b : Expr} {pos : Pos} {fa fb : En → R D}
theorem pi_of {e : Expr} {t t' : TI} (h : PI X tg e t) (i : ∀ σ H Q, t' σ H Q → t σ H Q) : PI X tg e t' := ⟨fun pins s σ H Q I q => h.run pins s σ H Q I (i σ H Q q)⟩
theorem i_ofJ {e : Expr} {f : En → R (List D)} (h : PI X tg e (tJ c W f)) : PI X tg e (tI c W f) := pi_of h fun σ H Q ⟨pin, Z, ρ, Hf, S, g⟩ => ⟨pin, Z, ρ, Hf, S, by
    cases hf : f ρ with
    | ok a ρ' => rw [hf] at g; exact fun b H' Hf' s' S' r => g b H' Hf' s' S' r.1
    | err x ρ' => rw [hf] at g; exact g
    | bad => rw [hf] at g; exact g⟩
/-- .. looked at -/
def few (items : List D) (ρ : En) : R (List D) := if items.length ≤ LN then .ok items ρ else .bad
theorem i_few {e : Expr} {f : En → R (List D)} (h : PI X tg e (tI c W f)) : PI X tg e (tJ c W fun ρ => (f ρ).bind few) := pi_of h fun σ H Q g => by
  refine tG.seq g fun pin Z items ρ1 J H1 Hf1 S1 y g1 => ?_
  unfold few at g1
  split at g1
  · rename_i hz
    exact g1 _ _ _ (Same.refl _) S1 ⟨y, fun _ => hz⟩
  · exact g1.elim
theorem pi_small {e : Expr} {t : TI} (h : PI X tg e t) : PI X tg e (fun σ H R => t σ H fun J H1 => Small H1 → R J H1) := ⟨fun pins s σ H R I q => thn (h.run pins s σ H _ I q) fun v s1 z => thn z fun itv s2 ⟨it, fp, tn, J, H', e1, I2, T, st, f, r⟩ => ⟨it, fp, tn, J, H', e1, I2, T, st, f, r (Small.of I2.hok)⟩⟩
theorem lt_get {α : Type} {xs : List α} {i : Nat} (h : i < xs.length) : ∃ x, xs[i]? = some x := ⟨xs[i], List.getElem?_eq_getElem h⟩
theorem y_list {K : PySem.W.Frag} {Hf : Hp} {p : Addr} {vs : List V} {ds : List D} (h : Hf p = some (.lst vs)) (r : Reps c Hf vs ds) : Yields c Hf (Itl K p) ds where
  go := fun i pin Z ρ σ H Hf' s S hi => by
    obtain ⟨x, e⟩ := lt_get (show i < vs.length by rw [r.length]; exact hi)
    exact ⟨vs, x, SqL.of (S.f _ _ (s _ _ h)), e⟩
  stop := fun pin Z ρ σ H Hf' s S => ⟨vs, SqL.of (S.f _ _ (s _ _ h)), by rw [r.length]; exact Nat.le_refl _⟩
  yld := fun i pin Z ρ σ H Hf' x H' d s S e y => by
    obtain ⟨rfl, y⟩ := y
    obtain ⟨v, e1, r1⟩ := r.get e
    have := y vs (SqL.of (S.f _ _ (s _ _ h)))
    rw [e1] at this
    cases this
    exact ⟨Hf', Same.refl _, S, r1.mono s⟩
theorem y_tup (hK : X.K = c.K) {Hf : Hp} {p : Addr} {vs : List V} {ds : List D} (h : SqT c.K Hf p vs) (r : Reps c Hf vs ds) : Yields c Hf (Itt X.K p) ds where
  go := fun i pin Z ρ σ H Hf' s S hi => by
    obtain ⟨x, e⟩ := lt_get (show i < vs.length by rw [r.length]; exact hi)
    exact ⟨vs, x, by rw [hK]; exact Same.seqT (s.trans S.f) h, e⟩
  stop := fun pin Z ρ σ H Hf' s S => ⟨vs, by rw [hK]; exact Same.seqT (s.trans S.f) h, by rw [r.length]; exact Nat.le_refl _⟩
  yld := fun i pin Z ρ σ H Hf' x H' d s S e y => by
    obtain ⟨rfl, y⟩ := y
    obtain ⟨v, e1, r1⟩ := r.get e
    have := y vs (by rw [hK]; exact Same.seqT (s.trans S.f) h)
    rw [e1] at this
    cases this
    exact ⟨Hf', Same.refl _, S, r1.mono s⟩
theorem y_scr (hK : X.K = c.K) {Hf : Hp} {p : Addr} {ns : List Int} (h : SqL c.K Hf p (ns.map V.int)) : Yields c Hf (Itl X.K p) (ns.map .int) where
  go := fun i pin Z ρ σ H Hf' s S hi => by
    obtain ⟨x, e⟩ := lt_get (show i < (ns.map V.int).length by rw [List.length_map]; rw [List.length_map] at hi; exact hi)
    exact ⟨_, x, by rw [hK]; exact (s.trans S.f).seq h, e⟩
  stop := fun pin Z ρ σ H Hf' s S => ⟨_, by rw [hK]; exact (s.trans S.f).seq h, by rw [List.length_map, List.length_map]; exact Nat.le_refl _⟩
  yld := fun i pin Z ρ σ H Hf' x H' d s S e y => by
    obtain ⟨rfl, y⟩ := y
    have := y _ (by rw [hK]; exact (s.trans S.f).seq h)
    rw [List.getElem?_map] at this e
    cases q : ns[i]? with
    | none => rw [q] at e; cases e
    | some n =>
      rw [q] at this e
      cases this
      cases e
      exact ⟨Hf', Same.refl _, S, .int n⟩
theorem y_range {Hf : Hp} {lo : Int} {n : Nat} : Yields c Hf (Itr lo n) ((List.range n).map fun (k : Nat) => D.int (lo + (k : Int))) where
  go := fun i pin Z ρ σ H Hf' s S hi => by show i < n; simpa using hi
  stop := fun pin Z ρ σ H Hf' s S => by show n ≤ _; simp
  yld := fun i pin Z ρ σ H Hf' x H' d s S e y => by
    obtain ⟨rfl, rfl⟩ := y
    rw [List.getElem?_map] at e
    by_cases hi : i < n
    · rw [List.getElem?_range hi] at e
      cases e
      exact ⟨Hf', Same.refl _, S, .int _⟩
    · rw [List.getElem?_eq_none (by simpa using hi)] at e
      cases e
theorem y_rangeC {Hf : Hp} {lo st : Int} {n : Nat} : Yields c Hf (Itc lo st n) ((List.range n).map fun (k : Nat) => D.int (lo + (k : Int) * st)) where
  go := fun i pin Z ρ σ H Hf' s S hi => by show i < n; simpa using hi
  stop := fun pin Z ρ σ H Hf' s S => by show n ≤ _; simp
  yld := fun i pin Z ρ σ H Hf' x H' d s S e y => by
    obtain ⟨rfl, rfl⟩ := y
    rw [List.getElem?_map] at e
    by_cases hi : i < n
    · rw [List.getElem?_range hi] at e
      cases e
      exact ⟨Hf', Same.refl _, S, .int _⟩
    · rw [List.getElem?_eq_none (by simpa using hi)] at e
      cases e
theorem y_str {Hf : Hp} {x : Str} : Yields c Hf (Its x) (x.cps.toList.map fun k => .str ⟨#[k]⟩) where
  go := fun i pin Z ρ σ H Hf' s S hi => by simpa [Its] using hi
  stop := fun pin Z ρ σ H Hf' s S => by show x.cps.size ≤ _; simp
  yld := fun i pin Z ρ σ H Hf' v H' d s S e y => by
    obtain ⟨rfl, k, e1, rfl⟩ := y
    rw [List.getElem?_map, Array.getElem?_toList, e1] at e
    cases e
    exact ⟨Hf', Same.refl _, S, .str _⟩
/-- a key as a value -/
def kD : Key → D
  | .inl i => .int i
  | .inr x => .str x
theorem kD_rep {H : Hp} (k : Key) : Rep c H (kV k) (kD k) := by
  cases k with
  | inl i => exact .int i
  | inr x => exact .str x
theorem kDs_rep {H : Hp} : ∀ ks : List Key, Reps c H (ks.map kV) (ks.map kD)
  | [] => .nil
  | k :: ks => .cons (kD_rep k) (kDs_rep ks)
theorem y_keys {Hf : Hp} {p : Addr} {o : Obj} {kvs : List (Key × V)} (h : Hf p = some (.frz o (.dK kvs))) : Yields c Hf (Itk p o kvs) ((kvs.map (·.1)).map kD) where
  go := fun i pin Z ρ σ H Hf' s S hi => ⟨S.f _ _ (s _ _ h), by simpa using hi⟩
  stop := fun pin Z ρ σ H Hf' s S => ⟨S.f _ _ (s _ _ h), by simp⟩
  yld := fun i pin Z ρ σ H Hf' x H' d s S e y => by
    obtain ⟨rfl, k, v, e1, rfl⟩ := y
    rw [List.getElem?_map, List.getElem?_map, e1] at e
    cases e
    exact ⟨Hf', Same.refl _, S, kD_rep k⟩
theorem y_keysT {Hf : Hp} {p : Addr} {o : Obj} {kvs : List (List Key × V)} (h : Hf p = some (.frz o (.dT kvs))) : Yields c Hf (Itkt p o kvs) ((kvs.map (·.1)).map fun k => .tup (k.map kD)) where
  go := fun i pin Z ρ σ H Hf' s S hi => ⟨S.f _ _ (s _ _ h), by simpa using hi⟩
  stop := fun pin Z ρ σ H Hf' s S => ⟨S.f _ _ (s _ _ h), by simp⟩
  yld := fun i pin Z ρ σ H Hf' x H' d s S e y => by
    obtain ⟨rfl, k, v, q, e1, rfl, hq⟩ := y
    rw [List.getElem?_map, List.getElem?_map, e1] at e
    cases e
    obtain ⟨Hf2, ss, S2, e2⟩ := S.speakT hq
    exact ⟨Hf2, ss, S2, .tup e2 (kDs_rep k)⟩
/-- what a value that is walked yields -/
def itD : D → Option (List D)
  | .lst xs => some xs
  | .tup xs => some xs
  | .scr ns => some (ns.map .int)
  | .dK ks _ => some (ks.map kD)
  | .dT ks _ => some (ks.map fun k => .tup (k.map kD))
  | .str x => some (x.cps.toList.map fun k => .str ⟨#[k]⟩)
  | _ => none
/-- a text's signs are counted -/
def itN (x : D) (xs : List D) (ρ : En) : R (List D) :=
  match x with
  | .str _ => few xs ρ
  | .dK _ _ => few xs ρ
  | .dT _ _ => few xs ρ
  | _ => .ok xs ρ
/-- any of them -/
theorem pi_any {l : Expr} {tl : TE} (hl : PE X l tl) : PI X tg l (fun σ H R => tl σ H fun x H1 => (∃ a, x = .ref a ∧ (∃ xs, SqL X.K H1 a xs) ∧ R (Itl X.K a) H1) ∨ (∃ a, x = .ref a ∧ (∃ xs, SqT X.K H1 a xs) ∧ R (Itt X.K a) H1) ∨ (∃ y, x = .str y ∧ R (Its y) H1) ∨ ∃ d o, x = .ref d ∧ ((∃ kvs, H1 d = some (.frz o (.dK kvs)) ∧ R (Itk d o kvs) H1) ∨ ∃ kvs, H1 d = some (.frz o (.dT kvs)) ∧ R (Itkt d o kvs) H1)) := by
  refine ⟨fun pins s σ H R I h => ?_⟩
  refine thn (hl.run pins s σ H _ I h) fun v s1 ⟨x, H1, I1, r1, q1⟩ => ?_
  rcases q1 with ⟨a, e, ⟨xs, hq⟩, q⟩ | ⟨a, e, ⟨xs, hq⟩, q⟩ | ⟨y, e, q⟩ | ⟨d, o, e, ⟨kvs, hd, q⟩ | ⟨kvs, hd, q⟩⟩
  · subst e
    cases r1
    obtain ⟨its, rv, p, hz⟩ := I1.list hq
    refine wpAny_pyIter_list p.isList ?_
    exact pi_one (tk := s1.toks) I1 _ (turn_list a _) ⟨_, Heap.get?_push_size _ rfl, rfl, rfl⟩ q
  · subst e
    cases r1
    obtain ⟨its, rv, p, hz⟩ := I1.tuple hq
    refine wpAny_pyIter_tuple (show s1.heap.IsTuple a its.toArray from p) ?_
    exact pi_one (tk := s1.toks) I1 _ (turn_tuple a _) ⟨_, Heap.get?_push_size _ rfl, rfl, rfl⟩ q
  · subst e
    obtain ⟨t, rfl⟩ := r1
    cases ha : y.cps.all (· < 128)
    · exact wpAny_pyIter_wide ha (pi_one (tk := s1.toks) I1 _ (turn_str _ y t "str_iterator" (.inr rfl)) ⟨_, Heap.get?_push_size _ rfl, rfl, rfl⟩ q)
    · exact wpAny_pyIter_ascii ha (pi_one (tk := s1.toks) I1 _ (turn_str _ y t "str_ascii_iterator" (.inl rfl)) ⟨_, Heap.get?_push_size _ rfl, rfl, rfl⟩ q)
  · subst e
    obtain rfl : v = Value.ref d := r1
    obtain ⟨hs, hgd, hx, es, ep, vs, hdt, hsz, kv, hm⟩ := I1.frzK hd
    refine iter_keys hs hgd hx hdt (pi_one (tk := s1.toks) I1 _ (turn_keys _ hdt) ⟨_, Heap.get?_push_size _ rfl, rfl, ?_⟩ q)
    rw [hsz] <;> rfl
  · subst e
    obtain rfl : v = Value.ref d := r1
    obtain ⟨hs, hgd, hx, es, ep, hdt, hsz, ent⟩ := I1.frzT hd
    refine iter_keys hs hgd hx hdt (pi_one (tk := s1.toks) I1 _ (turn_keysT _ hdt) ⟨_, Heap.get?_push_size _ rfl, rfl, ?_⟩ q)
    rw [hsz] <;> rfl
theorem i_seq (hK : X.K = c.K) (ha : PE X a (tE c W fa)) : PI X tg a (tJ c W fun ρ => (fa ρ).bind fun x ρ1 => (R.lift (itD x) ρ1).bind fun xs ρ2 => itN x xs ρ2) := by
  refine pi_of (pi_any ha) fun σ H Q h => ?_
  refine tG.seq h fun pin Z d ρ1 x H1 Hf1 S1 r1 h1 => ?_
  cases r1 with
  | lst hp r => exact .inl ⟨_, rfl, ⟨_, SqL.of (S1.f _ _ hp)⟩, h1 _ _ _ (Same.refl _) S1 ⟨y_list hp r, fun z => by rw [← r.length, ← LN_eq]; exact z _ _ (.inl (.inl (S1.f _ _ hp)))⟩⟩
  | tup hp r => exact .inr (.inl ⟨_, rfl, ⟨_, by rw [hK]; exact Same.seqT S1.f (SqT.of (K := c.K) hp)⟩, h1 _ _ _ (Same.refl _) S1 ⟨y_tup hK (SqT.of hp) r, fun z => by rw [← r.length, ← LN_eq]; exact z.sqT (Same.seqT S1.f (SqT.of (K := c.K) hp))⟩⟩)
  | scr hp => exact .inl ⟨_, rfl, ⟨_, by rw [hK]; exact S1.f.seq hp⟩, h1 _ _ _ (Same.refl _) S1 ⟨y_scr hK hp, fun z => by
      have := z.sqL (S1.f.seq hp)
      rw [List.length_map] at this ⊢
      rw [← LN_eq]; exact this⟩⟩
  | str y =>
    simp only [itD, R.lift, R.bind, itN, few] at h1
    split at h1
    · rename_i hz
      exact .inr (.inr (.inl ⟨_, rfl, h1 _ _ _ (Same.refl _) S1 ⟨y_str, fun _ => hz⟩⟩))
    · exact h1.elim
  | dK hp r =>
    simp only [itD, R.lift, R.bind, itN, few] at h1
    split at h1
    · rename_i hz
      exact .inr (.inr (.inr ⟨_, _, rfl, .inl ⟨_, S1.f _ _ hp, h1 _ _ _ (Same.refl _) S1 ⟨y_keys hp, fun _ => hz⟩⟩⟩))
    · exact h1.elim
  | dT hp r =>
    simp only [itD, R.lift, R.bind, itN, few] at h1
    split at h1
    · rename_i hz
      exact .inr (.inr (.inr ⟨_, _, rfl, .inr ⟨_, S1.f _ _ hp, h1 _ _ _ (Same.refl _) S1 ⟨y_keysT hp, fun _ => hz⟩⟩⟩))
    · exact h1.elim
  | _ => exact h1.elim
/-- range(..) -/
def rng : List D → Option (List D)
  | [.int j] => if -(2 ^ 62) ≤ j ∧ j < 2 ^ 62 then some ((List.range j.toNat).map fun (k : Nat) => D.int (0 + (k : Int))) else none
  | [.int i, .int j] => if -(2 ^ 62) ≤ i ∧ i < 2 ^ 62 ∧ -(2 ^ 62) ≤ j ∧ j < 2 ^ 62 then some ((List.range (j - i).toNat).map fun (k : Nat) => D.int (i + (k : Int))) else none
  | [.int i, .int j, .int st] => if st = -1 ∧ -(2 ^ 62) ≤ i ∧ i < 2 ^ 62 ∧ -(2 ^ 62) ≤ j ∧ j < 2 ^ 62 then some ((List.range (i - j).toNat).map fun (k : Nat) => D.int (i + (k : Int) * -1)) else none
  | _ => none
theorem i_range1 {p : Pos} (hg : Gl X "range") (hm : X.mg "range" = none) (hn : noStar a = true) (ha : PE X a (tE c W fa)) :
    PI X tg (.Call (.Name "range" p) [a] [] pos) (tI c W fun ρ => (fa ρ).bind fun x ρ1 => R.lift (rng [x]) ρ1) := by
  refine pi_of (pi_range1 hg hm (pa_cons ha pa_nil (star_cons hn)) (star_cons hn)) fun σ H Q h => ?_
  refine tG.seq h fun pin Z d ρ1 x H1 Hf1 S1 r1 h1 => ?_
  cases d <;> try exact h1.elim
  cases r1
  simp only [rng] at h1
  split at h1
  · rename_i hz
    exact ⟨_, rfl, hz.1, hz.2, h1 _ _ _ (Same.refl _) S1 y_range⟩
  · exact h1.elim
theorem i_range2 {p : Pos} (hg : Gl X "range") (hm : X.mg "range" = none) (hn : noStar a = true) (hn2 : noStar b = true) (ha : PE X a (tE c W fa)) (hb : PE X b (tE c W fb)) :
    PI X tg (.Call (.Name "range" p) [a, b] [] pos) (tI c W fun ρ => (fa ρ).bind fun x ρ1 => (fb ρ1).bind fun y ρ2 => R.lift (rng [x, y]) ρ2) := by
  refine pi_of (pi_range2 hg hm (pa_cons ha (pa_cons hb pa_nil (star_cons hn2)) (star_cons hn)) (by rw [star_cons hn, star_cons hn2]; rfl) (by rw [star_cons hn2]; rfl)) fun σ H Q h => ?_
  refine tG.seq h fun pin Z d ρ1 x H1 Hf1 S1 r1 h1 => ?_
  refine ⟨pin, Z, ρ1, Hf1, S1, Go.seq h1 fun e ρ2 y H2 Hf2 s2 S2 r2 h2 => ?_⟩
  cases d <;> cases e <;> try exact h2.elim
  cases r1
  cases r2
  simp only [rng] at h2
  split at h2
  · rename_i hz
    exact ⟨_, _, rfl, hz, h2 _ _ _ (Same.refl _) S2 y_range⟩
  · exact h2.elim
theorem i_range3 {e : Expr} {fe : En → R D} {p : Pos} (hg : Gl X "range") (hm : X.mg "range" = none) (hn : noStar a = true) (hn2 : noStar b = true) (hn3 : noStar e = true) (ha : PE X a (tE c W fa)) (hb : PE X b (tE c W fb)) (he : PE X e (tE c W fe)) :
    PI X tg (.Call (.Name "range" p) [a, b, e] [] pos) (tI c W fun ρ => (fa ρ).bind fun x ρ1 => (fb ρ1).bind fun y ρ2 => (fe ρ2).bind fun z ρ3 => R.lift (rng [x, y, z]) ρ3) := by
  have s3 : starEach [e] X.env = (false, eval e X.env) :: starEach [] X.env := star_cons hn3
  have s2 : starEach [b, e] X.env = (false, eval b X.env) :: starEach [e] X.env := star_cons hn2
  have s1 : starEach [a, b, e] X.env = (false, eval a X.env) :: starEach [b, e] X.env := star_cons hn
  refine pi_of (pi_range3 hg hm (pa_cons ha (pa_cons hb (pa_cons he pa_nil s3) s2) s1) (by first | exact s1 | (rw [s1, s2, s3]; rfl)) (by rw [s2, s3]; rfl)) fun σ H Q h => ?_
  refine tG.seq h fun pin Z d ρ1 x H1 Hf1 S1 r1 h1 => ?_
  refine ⟨pin, Z, ρ1, Hf1, S1, Go.seq h1 fun e ρ2 y H2 Hf2 s2 S2 r2 h2 => ?_⟩
  refine ⟨pin, Z, ρ2, Hf2, S2, Go.seq h2 fun f ρ3 z H3 Hf3 s3 S3 r3 h3 => ?_⟩
  cases d <;> cases e <;> cases f <;> try exact h3.elim
  cases r1
  cases r2
  cases r3
  simp only [rng] at h3
  split at h3
  · rename_i hz
    obtain ⟨rfl, z1, z2, z3, z4⟩ := hz
    exact ⟨_, _, _, _, rfl, RgC.neg z1 z2 z3 z4, h3 _ _ _ (Same.refl _) S3 y_rangeC⟩
  · exact h3.elim
/-- zip of two lists, of two tuples -/
def zipD : D → D → Option (List D)
  | .lst xs, .lst ys => some (List.zipWith (fun x y => .tup [x, y]) xs ys)
  | .tup xs, .tup ys => some (List.zipWith (fun x y => .tup [x, y]) xs ys)
  | _, _ => none
theorem zw_get {xs ys : List D} {i : Nat} {d : D} (h : (List.zipWith (fun x y => D.tup [x, y]) xs ys)[i]? = some d) : ∃ x y, xs[i]? = some x ∧ ys[i]? = some y ∧ d = .tup [x, y] := by
  rw [List.getElem?_zipWith] at h
  cases hx : xs[i]? with
  | none => rw [hx] at h; cases h
  | some x =>
    cases hy : ys[i]? with
    | none => rw [hx, hy] at h; cases h
    | some y => rw [hx, hy] at h; cases h; exact ⟨x, y, rfl, rfl, rfl⟩
theorem y_zip {K : PySem.W.Frag} {Hf : Hp} {p q : Addr} {vs us : List V} {ds es : List D} (h : Hf p = some (.lst vs)) (r : Reps c Hf vs ds) (h' : Hf q = some (.lst us)) (r' : Reps c Hf us es) :
    Yields c Hf (Itz K p q) (List.zipWith (fun x y => .tup [x, y]) ds es) where
  go := fun i pin Z ρ σ H Hf' s S hi => by
    rw [List.length_zipWith] at hi
    obtain ⟨x, e⟩ := lt_get (show i < vs.length by rw [r.length]; omega)
    obtain ⟨y, e'⟩ := lt_get (show i < us.length by rw [r'.length]; omega)
    exact ⟨vs, us, x, y, SqL.of (S.f _ _ (s _ _ h)), SqL.of (S.f _ _ (s _ _ h')), e, e'⟩
  stop := fun pin Z ρ σ H Hf' s S => ⟨vs, us, SqL.of (S.f _ _ (s _ _ h)), SqL.of (S.f _ _ (s _ _ h')), by rw [List.length_zipWith, r.length, r'.length]; omega⟩
  yld := fun i pin Z ρ σ H Hf' x H' d s S e y => by
    obtain ⟨T, x1, y1, rfl, hT, rfl, q1, q2⟩ := y
    obtain ⟨dx, dy, e1, e2, rfl⟩ := zw_get e
    obtain ⟨v, f1, r1⟩ := r.get e1
    obtain ⟨u, f2, r2⟩ := r'.get e2
    have g1 := q1 vs (SqL.of (S.f _ _ (s _ _ h)))
    have g2 := q2 us (SqL.of (S.f _ _ (s _ _ h')))
    rw [f1] at g1
    rw [f2] at g2
    cases g1
    cases g2
    obtain ⟨S', s'⟩ := S.newS hT
    exact ⟨_, s', S', Rep.newT s' (.cons (r1.mono s) (.cons (r2.mono s) .nil))⟩
theorem y_zipT (hK : X.K = c.K) {Hf : Hp} {p q : Addr} {vs us : List V} {ds es : List D} (h : SqT c.K Hf p vs) (r : Reps c Hf vs ds) (h' : SqT c.K Hf q us) (r' : Reps c Hf us es) :
    Yields c Hf (RZ.ItzT X.K p q) (List.zipWith (fun x y => .tup [x, y]) ds es) where
  go := fun i pin Z ρ σ H Hf' s S hi => by
    rw [List.length_zipWith] at hi
    obtain ⟨x, e⟩ := lt_get (show i < vs.length by rw [r.length]; omega)
    obtain ⟨y, e'⟩ := lt_get (show i < us.length by rw [r'.length]; omega)
    exact ⟨vs, us, x, y, by rw [hK]; exact Same.seqT (s.trans S.f) h, by rw [hK]; exact Same.seqT (s.trans S.f) h', e, e'⟩
  stop := fun pin Z ρ σ H Hf' s S => ⟨vs, us, by rw [hK]; exact Same.seqT (s.trans S.f) h, by rw [hK]; exact Same.seqT (s.trans S.f) h', by rw [List.length_zipWith, r.length, r'.length]; omega⟩
  yld := fun i pin Z ρ σ H Hf' x H' d s S e y => by
    obtain ⟨T, x1, y1, rfl, hT, rfl, q1, q2⟩ := y
    obtain ⟨dx, dy, e1, e2, rfl⟩ := zw_get e
    obtain ⟨v, f1, r1⟩ := r.get e1
    obtain ⟨u, f2, r2⟩ := r'.get e2
    have g1 := q1 vs (by rw [hK]; exact Same.seqT (s.trans S.f) h)
    have g2 := q2 us (by rw [hK]; exact Same.seqT (s.trans S.f) h')
    rw [f1] at g1
    rw [f2] at g2
    cases g1
    cases g2
    obtain ⟨S', s'⟩ := S.newS hT
    exact ⟨_, s', S', Rep.newT s' (.cons (r1.mono s) (.cons (r2.mono s) .nil))⟩
theorem i_zip {elts : List Expr} {kk : Nat} {p tpos : Pos} (hK : X.K = c.K) (hg : Gl X "zip") (hm : X.mg "zip" = none) (hn : noStar a = true) (hn2 : noStar b = true) (ha : PE X a (tE c W fa)) (hb : PE X b (tE c W fb)) :
    PI X (.Tuple elts kk tpos) (.Call (.Name "zip" p) [a, b] [] pos) (tJ c W fun ρ => (fa ρ).bind fun x ρ1 => (fb ρ1).bind fun y ρ2 => R.lift (zipD x y) ρ2) := by
  have hpl : (backTo pos (starEach [b] X.env)).any (·.1) = false := by rw [star_cons hn2]; rfl
  refine pi_of (RZ.pi_zipA hg hm (pa_cons ha (pa_cons hb pa_nil (star_cons hn2)) (star_cons hn)) (star_cons hn) hpl) fun σ H Q h => ?_
  refine tG.seq h fun pin Z d ρ1 x H1 Hf1 S1 r1 h1 => ?_
  refine ⟨pin, Z, ρ1, Hf1, S1, Go.seq h1 fun e ρ2 y H2 Hf2 s2 S2 r2 h2 => ?_⟩
  cases d <;> cases e <;> try exact h2.elim
  · cases r1.mono s2 with
    | tup h1 q1 =>
      cases r2 with
      | tup h3 q3 =>
        have h1 : SqT c.K Hf2 _ _ := SqT.of h1
        have h3 : SqT c.K Hf2 _ _ := SqT.of h3
        exact ⟨_, _, _, _, rfl, .inr ⟨by rw [hK]; exact Same.seqT S2.f h1, by rw [hK]; exact Same.seqT S2.f h3, h2 _ _ _ (Same.refl _) S2 ⟨y_zipT hK h1 q1 h3 q3, fun z => by
          rw [List.length_zipWith, ← q1.length, ← LN_eq]
          have := z.sqT (Same.seqT S2.f h1)
          omega⟩⟩⟩
  · cases r1.mono s2 with
    | lst h1 q1 =>
      cases r2 with
      | lst h3 q3 =>
        exact ⟨_, _, _, _, rfl, .inl ⟨SqL.of (S2.f _ _ h1), SqL.of (S2.f _ _ h3), h2 _ _ _ (Same.refl _) S2 ⟨y_zip h1 q1 h3 q3, fun z => by
          rw [List.length_zipWith, ← q1.length, ← LN_eq]
          have := z _ _ (.inl (.inl (S2.f _ _ h1)))
          omega⟩⟩⟩
/-- enumerate(list) -/
def enumD : D → Option (List D)
  | .lst xs => some (xs.mapIdx fun i x => .tup [.int (i : Int), x])
  | _ => none
theorem y_enum {K : PySem.W.Frag} {Hf : Hp} {p : Addr} {vs : List V} {ds : List D} (h : Hf p = some (.lst vs)) (r : Reps c Hf vs ds) : Yields c Hf (Ite K p) (ds.mapIdx fun i x => .tup [.int (i : Int), x]) where
  go := fun i pin Z ρ σ H Hf' s S hi => by
    rw [List.length_mapIdx] at hi
    obtain ⟨x, e⟩ := lt_get (show i < vs.length by rw [r.length]; omega)
    exact ⟨vs, x, SqL.of (S.f _ _ (s _ _ h)), e⟩
  stop := fun pin Z ρ σ H Hf' s S => ⟨vs, SqL.of (S.f _ _ (s _ _ h)), by rw [List.length_mapIdx, r.length]; exact Nat.le_refl _⟩
  yld := fun i pin Z ρ σ H Hf' x H' d s S e y => by
    obtain ⟨T, x1, rfl, hT, rfl, q1⟩ := y
    rw [List.getElem?_mapIdx] at e
    cases e1 : ds[i]? with
    | none => rw [e1] at e; cases e
    | some dx =>
      rw [e1] at e
      cases e
      obtain ⟨v, f1, r1⟩ := r.get e1
      have g1 := q1 vs (SqL.of (S.f _ _ (s _ _ h)))
      rw [f1] at g1
      cases g1
      obtain ⟨S', s'⟩ := S.newS hT
      exact ⟨_, s', S', Rep.newT s' (.cons (.int _) (.cons (r1.mono s) .nil))⟩
theorem i_enum {elts : List Expr} {kk : Nat} {p tpos : Pos} (hg : Gl X "enumerate") (hm : X.mg "enumerate" = none) (hn : noStar a = true) (ha : PE X a (tE c W fa)) :
    PI X (.Tuple elts kk tpos) (.Call (.Name "enumerate" p) [a] [] pos) (tJ c W fun ρ => (fa ρ).bind fun x ρ1 => R.lift (enumD x) ρ1) := by
  refine pi_of (pi_enum hg hm (pa_cons ha pa_nil (star_cons hn)) (star_cons hn)) fun σ H Q h => ?_
  refine tG.seq h fun pin Z d ρ1 x H1 Hf1 S1 r1 h1 => ?_
  cases d <;> try exact h1.elim
  cases r1 with
  | lst hp r => exact ⟨_, _, rfl, SqL.of (S1.f _ _ hp), h1 _ _ _ (Same.refl _) S1 ⟨y_enum hp r, fun z => by rw [List.length_mapIdx, ← r.length, ← LN_eq]; exact z _ _ (.inl (.inl (S1.f _ _ hp)))⟩⟩
/-- reversed(list) -/
def revD : D → Option (List D)
  | .lst xs => some xs.reverse
  | _ => none
theorem y_rev {K : PySem.W.Frag} {Hf : Hp} {p : Addr} {vs : List V} {ds : List D} (h : Hf p = some (.lst vs)) (r : Reps c Hf vs ds) : Yields c Hf (Itv K p vs.length) ds.reverse where
  go := fun i pin Z ρ σ H Hf' s S hi => by
    rw [List.length_reverse] at hi
    have hl := r.length
    obtain ⟨x, e⟩ := lt_get (show vs.length - 1 - i < vs.length by omega)
    exact ⟨by omega, vs, x, SqL.of (S.f _ _ (s _ _ h)), e⟩
  stop := fun pin Z ρ σ H Hf' s S => by show vs.length ≤ _; rw [List.length_reverse, r.length]; exact Nat.le_refl _
  yld := fun i pin Z ρ σ H Hf' x H' d s S e y => by
    obtain ⟨rfl, y⟩ := y
    have hl := r.length
    by_cases hi : i < ds.length
    · rw [List.getElem?_reverse hi] at e
      obtain ⟨v, e1, r1⟩ := r.get e
      have := y vs (SqL.of (S.f _ _ (s _ _ h)))
      rw [hl, e1] at this
      cases this
      exact ⟨Hf', Same.refl _, S, r1.mono s⟩
    · rw [List.getElem?_eq_none (by rw [List.length_reverse]; omega)] at e
      cases e
theorem i_rev {p : Pos} (hg : Gl X "reversed") (hm : X.mg "reversed" = none) (hn : noStar a = true) (ha : PE X a (tE c W fa)) :
    PI X tg (.Call (.Name "reversed" p) [a] [] pos) (tJ c W fun ρ => (fa ρ).bind fun x ρ1 => R.lift (revD x) ρ1) := by
  refine pi_of (pi_reversed hg hm (pa_cons ha pa_nil (star_cons hn)) (star_cons hn)) fun σ H Q h => ?_
  refine tG.seq h fun pin Z d ρ1 x H1 Hf1 S1 r1 h1 => ?_
  cases d <;> try exact h1.elim
  cases r1 with
  | lst hp r => exact ⟨_, _, rfl, SqL.of (S1.f _ _ hp), h1 _ _ _ (Same.refl _) S1 ⟨y_rev hp r, fun z => by rw [List.length_reverse, ← r.length, ← LN_eq]; exact z _ _ (.inl (.inl (S1.f _ _ hp)))⟩⟩
end
end Ev

end
section
set_option maxHeartbeats 2000000
namespace Ev
open PySem PySem.Spec PyProof.Rows L2

/-! ### targets -/
inductive Tg where
  | nm (i : Nat) | tup (is : List Nat)
def Tg.slots : Tg → List Nat
  | .nm i => [i]
  | .tup is => is
/-- a value is stored (the caller's list is never stored over) -/
def setV (i : Nat) (d : D) (ρ : En) : Option En :=
  match ρ[i]? with
  | some (.ow true _) => none
  | some _ => some (ρ.set i (.va d))
  | none => none
def setVs : List Nat → List D → En → Option En
  | [], [], ρ => some ρ
  | i :: is, d :: ds, ρ => (setV i d ρ).bind (setVs is ds)
  | _, _, _ => none
def asgT : Tg → D → En → Option En
  | .nm i, d, ρ => setV i d ρ
  | .tup is, .tup ds, ρ => setVs is ds ρ
  | .tup _, _, _ => none

section
variable {c : Cn} {pin : Addr} {Z : Hp} {ρ ρ' : En} {σ : Sg} {H Hf : Hp}
theorem SR.lt (S : SR c pin Z ρ σ H Hf) {i : Nat} {s : Sl} (h : ρ[i]? = some s) : i < σ.length := by
  rw [← S.len]
  exact (List.getElem?_eq_some_iff.mp h).1
theorem SR.put (S : SR c pin Z ρ σ H Hf) {i : Nat} {v : V} {d : D} {s : Sl} (h : ρ[i]? = some s) (r : Rep c Hf v d) : SR c pin Z (ρ.set i (.va d)) (σ.set i (some v)) H Hf := by
  have hi := S.lt h
  refine ⟨S.z, S.f, S.dj, by rw [List.length_set, List.length_set]; exact S.len, fun j s e => ?_, fun j k io io' xs ys q hjk ej ek sj sk => ?_⟩
  · rcases set_get e with ⟨e1, e2, _⟩ | ⟨e1, e2⟩
    · subst e1; subst e2
      exact ⟨v, List.getElem?_set_self hi, r⟩
    · rw [List.getElem?_set_ne e1]; exact S.sl j s e2
  · rcases set_get ej with ⟨_, f, _⟩ | ⟨f1, ej⟩
    · cases f
    rcases set_get ek with ⟨_, f, _⟩ | ⟨f2, ek⟩
    · cases f
    rw [List.getElem?_set_ne f1] at sj
    rw [List.getElem?_set_ne f2] at sk
    exact S.ap j k _ _ _ _ q hjk ej ek sj sk
theorem setV_some {i : Nat} {d : D} (h : setV i d ρ = some ρ') : ∃ s, ρ[i]? = some s ∧ ρ' = ρ.set i (.va d) := by
  unfold setV at h
  split at h
  · cases h
  · rename_i s _ e; cases h; exact ⟨_, e, rfl⟩
  · cases h
theorem SR.setV (S : SR c pin Z ρ σ H Hf) {i : Nat} {v : V} {d : D} (h : setV i d ρ = some ρ') (r : Rep c Hf v d) : SR c pin Z ρ' (σ.set i (some v)) H Hf := by
  obtain ⟨s, e, rfl⟩ := setV_some h
  exact S.put e r
end

/-- a target's reading -/
def gL : List Nat → TGs
  | [] => gNil
  | i :: is => gCons (gName i) (gL is)
def tgT (c : Cn) : Tg → TG
  | .nm i => gName i
  | .tup is => gTup c.K is.length (gL is)
theorem wipe_set {σ : Sg} {i : Nat} {x : Option V} : ∀ {vs : List Nat}, i ∈ vs → wipe (σ.set i x) vs = wipe σ vs
  | [], h => by cases h
  | v :: vs, h => by
    unfold wipe
    by_cases hv : i ∈ vs
    · rw [wipe_set hv]
    · rcases List.mem_cons.mp h with e | e
      · subst e
        have : ∀ (us : List Nat), i ∉ us → (wipe (σ.set i x) us).set i none = (wipe σ us).set i none := by
          intro us
          induction us with
          | nil => intro _; show (σ.set i x).set i none = σ.set i none; rw [List.set_set]
          | cons u us ih =>
            intro hu
            have h1 : i ≠ u := fun z => hu (by rw [z]; exact List.mem_cons_self)
            have h2 : i ∉ us := fun z => hu (List.mem_cons_of_mem _ z)
            show ((wipe (σ.set i x) us).set u none).set i none = ((wipe σ us).set u none).set i none
            rw [List.set_comm _ _ (Ne.symm h1), ih h2, List.set_comm _ _ h1]
        exact this vs hv
      · exact absurd e hv
theorem setVs_len : ∀ (is : List Nat) (ds : List D) (ρ ρ' : En), setVs is ds ρ = some ρ' → ds.length = is.length := by
  intro is
  induction is with
  | nil => intro ds ρ ρ' e; cases ds <;> first | rfl | cases e
  | cons i is ih =>
    intro ds ρ ρ' e
    cases ds with
    | nil => cases e
    | cons d ds =>
      simp only [setVs, Option.bind_eq_some_iff] at e
      obtain ⟨ρ1, _, e2⟩ := e
      rw [List.length_cons, List.length_cons, ih ds ρ1 ρ' e2]
theorem gLo {c : Cn} {vs : List Nat} : ∀ (is : List Nat), (∀ i ∈ is, i ∈ vs) → ∀ pin Z ρ σ H Hf us ds ρ' Q, SR c pin Z ρ σ H Hf → Reps c Hf us ds → setVs is ds ρ = some ρ' → (∀ σ', SR c pin Z ρ' σ' H Hf → wipe σ' vs = wipe σ vs → Q σ' H) → gL is us σ H Q
  | [], _, pin, Z, ρ, σ, H, Hf, us, ds, ρ', Q, S, r, e, k => by
    cases ds with
    | nil => cases r; cases e; exact ⟨rfl, k _ S rfl⟩
    | cons => cases e
  | i :: is, h, pin, Z, ρ, σ, H, Hf, us, ds, ρ', Q, S, r, e, k => by
    cases ds with
    | nil => cases e
    | cons d ds =>
      cases r with
      | cons r1 r2 =>
        simp only [setVs, Option.bind_eq_some_iff] at e
        obtain ⟨ρ1, e1, e2⟩ := e
        have S1 := S.setV e1 r1
        exact ⟨_, _, rfl, gLo is (fun j hj => h j (List.mem_cons_of_mem _ hj)) _ _ _ _ _ _ _ _ _ _ S1 r2 e2 fun σ' S' w => k σ' S' (w.trans (wipe_set (h i List.mem_cons_self)))⟩
theorem tgo {c : Cn} {vs : List Nat} (T : Tg) (h : ∀ i ∈ T.slots, i ∈ vs) : ∀ pin Z ρ σ H Hf v d ρ' Q, SR c pin Z ρ σ H Hf → Rep c Hf v d → asgT T d ρ = some ρ' → (∀ σ', SR c pin Z ρ' σ' H Hf → wipe σ' vs = wipe σ vs → Q σ' H) → tgT c T v σ H Q := by
  intro pin Z ρ σ H Hf v d ρ' Q S r e k
  cases T with
  | nm i => exact k _ (S.setV e r) (wipe_set (h i List.mem_cons_self))
  | tup is =>
    cases d <;> try exact no_some e
    rename_i ds
    have e : setVs is ds ρ = some ρ' := e
    cases r with
    | tup hh r => exact ⟨_, _, rfl, SqT.of (S.f _ _ hh), by rw [r.length, setVs_len is ds ρ ρ' e], gLo is h _ _ _ _ _ _ _ _ _ _ S r e k⟩
section
variable {X : Cx} {c : Cn} {pos : Pos}
theorem asg_cons {e : Expr} {es : List Expr} {env : Env} (h : noStar e = true) : (assignEach (e :: es) env).map (·.2) = assign e env :: (assignEach es env).map (·.2) := by
  cases e <;> first | rfl | cases h
theorem asg_noStar : ∀ {es : List Expr} {env : Env}, es.all noStar = true → (assignEach es env).findIdx? (·.1) = none ∧ (assignEach es env).length = es.length
  | [], _, _ => ⟨rfl, rfl⟩
  | e :: es, env, h => by
    rw [List.all_cons, Bool.and_eq_true] at h
    obtain ⟨h1, h2⟩ := asg_noStar (es := es) (env := env) h.2
    have : assignEach (e :: es) env = (false, assign e env) :: assignEach es env := by
      cases e <;> first | rfl | cases h.1
    rw [this]
    refine ⟨?_, by rw [List.length_cons, List.length_cons, h2]⟩
    rw [List.findIdx?_cons]
    simp [h1]
theorem g_cons {i : Nat} {x : Str} {is : List Nat} {es : List Expr} (h : PG X (.Name x pos) (gName i)) (hs : PGs X es (gL is)) : PGs X (.Name x pos :: es) (gL (i :: is)) := pgs_cons h hs (asg_cons rfl)
theorem g_tup {is : List Nat} {es : List Expr} {kk : Nat} (hK : X.K = c.K) (hc : X.calm = true) (hn : es.all noStar = true) (hl : es.length = is.length) (hs : PGs X es (gL is)) : PG X (.Tuple es kk pos) (tgT c (.tup is)) := by
  obtain ⟨h1, h2⟩ := asg_noStar (env := X.env) hn
  show PG X _ (gTup c.K is.length (gL is))
  rw [← hK]
  exact pg_tup hc hs (h2.trans hl) h1
end

/-! ### statements -/
inductive Fl where
  | nx | bk | ct | rt (d : D) | rf (xs : List D)
def GoS (c : Cn) (pin : Addr) (Z : Hp) (W : WX) (Hf : Hp) (r : R Fl) (E : Ends) : Prop :=
  match r with
  | .ok (.rf xs) ρ => ∀ p vs σ H Hf', Same Hf Hf' → SR c pin Z ρ σ H Hf' → H p = some (.lst vs) → Hf' p = none → Z p = none → Reps c Hf' vs xs → E.rt (.ref p) H
  | .ok .nx ρ => ∀ σ H Hf', Same Hf Hf' → SR c pin Z ρ σ H Hf' → E.nx σ H
  | .ok .bk ρ => ∀ σ H Hf', Same Hf Hf' → SR c pin Z ρ σ H Hf' → E.bk σ H
  | .ok .ct ρ => ∀ σ H Hf', Same Hf Hf' → SR c pin Z ρ σ H Hf' → E.ct σ H
  | .ok (.rt d) ρ => ∀ v σ H Hf', Same Hf Hf' → SR c pin Z ρ σ H Hf' → Rep c Hf' v d → E.rt v H
  | .err x ρ => ∀ σ H Hf', Same Hf Hf' → SR c pin Z ρ σ H Hf' → W (.ref (c.C x)) none σ H
  | .bad => False
def tS (c : Cn) (W : WX) (f : En → R Fl) : TS := fun E σ H => ∃ pin Z ρ Hf, SR c pin Z ρ σ H Hf ∧ GoS c pin Z W Hf (f ρ) E
theorem GoS.mono {c : Cn} {pin : Addr} {Z : Hp} {W : WX} {Hf Hf' : Hp} {r : R Fl} {E : Ends} (s : Same Hf Hf') (g : GoS c pin Z W Hf r E) : GoS c pin Z W Hf' r E := by
  cases r with
  | ok a ρ => cases a <;> first | exact fun σ H Hf'' s' => g σ H Hf'' (s.trans s') | exact fun v σ H Hf'' s' => g v σ H Hf'' (s.trans s') | exact fun p v σ H Hf'' s' => g p v σ H Hf'' (s.trans s')
  | err x ρ => exact fun σ H Hf'' s' => g σ H Hf'' (s.trans s')
  | bad => exact g
/-- a value is reckoned, then a statement's end -/
theorem GoS.seqE {α β : Type} {c : Cn} {pin : Addr} {Z : Hp} {W : WX} {σ : Sg} {Hf : Hp} {rel : Rel α β} {r : R α} {k : α → En → R Fl} {E : Ends} {Q1 : β → Hp → Prop} (g : GoS c pin Z W Hf (r.bind k) E)
    (h : ∀ a ρ1 b H1 Hf1, Same Hf Hf1 → SR c pin Z ρ1 σ H1 Hf1 → rel Z ρ1 σ Hf1 H1 b a → GoS c pin Z W Hf1 (k a ρ1) E → Q1 b H1) : Go c pin Z W σ Hf rel r Q1 := by
  cases r with
  | ok a ρ => exact fun b H Hf'' s' S e => h a ρ b H Hf'' s' S e (GoS.mono s' g)
  | err x ρ => exact fun H Hf'' s' S => g σ H Hf'' s' S
  | bad => exact g
theorem tS.seqE {α β : Type} {c : Cn} {W : WX} {σ : Sg} {H : Hp} {rel : Rel α β} {f : En → R α} {k : α → En → R Fl} {E : Ends} {Q1 : β → Hp → Prop} (g : tS c W (fun ρ => (f ρ).bind k) E σ H)
    (h : ∀ pin Z a ρ1 b H1 Hf1, SR c pin Z ρ1 σ H1 Hf1 → rel Z ρ1 σ Hf1 H1 b a → GoS c pin Z W Hf1 (k a ρ1) E → Q1 b H1) : tG c W rel f σ H Q1 := by
  obtain ⟨pin, Z, ρ, Hf, S, g⟩ := g
  exact ⟨pin, Z, ρ, Hf, S, GoS.seqE g fun a ρ1 b H1 Hf1 _ S1 r1 g1 => h pin Z a ρ1 b H1 Hf1 S1 r1 g1⟩
/-- one statement, then what follows -/
def thenS (k : En → R Fl) (f : Fl) (ρ : En) : R Fl :=
  match f with
  | .nx => k ρ
  | f => .ok f ρ
theorem GoS.seqS {c : Cn} {pin : Addr} {Z : Hp} {W : WX} {Hf : Hp} {r : R Fl} {k : En → R Fl} {E : Ends} (g : GoS c pin Z W Hf (r.bind (thenS k)) E) : GoS c pin Z W Hf r { E with nx := tS c W k E } := by
  cases r with
  | ok a ρ =>
    cases a with
    | nx => exact fun σ H Hf' s S => ⟨pin, Z, ρ, Hf', S, GoS.mono s g⟩
    | bk => exact g
    | ct => exact g
    | rt d => exact g
    | rf xs => exact g
  | err x ρ => exact g
  | bad => exact g

section
variable {X : Cx} {c : Cn} {W : WX} {pos : Pos} {st : Stmt} {rest : List Stmt} {e : Expr} {f k : En → R Fl} {fe : En → R D}
theorem t_nil : PSs X [] (tS c W fun ρ => .ok .nx ρ) := pss_of pss_nil fun E σ H ⟨pin, Z, ρ, Hf, S, g⟩ => g σ H Hf (Same.refl _) S
theorem t_cons (h : PS X st (tS c W f)) (hr : PSs X rest (tS c W k)) : PSs X (st :: rest) (tS c W fun ρ => (f ρ).bind (thenS k)) :=
  pss_of (pss_cons h hr) fun E σ H ⟨pin, Z, ρ, Hf, S, g⟩ => ⟨pin, Z, ρ, Hf, S, GoS.seqS g⟩
theorem t_pass : PS X (.Pass pos) (tS c W fun ρ => .ok .nx ρ) := ps_of ps_pass fun E σ H ⟨pin, Z, ρ, Hf, S, g⟩ => g σ H Hf (Same.refl _) S
theorem t_break : PS X (.Break pos) (tS c W fun ρ => .ok .bk ρ) := ps_of ps_break fun E σ H ⟨pin, Z, ρ, Hf, S, g⟩ => g σ H Hf (Same.refl _) S
theorem t_cont : PS X (.Continue pos) (tS c W fun ρ => .ok .ct ρ) := ps_of ps_continue fun E σ H ⟨pin, Z, ρ, Hf, S, g⟩ => g σ H Hf (Same.refl _) S
def isComp : Expr → Bool
  | .ListComp .. => true
  | .SetComp .. => true
  | .DictComp .. => true
  | _ => false
theorem noSwap {e : Expr} {o : Option Expr} {l : Nat} {env : Env} (h : isComp e = false) : swapsWith e o l env = pure false := by
  cases e <;> first | rfl | cases h
theorem t_expr (hs : isComp e = false) (he : PE X e (tE c W fe)) : PS X (.Expr e pos) (tS c W fun ρ => (fe ρ).bind fun _ ρ1 => .ok .nx ρ1) :=
  ps_of (ps_expr he (noSwap hs)) fun E σ H h => tS.seqE h fun pin Z a ρ1 b H1 Hf1 S1 r1 g => g σ H1 Hf1 (Same.refl _) S1
theorem t_doc {x : Str} {j : Nat} {p : Pos} : PS X (.Expr (.Constant (.str x) j p) pos) (tS c W fun ρ => .ok .nx ρ) := ps_of ps_doc fun E σ H ⟨pin, Z, ρ, Hf, S, g⟩ => g σ H Hf (Same.refl _) S
theorem t_ret (he : PE X e (tE c W fe)) : PS X (.Return (some e) pos) (tS c W fun ρ => (fe ρ).bind fun d ρ1 => .ok (.rt d) ρ1) :=
  ps_of (ps_ret he) fun E σ H h => tS.seqE h fun pin Z a ρ1 b H1 Hf1 S1 r1 g => g b σ H1 Hf1 (Same.refl _) S1 r1
theorem t_retF {ff : En → R (List D)} (he : PE X e (tF c W ff)) : PS X (.Return (some e) pos) (tS c W fun ρ => (ff ρ).bind fun xs ρ1 => .ok (.rf xs) ρ1) :=
  ps_of (ps_ret he) fun E σ H h => tS.seqE h fun pin Z a ρ1 b H1 Hf1 S1 ⟨p, vs, e1, e2, e3, e4, e5, e6⟩ g => by subst e1; exact g p vs σ H1 Hf1 (Same.refl _) S1 e2 e3 e4 e6
theorem t_retN : PS X (.Return none pos) (tS c W fun ρ => .ok (.rt .non) ρ) := ps_of ps_retN fun E σ H ⟨pin, Z, ρ, Hf, S, g⟩ => g .non σ H Hf (Same.refl _) S .non
variable {a b : List Stmt} {fa fb : En → R Fl} {ft : En → R Bool}
theorem t_if (hc : PT X e (tT c W ft)) (ha : PSs X a (tS c W fa)) (hb : PSs X b (tS c W fb)) : PS X (.If e a b pos) (tS c W fun ρ => (ft ρ).bind fun k ρ1 => if k = true then fa ρ1 else fb ρ1) := by
  refine ps_of (ps_if hc ha hb) fun E σ H h => ?_
  refine tS.seqE h fun pin Z k ρ1 k' H1 Hf1 S1 r1 g => ?_
  cases r1
  cases k with
  | true => exact iteT ⟨pin, Z, ρ1, Hf1, S1, g⟩
  | false => exact iteF ⟨pin, Z, ρ1, Hf1, S1, g⟩
/-- x = e -/
theorem t_asg {i : Nat} {x : Str} {p : Pos} (hN : X.N.Nodup) (hi : X.N[i]? = some x) (hx : Loc X.env.scope x) (hf : X.fn x = true ∨ X.env.scope.names.lookup x = some .local) (hs : isComp e = false) (he : PE X e (tE c W fe)) :
    PS X (.Assign [.Name x p] e pos) (tS c W fun ρ => (fe ρ).bind fun d ρ1 => (R.lift (setV i d ρ1) ρ1).bind fun ρ2 _ => .ok .nx ρ2) := by
  refine ps_of (ps_set hN hi hx he (noSwap hs) hf) fun E σ H h => ?_
  refine tS.seqE h fun pin Z d ρ1 v H1 Hf1 S1 r1 g => ?_
  cases e : setV i d ρ1 with
  | none => rw [e] at g; exact g.elim
  | some ρ2 => rw [e] at g; exact g _ _ _ (Same.refl _) (S1.setV e r1)
/-- a target, any -/
theorem t_asgT {tg : Expr} {T : Tg} (hg : PG X tg (tgT c T)) (hs : swapsWithSole [tg] e pos.line X.env = pure false) (hw : swappedStores [tg] e X.env = pure none) (ht : noStar tg = true) (he : PE X e (tE c W fe)) :
    PS X (.Assign [tg] e pos) (tS c W fun ρ => (fe ρ).bind fun d ρ1 => (R.lift (asgT T d ρ1) ρ1).bind fun ρ2 _ => .ok .nx ρ2) := by
  refine ps_of (ps_asg he hg hs hw (asg_cons ht)) fun E σ H h => ?_
  refine tS.seqE h fun pin Z d ρ1 v H1 Hf1 S1 r1 gg => ?_
  cases e : asgT T d ρ1 with
  | none => rw [e] at gg; exact gg.elim
  | some ρ2 =>
    rw [e] at gg
    exact tgo (vs := T.slots) T (fun _ h => h) _ _ _ _ _ _ _ _ _ _ S1 r1 e fun σ' S' _ => gg σ' _ _ (Same.refl _) S'
/-- x op= e -/
theorem t_aug {i : Nat} {x : Str} {op : Operator} {p : Pos} (hN : X.N.Nodup) (hi : X.N[i]? = some x) (hx : Loc X.env.scope x) (hf : X.fn x = true ∨ X.env.scope.names.lookup x = some .local) (he : PE X e (tE c W fe)) :
    PS X (.AugAssign (.Name x p) op e pos) (tS c W fun ρ => (rdL ρ i).bind fun x0 ρ0 => (fe ρ0).bind fun d ρ1 => (R.lift ((aop2 op x0 d).bind fun z => setV i z ρ1) ρ1).bind fun ρ2 _ => .ok .nx ρ2) := by
  refine ps_of (ps_aug (ti := rOp c (aop2 op)) hN hi hx he (fun pins s σ H x y v u Q I rx ry q => iopr op pins s σ H x y v u Q I rx ry q) hf) fun E σ H ⟨pin, Z, ρ, Hf, S, g⟩ => ?_
  dsimp only at g
  cases h0 : rdL ρ i with
  | err => unfold rdL at h0; split at h0 <;> cases h0
  | bad => rw [h0] at g; exact g.elim
  | ok x0 ρ0 =>
    rw [h0] at g
    obtain ⟨e0, v, ev, rl⟩ := rdL_at S h0
    subst e0
    refine ⟨v, ev, pin, Z, ρ0, Hf, S, GoS.seqE g fun d ρ1 y H1 Hf1 s1 S1 r1 g1 => ?_⟩
    cases ha : aop2 op x0 d with
    | none => rw [ha] at g1; exact g1.elim
    | some z =>
      rw [ha] at g1
      cases hv : setV i z ρ1 with
      | none => simp only [Option.bind_some, hv] at g1; exact g1.elim
      | some ρ2 =>
        simp only [Option.bind_some, hv, R.lift, R.bind] at g1
        have rx : Rep c Hf1 v x0 := by
          rcases rl with rl | ⟨p, vs, ds, rfl, rfl, _⟩
          · exact rl.mono s1
          · cases ds <;> cases op <;> cases d <;> cases ha
        exact ⟨pin, Z, ρ1, σ, Hf1, x0, d, z, S1, rx, r1, ha, fun w H' Hf' s' S' r' => g1 _ _ _ s' (S'.setV hv r')⟩
end
end Ev

end
section
set_option maxHeartbeats 2000000
namespace Ev
open PySem PySem.Spec PyProof.Rows L2

/-! ### for -/
def forL (g : D → En → Option En) (fb : En → R Fl) : List D → En → R Fl
  | [], ρ => .ok .nx ρ
  | d :: ds, ρ =>
    match g d ρ with
    | none => .bad
    | some ρ1 => (fb ρ1).bind fun fl ρ2 =>
      match fl with
      | .nx => forL g fb ds ρ2
      | .ct => forL g fb ds ρ2
      | .bk => .ok .nx ρ2
      | .rt d => .ok (.rt d) ρ2
      | .rf xs => .ok (.rf xs) ρ2
/-- while, at most n turns -/
def whileL (ft : En → R Bool) (fb : En → R Fl) : Nat → En → R Fl
  | 0, _ => .bad
  | n + 1, ρ => (ft ρ).bind fun k ρ1 => if k = true then (fb ρ1).bind fun fl ρ2 =>
      match fl with
      | .nx => whileL ft fb n ρ2
      | .ct => whileL ft fb n ρ2
      | .bk => .ok .nx ρ2
      | .rt d => .ok (.rt d) ρ2
      | .rf xs => .ok (.rf xs) ρ2
    else .ok .nx ρ1
theorem drop_get {α : Type} {xs : List α} {i : Nat} {x : α} (h : xs[i]? = some x) : xs.drop i = x :: xs.drop (i + 1) := by
  obtain ⟨h1, e⟩ := List.getElem?_eq_some_iff.mp h
  rw [List.drop_eq_getElem_cons h1, e]
section
variable {X : Cx} {c : Cn} {W : WX} {pos : Pos} {tg iter e : Expr} {body : List Stmt} {fi : En → R (List D)} {fb : En → R Fl} {ft : En → R Bool} {T : Tg}
theorem t_for (hp : PassesOwn (model X.prog X.w) X.A X.env X.xe) (hc : X.calm = true) (hi : PI X tg iter (tI c W fi)) (pg : PG X tg (tgT c T)) (hb : PSs X body (tS c W fb)) (hs : ∀ x, foldedSetIterable iter X.env x = pure x) :
    PS X (.For tg iter body [] pos) (tS c W fun ρ => (fi ρ).bind fun items ρ1 => forL (asgT T) fb items ρ1) := by
  refine ps_of (ps_for hp hc hi pg hb hs) fun E σ H h => ?_
  refine tS.seqE h fun pin Z items ρ1 J H1 Hf1 S1 y gg => ?_
  refine ⟨fun i m σ' H' => m = items.length - i ∧ i ≤ items.length ∧ ∃ ρ' Hf', Same Hf1 Hf' ∧ SR c pin Z ρ' σ' H' Hf' ∧ GoS c pin Z W Hf' (forL (asgT T) fb (items.drop i) ρ') E, ⟨items.length, by simp, Nat.zero_le _, ρ1, Hf1, Same.refl _, S1, by simpa using gg⟩, ?_⟩
  rintro i m σ' H' ⟨rfl, hi, ρ', Hf', s', S', g'⟩
  by_cases hlt : i < items.length
  · refine .inr ⟨y.go i _ _ _ _ _ _ s' S' hlt, fun σ'' H'' => ∃ ρ'' Hf'', Same Hf1 Hf'' ∧ SR c pin Z ρ'' σ'' H'' Hf'' ∧ GoS c pin Z W Hf'' (forL (asgT T) fb (items.drop (i + 1)) ρ'') E, fun σ'' H'' n => ⟨_, Nat.lt_of_lt_of_le (Nat.sub_lt_sub_left hlt (Nat.lt_succ_self i)) (Nat.le_refl _), rfl, hlt, n⟩, fun x H2 yy => ?_⟩
    obtain ⟨d, hd⟩ := lt_get hlt
    obtain ⟨Hf2, s2, S2, r2⟩ := y.yld i _ _ _ _ _ _ _ _ _ s' S' hd yy
    rw [drop_get hd] at g'
    simp only [forL] at g'
    cases ha : asgT T d ρ' with
    | none => rw [ha] at g'; exact g'.elim
    | some ρ2 =>
      rw [ha] at g'
      refine tgo (vs := T.slots) T (fun _ h => h) _ _ _ _ _ _ _ _ _ _ S2 r2 ha fun σ3 S3 _ => ⟨pin, Z, ρ2, Hf2, S3, ?_⟩
      have g2 := GoS.mono s2 g'
      have s12 := s'.trans s2
      dsimp only at g2
      cases hr : fb ρ2 with
      | ok fl ρ3 =>
        rw [hr] at g2
        cases fl with
        | nx => exact fun σ4 H4 Hf4 s4 S4 => ⟨ρ3, Hf4, s12.trans s4, S4, GoS.mono s4 g2⟩
        | ct => exact fun σ4 H4 Hf4 s4 S4 => ⟨ρ3, Hf4, s12.trans s4, S4, GoS.mono s4 g2⟩
        | bk => exact g2
        | rt d => exact g2
        | rf xs => exact g2
      | err x ρ3 => rw [hr] at g2; exact g2
      | bad => rw [hr] at g2; exact g2
  · have ei : i = items.length := by omega
    subst ei
    rw [List.drop_length] at g'
    exact .inl ⟨y.stop _ _ _ _ _ _ s' S', g' _ _ _ (Same.refl _) S'⟩
theorem t_while {n : Nat} (hp : PassesOwn (model X.prog X.w) X.A X.env X.xe) (hc : PT X e (tT c W ft)) (hb : PSs X body (tS c W fb)) : PS X (.While e body [] pos) (tS c W (whileL ft fb n)) := by
  refine ps_of (ps_while hp hc hb) fun E σ H ⟨pin, Z, ρ, Hf, S, gg⟩ => ?_
  refine ⟨fun m σ' H' => ∃ ρ' Hf', SR c pin Z ρ' σ' H' Hf' ∧ GoS c pin Z W Hf' (whileL ft fb m ρ') E, ⟨n, ρ, Hf, S, gg⟩, ?_⟩
  rintro m σ' H' ⟨ρ', Hf', S', g'⟩
  cases m with
  | zero => exact g'.elim
  | succ m =>
    refine ⟨pin, Z, ρ', Hf', S', GoS.seqE (r := ft ρ') g' fun k ρ1 k' H1 Hf1 s1 S1 r1 g1 => ?_⟩
    cases r1
    cases k with
    | false => exact iteF (g1 _ _ _ (Same.refl _) S1)
    | true =>
      refine iteT ⟨fun σ'' H'' => ∃ ρ'' Hf'', SR c pin Z ρ'' σ'' H'' Hf'' ∧ GoS c pin Z W Hf'' (whileL ft fb m ρ'') E, fun σ'' H'' n => ⟨m, Nat.lt_succ_self m, n⟩, pin, Z, ρ1, Hf1, S1, ?_⟩
      simp only [if_true] at g1
      cases hr : fb ρ1 with
      | ok fl ρ3 =>
        rw [hr] at g1
        cases fl with
        | nx => exact fun σ4 H4 Hf4 s4 S4 => ⟨ρ3, Hf4, S4, GoS.mono s4 g1⟩
        | ct => exact fun σ4 H4 Hf4 s4 S4 => ⟨ρ3, Hf4, S4, GoS.mono s4 g1⟩
        | bk => exact g1
        | rt d => exact g1
        | rf xs => exact g1
      | err x ρ3 => rw [hr] at g1; exact g1
      | bad => rw [hr] at g1; exact g1
end

/-! ### list comprehensions -/
def R.ne {α : Type} : R α → R α
  | .ok a ρ => .ok a ρ
  | .err _ _ => .bad
  | .bad => .bad
@[simp] theorem R.ne_ok {α : Type} (a : α) (ρ : En) : (R.ok a ρ).ne = .ok a ρ := (rfl)
@[simp] theorem R.ne_err {α : Type} (x : Nat) (ρ : En) : (R.err x ρ : R α).ne = .bad := (rfl)
@[simp] theorem R.ne_bad {α : Type} : (R.bad : R α).ne = .bad := (rfl)
def wipeR (ρ : En) : List Nat → En
  | [] => ρ
  | v :: vs => (wipeR ρ vs).set v .un
/-- the names of the comprehension have behind it what they had ahead of it -/
def backR (ρ0 ρ1 : En) : List Nat → En
  | [] => ρ1
  | v :: vs => (backR ρ0 ρ1 vs).set v (match ρ0[v]? with | some (.va d) => .va d | _ => .un)
def compL (g : D → En → Option En) (ft : En → R Bool) (fe : En → R D) (vs : List Nat) : List D → En → R (List D)
  | [], ρ => .ok [] ρ
  | d :: ds, ρ =>
    match g d ρ with
    | none => .bad
    | some ρ1 => (ft ρ1).ne.bind fun k ρ2 =>
      if k = true then (fe ρ2).ne.bind fun x ρ3 => (compL g ft fe vs ds (wipeR ρ3 vs)).bind fun xs ρ4 => .ok (x :: xs) ρ4
      else compL g ft fe vs ds (wipeR ρ2 vs)
def W0 : WX := fun _ _ _ _ => False
section
variable {c : Cn} {pin : Addr} {Z : Hp} {ρ ρ' : En} {σ : Sg} {H Hf : Hp}
theorem wipeR_len : ∀ (vs : List Nat), (wipeR ρ vs).length = ρ.length
  | [] => rfl
  | v :: vs => by show ((wipeR ρ vs).set v .un).length = _; rw [List.length_set, wipeR_len vs]
theorem wipeR_get : ∀ {vs : List Nat} {i : Nat} {s : Sl}, (wipeR ρ vs)[i]? = some s → (s = .un) ∨ (ρ[i]? = some s ∧ i ∉ vs)
  | [], _, _, h => .inr ⟨h, by simp⟩
  | v :: vs, i, s, h => by
    rcases set_get (show ((wipeR ρ vs).set v .un)[i]? = some s from h) with ⟨_, e, _⟩ | ⟨e1, e2⟩
    · exact .inl e
    · rcases wipeR_get e2 with e | ⟨e3, e4⟩
      · exact .inl e
      · exact .inr ⟨e3, by simp only [List.mem_cons, not_or]; exact ⟨fun z => e1 z.symm, e4⟩⟩
theorem wipe_get : ∀ {vs : List Nat} {i : Nat}, i ∉ vs → (wipe σ vs)[i]? = σ[i]?
  | [], _, _ => rfl
  | v :: vs, i, h => by
    show ((wipe σ vs).set v none)[i]? = _
    rw [List.getElem?_set_ne (fun z => h (by rw [z]; exact List.mem_cons_self)), wipe_get fun z => h (List.mem_cons_of_mem _ z)]
theorem SR.wipe (S : SR c pin Z ρ σ H Hf) (vs : List Nat) : SR c pin Z (wipeR ρ vs) (L2.wipe σ vs) H Hf := by
  refine ⟨S.z, S.f, S.dj, by rw [wipeR_len, wipe_length]; exact S.len, fun i s e => ?_, fun i j io io' xs ys p hij ei ej si sj => ?_⟩
  · rcases wipeR_get e with rfl | ⟨e1, e2⟩
    · trivial
    · rw [wipe_get e2]; exact S.sl i s e1
  · rcases wipeR_get ei with e | ⟨e1, e2⟩
    · cases e
    rcases wipeR_get ej with e | ⟨e3, e4⟩
    · cases e
    rw [wipe_get e2] at si
    rw [wipe_get e4] at sj
    exact S.ap i j _ _ _ _ p hij e1 e3 si sj
/-- wiped already at the slots -/
theorem SR.wipe' {σ' : Sg} (S : SR c pin Z ρ σ' H Hf) {vs : List Nat} (h : L2.wipe σ' vs = L2.wipe σ vs) : SR c pin Z (wipeR ρ vs) (L2.wipe σ vs) H Hf := by
  rw [← h]; exact S.wipe vs
theorem backR_len {ρ0 : En} : ∀ (vs : List Nat), (backR ρ0 ρ vs).length = ρ.length
  | [] => rfl
  | v :: vs => by show ((backR ρ0 ρ vs).set v _).length = _; rw [List.length_set, backR_len vs]
theorem backR_get {ρ0 : En} : ∀ {vs : List Nat} {i : Nat} {s : Sl}, (backR ρ0 ρ vs)[i]? = some s → s = .un ∨ (∃ d, s = .va d ∧ ρ0[i]? = some (.va d)) ∨ (ρ[i]? = some s ∧ i ∉ vs)
  | [], _, _, h => .inr (.inr ⟨h, by simp⟩)
  | v :: vs, i, s, h => by
    rcases set_get (show ((backR ρ0 ρ vs).set v _)[i]? = some s from h) with ⟨e0, e, _⟩ | ⟨e1, e2⟩
    · subst e0
      split at e
      · rename_i d hd; exact .inr (.inl ⟨d, e, hd⟩)
      · exact .inl e
    · rcases backR_get e2 with e | e | ⟨e3, e4⟩
      · exact .inl e
      · exact .inr (.inl e)
      · exact .inr (.inr ⟨e3, by simp only [List.mem_cons, not_or]; exact ⟨fun z => e1 z.symm, e4⟩⟩)
theorem SR.back {ρ0 : En} {Hf0 : Hp} {vs : List Nat} {H0 : Hp} (S : SR c pin Z ρ (L2.wipe σ vs) H Hf) (S0 : SR c pin Z ρ0 σ H0 Hf0) (s : Same Hf0 Hf) : SR c pin Z (backR ρ0 ρ vs) σ H Hf := by
  refine ⟨S.z, S.f, S.dj, by rw [backR_len, S.len, wipe_length], fun i sl e => ?_, fun i j io io' xs ys p hij ei ej si sj => ?_⟩
  · rcases backR_get e with rfl | ⟨d, rfl, e1⟩ | ⟨e1, e2⟩
    · trivial
    · obtain ⟨v, e3, r⟩ := S0.sl i _ e1
      exact ⟨v, e3, r.mono s⟩
    · have q := S.sl i sl e1
      rw [wipe_get e2] at q
      exact q
  · rcases backR_get ei with e | ⟨d, e, _⟩ | ⟨e1, e2⟩
    · cases e
    · cases e
    rcases backR_get ej with e | ⟨d, e, _⟩ | ⟨e3, e4⟩
    · cases e
    · cases e
    refine S.ap i j _ _ _ _ p hij e1 e3 ?_ ?_
    · rw [wipe_get e2]; exact si
    · rw [wipe_get e4]; exact sj
/-- one list more stands still: the new list at P -/
theorem SR.guard (S : SR c pin Z ρ σ H Hf) {P : Addr} {o : HO} (h : H P = some o) (hf : Hf P = none) (hz : Z P = none) (aw : Away ρ σ P) : SR c pin (upd Z P o) ρ σ H Hf := by
  refine ⟨fun b u e => ?_, S.f, fun b u e ne => ?_, S.len, fun i s e => ?_, S.ap⟩
  · by_cases hb : b = P
    · subst hb; rw [upd_same] at e; cases e; exact h
    · rw [upd_ne hb] at e; exact S.z _ _ e
  · by_cases hb : b = P
    · subst hb; exact hf
    · rw [upd_ne hb] at e; exact S.dj _ _ e ne
  · have q := S.sl i s e
    cases s with
    | un => trivial
    | va d => exact q
    | ow io ds =>
      obtain ⟨p, vs, e1, e2, e3, e4, r, pn⟩ := q
      refine ⟨p, vs, e1, e2, e3, ?_, r, pn⟩
      rw [upd_ne (fun z => by subst z; exact aw i io ds e e1)]
      exact e4
/-- .. and may be written again -/
theorem SR.unguard {P : Addr} {o : HO} (S : SR c pin (upd Z P o) ρ σ H Hf) (hz : Z P = none) (nt : NT o) : SR c pin Z ρ σ H Hf ∧ H P = some o ∧ Hf P = none ∧ Away ρ σ P := by
  refine ⟨⟨fun b u e => ?_, S.f, fun b u e ne => ?_, S.len, fun i s e => ?_, S.ap⟩, S.z _ _ upd_same, S.dj _ _ upd_same nt, fun i io xs e q => ?_⟩
  · exact S.z _ _ (by rw [upd_ne (fun z => by subst z; rw [hz] at e; cases e)]; exact e)
  · exact S.dj b u (by rw [upd_ne (fun z => by subst z; rw [hz] at e; cases e)]; exact e) ne
  · have q := S.sl i s e
    cases s with
    | un => trivial
    | va d => exact q
    | ow io ds =>
      obtain ⟨p, vs, e1, e2, e3, e4, r, pn⟩ := q
      refine ⟨p, vs, e1, e2, e3, ?_, r, pn⟩
      by_cases hp : p = P
      · subst hp; exact hz
      · rw [upd_ne hp] at e4; exact e4
  · obtain ⟨p, vs, e1, e2, e3, e4, r, pn⟩ := S.sl i _ e
    rw [q] at e1
    cases e1
    rw [upd_same] at e4
    cases e4
/-- the list at P is written -/
theorem SR.write (S : SR c pin Z ρ σ H Hf) {P : Addr} {o : HO} (hf : Hf P = none) (hz : Z P = none) (aw : Away ρ σ P) : SR c pin Z ρ σ (upd H P o) Hf := by
  refine S.grow (fun b u e => ?_) (fun b u e => ?_) (Same.refl _) S.dj fun i io xs q vs e1 e2 e _ f => ⟨?_, f⟩
  · rw [upd_ne (fun z => by subst z; rw [hz] at e; cases e)]; exact S.z _ _ e
  · rw [upd_ne (fun z => by subst z; rw [hf] at e; cases e)]; exact S.f _ _ e
  · rw [upd_ne (fun z => by subst z; exact aw i io xs e1 e2)]; exact e
end
section
variable {X : Cx} {c : Cn} {W : WX} {tg iter elt : Expr} {fi : En → R (List D)} {fe : En → R D} {ft : En → R Bool} {T : Tg} {vs : List Nat}
/-- the reading of a comprehension's walk -/
theorem comp_reads {σ : Sg} {H : Hp} {Q : VK} (hT : ∀ i ∈ T.slots, i ∈ vs)
    (h : tF c W (fun ρ => (fi ρ).bind fun items ρ1 => (compL (asgT T) ft fe vs items (wipeR ρ1 vs)).bind fun ds ρ2 => .ok ds (backR ρ1 ρ2 vs)) σ H Q) : tLc (fun σ H R => tJ c W fi σ H fun J H1 => Small H1 → R J H1) (tgT c T) (tT c W0 ft) (tE c W0 fe) vs σ H Q := by
  obtain ⟨pin, Z, ρ, Hf, S, gg⟩ := h
  dsimp only at gg
  refine ⟨pin, Z, ρ, Hf, S, ?_⟩
  cases hfi : fi ρ with
  | err x ρ1 => rw [hfi] at gg; exact gg
  | bad => rw [hfi] at gg; exact gg
  | ok items ρ1 =>
  rw [hfi] at gg
  intro J H1 Hf1 s1 S1 y hsm P nP
  have hlen := y.2 hsm
  have y := y.1
  simp only [R.bind_ok] at gg
  have gg := Go.mono s1 gg
  -- behind i turns: acc is made, the rest gives what is left of the whole
  let Inv' : Nat → Hp → Prop := fun i H' => i ≤ items.length ∧ ∃ ρ' Hf' acc us, Same Hf1 Hf' ∧ us.length ≤ i ∧ SR c pin (upd Z P (.lst acc)) ρ' (wipe σ vs) H' Hf' ∧ Reps c Hf' acc us ∧
    Go c pin Z W σ Hf' (relF c) ((compL (asgT T) ft fe vs (items.drop i) ρ').bind fun ds ρ2 => .ok (us ++ ds) (backR ρ1 ρ2 vs)) Q
  have zP : Z P = none := S1.z.free nP
  have fP : Hf1 P = none := S1.f.free nP
  have start : Inv' 0 (upd H1 P (.lst [])) := by
    refine ⟨Nat.zero_le _, wipeR ρ1 vs, Hf1, [], [], Same.refl _, Nat.le_refl _, ?_, .nil, by simpa using gg⟩
    have Sw := (S1.new (o := .lst []) nP).wipe vs
    refine Sw.guard upd_same fP zP fun i io xs e q => ?_
    obtain ⟨p, us, e1, e2, e3, e4, r, pn⟩ := (S1.wipe vs).sl i _ e
    rw [q] at e1
    cases e1
    rw [nP] at e2
    cases e2
  refine ⟨fun i m H' => m = items.length - i ∧ Inv' i H', ⟨items.length, by simp, start⟩, ?_⟩
  rintro i m H' ⟨rfl, hi, ρ', Hf', acc, us, s', hus, S', ra, g'⟩
  by_cases hlt : i < items.length
  · refine .inr ⟨y.go i _ _ _ _ _ _ s' S' hlt, fun H'' => Inv' (i + 1) H'', fun H'' n => ⟨_, Nat.lt_of_lt_of_le (Nat.sub_lt_sub_left hlt (Nat.lt_succ_self i)) (Nat.le_refl _), rfl, n⟩, fun x H2 yy => ?_⟩
    obtain ⟨d, hd⟩ := lt_get hlt
    obtain ⟨Hf2, s2, S2, r2⟩ := y.yld i _ _ _ _ _ _ _ _ _ s' S' hd yy
    rw [drop_get hd] at g'
    simp only [compL] at g'
    cases ha : asgT T d ρ' with
    | none => rw [ha] at g'; exact g'.elim
    | some ρ2 =>
      rw [ha] at g'
      refine tgo T hT _ _ _ _ _ _ _ _ _ _ S2 r2 ha fun σ3 S3 hw3 => ⟨hw3.trans ?_, ?_⟩
      · have : ∀ (us : List Nat) (τ : Sg), wipe (wipe τ us) us = wipe τ us := by
          intro us
          induction us with
          | nil => intro τ; rfl
          | cons u us ih =>
            intro τ
            show (wipe ((wipe τ us).set u none) us).set u none = (wipe τ us).set u none
            have gen : ∀ (ws : List Nat) (τ : Sg), (wipe (τ.set u none) ws).set u none = (wipe τ ws).set u none := by
              intro ws
              induction ws with
              | nil => intro τ; show (τ.set u none).set u none = _; rw [List.set_set]; rfl
              | cons w ws ihw =>
                intro τ
                show ((wipe (τ.set u none) ws).set w none).set u none = ((wipe τ ws).set w none).set u none
                by_cases e : w = u
                · subst e; rw [ihw]
                · rw [List.set_comm _ _ e, ihw, List.set_comm _ _ (Ne.symm e)]
            rw [gen, ih]
        exact this vs σ
      refine ⟨pin, upd Z P (.lst acc), ρ2, Hf2, S3, ?_⟩
      have g2 := Go.mono s2 g'
      have s12 := s'.trans s2
      dsimp only at g2
      have ww : ∀ {τ : Sg}, wipe τ vs = wipe (wipe σ vs) vs → wipe τ vs = wipe σ vs := fun {τ} e => by
        rw [e]
        have : ∀ (us : List Nat) (τ : Sg), wipe (wipe τ us) us = wipe τ us := by
          intro us
          induction us with
          | nil => intro τ; rfl
          | cons u us ih =>
            intro τ
            show (wipe ((wipe τ us).set u none) us).set u none = (wipe τ us).set u none
            have gen : ∀ (ws : List Nat) (τ : Sg), (wipe (τ.set u none) ws).set u none = (wipe τ ws).set u none := by
              intro ws
              induction ws with
              | nil => intro τ; show (τ.set u none).set u none = _; rw [List.set_set]; rfl
              | cons w ws ihw =>
                intro τ
                show ((wipe (τ.set u none) ws).set w none).set u none = ((wipe τ ws).set w none).set u none
                by_cases e : w = u
                · subst e; rw [ihw]
                · rw [List.set_comm _ _ e, ihw, List.set_comm _ _ (Ne.symm e)]
            rw [gen, ih]
        exact this vs σ
      cases hr : ft ρ2 with
      | err x ρ3 => rw [hr] at g2; exact g2.elim
      | bad => rw [hr] at g2; exact g2.elim
      | ok k ρ3 =>
        rw [hr] at g2
        simp only [R.ne_ok, R.bind_ok] at g2
        intro k' H4 Hf4 s4 S4 e4
        cases e4
        have g4 := Go.mono s4 g2
        have s14 := s12.trans s4
        cases k with
        | false =>
          refine iteF ⟨hlt, wipeR ρ3 vs, Hf4, acc, us, s14, by omega, S4.wipe' (ww hw3), (ra.mono s2).mono s4, ?_⟩
          simpa using g4
        | true =>
          refine iteT ⟨pin, upd Z P (.lst acc), ρ3, Hf4, S4, ?_⟩
          simp only [if_true] at g4
          cases hx : fe ρ3 with
          | err x ρ3 => rw [hx] at g4; exact g4.elim
          | bad => rw [hx] at g4; exact g4.elim
          | ok z ρ5 =>
            rw [hx] at g4
            simp only [R.ne_ok, R.bind_ok] at g4
            intro v H5 Hf5 s5 S5 r5
            obtain ⟨S6, hP, hfP, aw⟩ := S5.unguard zP trivial
            have ra5 : Reps c Hf5 acc us := ((ra.mono s2).mono s4).mono s5
            refine ⟨acc, hP, ?_, hlt, wipeR ρ5 vs, Hf5, acc ++ [v], us ++ [z], s14.trans s5, by rw [List.length_append, List.length_singleton]; omega, ?_, ra5.append (.cons r5 .nil), ?_⟩
            · rw [ra.length, LN_eq]
              have : LN = 16777216 := rfl
              omega
            · have S7 := (S6.write (o := .lst (acc ++ [v])) hfP zP aw)
              have S8 := S7.guard upd_same hfP zP aw
              exact S8.wipe' (ww hw3)
            · have g5 := Go.mono s5 g4
              cases hc : compL (asgT T) ft fe vs (List.drop (i + 1) items) (wipeR ρ5 vs) with
              | ok xs ρ6 => rw [hc] at g5; simp only [R.bind_ok] at g5 ⊢; rw [List.append_assoc]; exact g5
              | err x ρ6 => rw [hc] at g5; exact g5
              | bad => rw [hc] at g5; exact g5
  · have ei : i = items.length := by omega
    subst ei
    rw [List.drop_length] at g'
    simp only [compL, R.bind, List.append_nil] at g'
    refine .inl ⟨y.stop _ _ _ _ _ _ s' S', ?_⟩
    obtain ⟨S6, hP, hfP, aw⟩ := S'.unguard zP trivial
    have S7 : SR c pin Z (backR ρ1 ρ' vs) σ H' Hf' := S6.back S1 s'
    refine g' _ _ _ (Same.refl _) S7 ⟨P, acc, rfl, hP, hfP, zP, fun i io xs e q => ?_, ra⟩
    rcases backR_get e with e | ⟨d, e, _⟩ | ⟨e1, e2⟩
    · cases e
    · cases e
    · exact aw i io xs e1 (by rw [wipe_get e2]; exact q)
end
end Ev

end
section
set_option maxHeartbeats 2000000
namespace Ev
open PySem PySem.Spec PyProof.Rows L2

/-! ### lists of their own -/
/-- a new list is kept by a name -/
def setO (i : Nat) (ds : Ob) (ρ : En) : Option En :=
  match ρ[i]? with
  | some (.ow true _) => none
  | some _ => some (ρ.set i (.ow false ds))
  | none => none
/-- the list of its own is changed -/
def modO (i : Nat) (f : List D → Option (List D)) (ρ : En) : Option En :=
  match ρ[i]? with
  | some (.ow io (.lst xs)) => (f xs).map fun ys => ρ.set i (.ow io (.lst ys))
  | _ => none
def rdO (ρ : En) (i : Nat) : R (List D) :=
  match ρ[i]? with
  | some (.ow _ (.lst xs)) => .ok xs ρ
  | _ => .bad
section
variable {c : Cn} {pin : Addr} {Z : Hp} {ρ ρ' : En} {σ : Sg} {H Hf : Hp}
theorem SR.own (S : SR c pin Z ρ σ H Hf) {i : Nat} {p : Addr} {vs : HO} {ds : Ob} (h : setO i ds ρ = some ρ') (hp : H p = some vs) (hf : Hf p = none) (hz : Z p = none) (aw : Away ρ σ p) (r : ObR c Hf vs ds) :
    SR c pin Z ρ' (σ.set i (some (.ref p))) H Hf := by
  have : ∃ s, ρ[i]? = some s ∧ ρ' = ρ.set i (.ow false ds) := by
    unfold setO at h
    split at h
    · cases h
    · rename_i s _ e; cases h; exact ⟨_, e, rfl⟩
    · cases h
  obtain ⟨s, hs, rfl⟩ := this
  have hi := S.lt hs
  refine ⟨S.z, S.f, S.dj, by rw [List.length_set, List.length_set]; exact S.len, fun j s e => ?_, fun j k io io' xs ys q hjk ej ek sj sk => ?_⟩
  · rcases set_get e with ⟨e1, e2, _⟩ | ⟨e1, e2⟩
    · subst e1; subst e2
      exact ⟨p, vs, List.getElem?_set_self hi, hp, hf, hz, r, fun z => by cases z⟩
    · rw [List.getElem?_set_ne e1]; exact S.sl j s e2
  · rcases set_get ej with ⟨f1, f2, _⟩ | ⟨f1, ej⟩
    · subst f1
      rw [List.getElem?_set_self hi] at sj
      cases sj
      rw [List.getElem?_set_ne hjk] at sk
      rcases set_get ek with ⟨f3, _, _⟩ | ⟨_, ek⟩
      · exact hjk f3
      · exact aw k _ _ ek sk
    · rw [List.getElem?_set_ne f1] at sj
      rcases set_get ek with ⟨f3, _, _⟩ | ⟨f3, ek⟩
      · subst f3
        rw [List.getElem?_set_self hi] at sk
        cases sk
        exact aw j _ _ ej sj
      · rw [List.getElem?_set_ne f3] at sk
        exact S.ap j k _ _ _ _ q hjk ej ek sj sk
theorem modO_some {i : Nat} {f : List D → Option (List D)} (h : modO i f ρ = some ρ') : ∃ io xs ys, ρ[i]? = some (.ow io (.lst xs)) ∧ f xs = some ys ∧ ρ' = ρ.set i (.ow io (.lst ys)) := by
  unfold modO at h
  split at h
  · rename_i io xs e
    simp only [Option.map_eq_some_iff] at h
    obtain ⟨ys, e1, rfl⟩ := h
    exact ⟨io, xs, ys, e, e1, rfl⟩
  · cases h
/-- the list of the name i is written; H' is the heap behind it -/
theorem SR.modify (S : SR c pin Z ρ σ H Hf) {i : Nat} {io : Bool} {xs ys : Ob} {p : Addr} {us : HO} {H' Hf' : Hp} (h : ρ[i]? = some (.ow io xs)) (hp : σ[i]? = some (some (.ref p)))
    (k : ∀ b o, b ≠ p → H b = some o → H' b = some o) (hn : H' p = some us) (ff : Same Hf Hf') (hf : Same Hf' H') (fr : ∀ a o, H a = some o → NT o → Hf a = none → Hf' a = none) (r : ObR c Hf' us ys) : SR c pin Z (ρ.set i (.ow io ys)) σ H' Hf' := by
  obtain ⟨p', vs, e1, e2, e3, e4, r0, pn⟩ := S.sl i _ h
  rw [hp] at e1
  cases e1
  have hi : i < ρ.length := by rw [S.len]; exact S.lt h
  have fp : Hf' p = none := fr p _ e2 r0.nt e3
  refine ⟨fun b o e => k b o (fun z => by subst z; rw [e4] at e; cases e) (S.z _ _ e), hf, fun a o e ne => ?_, by rw [List.length_set]; exact S.len, fun j s e => ?_, fun j k io io' xs ys q hjk ej ek sj sk => ?_⟩
  · have := S.z _ _ e
    exact fr a _ this ne (S.dj _ _ e ne)
  · rcases set_get e with ⟨f1, f2, _⟩ | ⟨f1, f2⟩
    · subst f1; subst f2
      exact ⟨p, us, hp, hn, fp, e4, r, pn⟩
    · have q := S.sl j s f2
      cases s with
      | un => trivial
      | va d => obtain ⟨v, e5, r5⟩ := q; exact ⟨v, e5, r5.mono ff⟩
      | ow io2 ds2 =>
        obtain ⟨p2, vs2, g1, g2, g3, g4, g5, g6⟩ := q
        have ne : p2 ≠ p := fun z => by subst z; exact S.ap i j _ _ _ _ _ f1 h f2 hp g1
        exact ⟨p2, vs2, g1, k _ _ ne g2, fr p2 _ g2 g5.nt g3, g4, g5.mono ff, g6⟩
  · have old : ∀ {b : Bool} {zs : Ob} {j : Nat} {io : Bool} {xs : Ob}, (ρ.set i (.ow b zs))[j]? = some (.ow io xs) → ∃ io xs, ρ[j]? = some (.ow io xs) := fun {b zs j io xs} e => by
      rcases set_get e with ⟨f1, _, _⟩ | ⟨_, f2⟩
      · subst f1; exact ⟨_, _, h⟩
      · exact ⟨_, _, f2⟩
    obtain ⟨_, _, ej⟩ := old ej
    obtain ⟨_, _, ek⟩ := old ek
    exact S.ap j k _ _ _ _ q hjk ej ek sj sk
theorem rdO_at {i : Nat} {xs : List D} (S : SR c pin Z ρ σ H Hf) (h : rdO ρ i = .ok xs ρ') : ρ' = ρ ∧ ∃ io p vs, ρ[i]? = some (.ow io (.lst xs)) ∧ σ[i]? = some (some (.ref p)) ∧ H p = some (.lst vs) ∧ Hf p = none ∧ Reps c Hf vs xs := by
  unfold rdO at h
  split at h
  · rename_i io ys e
    cases h
    obtain ⟨p, vs, e1, e2, e3, e4, r, pn⟩ := S.sl i _ e
    obtain ⟨us, rfl, r⟩ := r.lst
    exact ⟨rfl, io, p, us, e, e1, e2, e3, r⟩
  · cases h
end
section
variable {X : Cx} {c : Cn} {W : WX} {pos : Pos} {e a : Expr} {fe fa : En → R D} {f : En → R (List D)}
/-- x = a new list that may grow -/
theorem t_own {i : Nat} {x : Str} {p : Pos} (hN : X.N.Nodup) (hi : X.N[i]? = some x) (hx : Loc X.env.scope x) (hf : X.fn x = true ∨ X.env.scope.names.lookup x = some .local) (hs : swapsWith e (some (.Name x p)) pos.line X.env = pure false) (he : PE X e (tF c W f)) :
    PS X (.Assign [.Name x p] e pos) (tS c W fun ρ => (f ρ).bind fun ds ρ1 => (R.lift (setO i ds ρ1) ρ1).bind fun ρ2 _ => .ok .nx ρ2) := by
  refine ps_of (ps_set hN hi hx he hs hf) fun E σ H h => ?_
  refine tS.seqE h fun pin Z ds ρ1 v H1 Hf1 S1 r1 g => ?_
  obtain ⟨q, vs, rfl, h1, h2, h3, aw, r⟩ := r1
  cases e : setO i ds ρ1 with
  | none => rw [e] at g; exact g.elim
  | some ρ2 => rw [e] at g; exact g _ _ _ (Same.refl _) (S1.own e h1 h2 h3 aw r)
/-- x = a new list, as a value -/
theorem t_asgF {i : Nat} {x : Str} {p : Pos} (hN : X.N.Nodup) (hi : X.N[i]? = some x) (hx : Loc X.env.scope x) (hf : X.fn x = true ∨ X.env.scope.names.lookup x = some .local) (hs : swapsWith e (some (.Name x p)) pos.line X.env = pure false) (he : PE X e (tE c W fe)) :
    PS X (.Assign [.Name x p] e pos) (tS c W fun ρ => (fe ρ).bind fun d ρ1 => (R.lift (setV i d ρ1) ρ1).bind fun ρ2 _ => .ok .nx ρ2) := by
  refine ps_of (ps_set hN hi hx he hs hf) fun E σ H h => ?_
  refine tS.seqE h fun pin Z d ρ1 v H1 Hf1 S1 r1 g => ?_
  cases e : setV i d ρ1 with
  | none => rw [e] at g; exact g.elim
  | some ρ2 => rw [e] at g; exact g _ _ _ (Same.refl _) (S1.setV e r1)
def appF (d : D) (xs : List D) : Option (List D) := if xs.length < LN then some (xs ++ [d]) else none
theorem SR.isList {pin : Addr} {Z : Hp} {ρ : En} {σ : Sg} {H Hf : Hp} {i : Nat} {io : Bool} {xs : List D} (S : SR c pin Z ρ σ H Hf) (h : ρ[i]? = some (.ow io (.lst xs))) : ∃ p, σ[i]? = some (some (.ref p)) ∧ tyV X.K "list" (.ref p) H := by
  obtain ⟨p, vs, e1, e2, e3, e4, r, pn⟩ := S.sl i _ h
  obtain ⟨us, rfl, r⟩ := r.lst
  exact ⟨p, e1, .inl ⟨rfl, _, SqL.of e2⟩⟩
/-- x.append(e) -/
theorem t_app {i : Nat} {x : Str} {p p2 p3 : Pos} (hx : PE X (.Name x p) (tVar i)) (hl : (p2.endLine == p3.line) = true) (hn : noStar e = true) (he : PE X e (tE c W fe)) :
    PS X (.Expr (.Call (.Attribute (.Name x p) "append" p2) [e] [] p3) pos) (tS c W fun ρ => (rdO ρ i).bind fun _ ρ0 => (fe ρ0).bind fun d ρ1 => (R.lift (modO i (appF d) ρ1) ρ1).bind fun ρ2 _ => .ok .nx ρ2) := by
  refine ps_of (ps_expr (pe_bm PySem.F.plainAttrs_list PySem.F.slot_list_append PySem.F.type_list_append mt_append hx (pa_cons he pa_nil (star_cons hn)) rfl (by rw [star_cons hn]; rfl) hl (star_cons hn) rfl)) fun E σ H ⟨pin, Z, ρ, Hf, S, g⟩ => ?_
  dsimp only at g
  cases h0 : rdO ρ i with
  | err => unfold rdO at h0; split at h0 <;> cases h0
  | bad => rw [h0] at g; exact g.elim
  | ok xs0 ρ0 =>
    rw [h0] at g
    obtain ⟨e0, io, q, vs, e1, e2, e3, _, _⟩ := rdO_at S h0
    subst e0
    refine ⟨_, e2, .inl ⟨rfl, _, SqL.of e3⟩, pin, Z, ρ0, Hf, S, GoS.seqE g fun d ρ1 y H1 Hf1 s1 S1 r1 g1 => ?_⟩
    cases hm : modO i (appF d) ρ1 with
    | none => rw [hm] at g1; exact g1.elim
    | some ρ2 =>
      rw [hm] at g1
      obtain ⟨io', xs, ys, f1, f2, rfl⟩ := modO_some hm
      obtain ⟨q', us, k1, k2, k3, k4, k5, k6⟩ := S1.sl i _ f1
      obtain ⟨us, rfl, k5⟩ := k5.lst
      rw [e2] at k1
      cases k1
      unfold appF at f2
      split at f2
      · rename_i hz
        cases f2
        refine ⟨q, us, y, rfl, rfl, k2, by rw [k5.length, LN_eq]; exact hz, ?_⟩
        exact g1 _ _ _ (Same.refl _) (S1.modify f1 e2 (fun b o hb e => by rw [upd_ne hb]; exact e) upd_same (Same.refl _) (fun b o e => by rw [upd_ne (fun z => by subst z; rw [k3] at e; cases e)]; exact S1.f _ _ e) (fun _ _ _ _ h => h) (k5.append (.cons r1 .nil)))
      · cases f2
/-- x.pop() -/
def popR (i : Nat) (ρ : En) : R D :=
  match ρ[i]? with
  | some (.ow io (.lst xs)) => match xs[xs.length - 1]? with
    | some d => .ok d (ρ.set i (.ow io (.lst xs.dropLast)))
    | none => .bad
  | _ => .bad
theorem s_pop {i : Nat} {x : Str} {p p2 p3 : Pos} (hx : PE X (.Name x p) (tVar i)) (hl : (p2.endLine == p3.line) = true) : PE X (.Call (.Attribute (.Name x p) "pop" p2) [] [] p3) (tE c W (popR i)) := by
  refine pe_of (pe_bm0 PySem.F.plainAttrs_list PySem.F.slot_list_pop PySem.F.type_list_pop mt_pop hx rfl hl) fun σ H Q ⟨pin, Z, ρ, Hf, S, g⟩ => ?_
  unfold popR at g
  split at g
  · rename_i io xs e
    obtain ⟨q, vs, e1, e2, e3, e4, r, pn⟩ := S.sl i _ e
    obtain ⟨vs, rfl, r⟩ := r.lst
    split at g
    · rename_i d hd
      obtain ⟨v, hv, rv⟩ := r.get hd
      refine ⟨_, e1, .inl ⟨rfl, _, SqL.of e2⟩, q, vs, v, rfl, rfl, e2, by rw [r.length]; exact hv, ?_⟩
      exact g _ _ _ (Same.refl _) (S.modify e e1 (fun b o hb e => by rw [upd_ne hb]; exact e) upd_same (Same.refl _) (fun b o e => by rw [upd_ne (fun z => by subst z; rw [e3] at e; cases e)]; exact S.f _ _ e) (fun _ _ _ _ h => h) r.dropLast) rv
    · exact g.elim
  · exact g.elim
def rPopAtS : V → List V → Hp → VK → Prop := fun x vs H Q => ∃ l xs i k y, x = .ref l ∧ vs = [.int i] ∧ H l = some (.lst xs) ∧ ixN xs.length i = some k ∧ xs[k]? = some y ∧ Q y (upd H l (.lst (xs.eraseIdx k)))
theorem mt_popAtS : MtR X "list.pop" rPopAtS := by
  intro pins s σ H x vs v us Q I r rs h
  obtain ⟨l, xs, i, k, y, rfl, rfl, h1, h2, h3, q⟩ := h
  obtain ⟨z1, z2, z3, z4⟩ := ixN_seq h2
  obtain ⟨hz, _⟩ := I.lstM h1
  rw [sizeLine_eq] at hz
  exact mt_popAt pins s σ H _ _ v us Q I r rs ⟨l, xs, i, k, y, rfl, rfl, h1, by omega, by omega, z1, h3, q⟩
/-- x.pop(e) -/
def popAt (i : Nat) (d : D) (ρ : En) : R D :=
  match d, ρ[i]? with
  | .int k, some (.ow io (.lst xs)) => match ixN xs.length k with
    | some j => match xs[j]? with
      | some d => .ok d (ρ.set i (.ow io (.lst (xs.eraseIdx j))))
      | none => .bad
    | none => .bad
  | _, _ => .bad
theorem s_popAt {i : Nat} {x : Str} {p p2 p3 : Pos} (hx : PE X (.Name x p) (tVar i)) (hl : (p2.endLine == p3.line) = true) (hn : noStar e = true) (he : PE X e (tE c W fe)) :
    PE X (.Call (.Attribute (.Name x p) "pop" p2) [e] [] p3) (tE c W fun ρ => (rdO ρ i).bind fun _ ρ0 => (fe ρ0).bind fun d ρ1 => popAt i d ρ1) := by
  refine pe_of (pe_bm PySem.F.plainAttrs_list PySem.F.slot_list_pop PySem.F.type_list_pop mt_popAtS hx (pa_cons he pa_nil (star_cons hn)) rfl (by rw [star_cons hn]; rfl) hl (star_cons hn) rfl) fun σ H Q ⟨pin, Z, ρ, Hf, S, g⟩ => ?_
  dsimp only at g
  cases h0 : rdO ρ i with
  | err => unfold rdO at h0; split at h0 <;> cases h0
  | bad => rw [h0] at g; exact g.elim
  | ok xs0 ρ0 =>
    rw [h0] at g
    obtain ⟨e0, io, q, vs, e1, e2, e3, _, _⟩ := rdO_at S h0
    subst e0
    refine ⟨_, e2, .inl ⟨rfl, _, SqL.of e3⟩, pin, Z, ρ0, Hf, S, Go.seq g fun d ρ1 y H1 Hf1 s1 S1 r1 g1 => ?_⟩
    unfold popAt at g1
    split at g1
    · rename_i k io' xs f1
      split at g1
      · rename_i j hj
        split at g1
        · rename_i d' hd
          cases r1
          obtain ⟨q', us, k1, k2, k3, k4, k5, k6⟩ := S1.sl i _ f1
          obtain ⟨us, rfl, k5⟩ := k5.lst
          rw [e2] at k1
          cases k1
          obtain ⟨v, hv, rv⟩ := k5.get hd
          refine ⟨q, us, k, j, v, rfl, rfl, k2, by rw [k5.length]; exact hj, hv, ?_⟩
          exact g1 _ _ _ (Same.refl _) (S1.modify f1 e2 (fun b o hb e => by rw [upd_ne hb]; exact e) upd_same (Same.refl _) (fun b o e => by rw [upd_ne (fun z => by subst z; rw [k3] at e; cases e)]; exact S1.f _ _ e) (fun _ _ _ _ h => h) (k5.erase j)) rv
        · exact g1.elim
      · exact g1.elim
    · exact g1.elim
end
end Ev

end
section
set_option maxHeartbeats 2000000
namespace Ev
open PySem PySem.Spec PyProof.Rows L2

/-! ### new lists -/
def seqD : D → Option (List D)
  | .lst xs => some xs
  | .tup xs => some xs
  | .scr ns => some (ns.map .int)
  | _ => none
def sortZ (ns : List Int) : List Int := ns.mergeSort fun a b => decide (a ≤ b)
theorem sortZ_perm (ns : List Int) : (sortZ ns).Perm ns := List.mergeSort_perm _ _
theorem sortZ_sorted (ns : List Int) : (sortZ ns).Pairwise (· ≤ ·) := by
  have := List.pairwise_mergeSort (le := fun (a b : Int) => decide (a ≤ b)) (fun a b c h1 h2 => by simp at *; omega) (fun a b => by simp; omega) ns
  refine this.imp fun h => ?_
  simpa using h
theorem sortZ_is {ns ms : List Int} (hp : ms.Perm ns) (hs : ms.Pairwise (· ≤ ·)) : ms = sortZ ns :=
  (hp.trans (sortZ_perm ns).symm).eq_of_pairwise (fun x y _ _ h1 h2 => Int.le_antisymm h1 h2) hs (sortZ_sorted ns)
def sortD (d : D) : Option (List D) := (seqD d).bind fun xs => (ints? xs).map fun ns => (sortZ ns).map .int
section
variable {X : Cx} {c : Cn} {W : WX} {pos : Pos} {e a b : Expr} {fe fa fb : En → R D} {f : En → R (List D)}
theorem freshF {pin : Addr} {Z : Hp} {ρ : En} {σ : Sg} {H Hf : Hp} {vs : List V} {ds : List D} {Q : VK} (S : SR c pin Z ρ σ H Hf) (r : Reps c Hf vs ds) (g : Go c pin Z W σ Hf (relF c) (.ok ds ρ) Q) : ∀ p, H p = none → Q (.ref p) (upd H p (.lst vs)) := fun p hp =>
  g _ _ _ (Same.refl _) (S.new hp) ⟨p, vs, rfl, upd_same, S.f.free hp, S.z.free hp, S.away_new hp, r⟩
/-- list(x) -/
theorem s_listOf {p : Pos} (hK : X.K = c.K) (hg : Gl X "list") (hm : X.mg "list" = none) (hn : noStar a = true) (ha : PE X a (tL c W fa)) :
    PE X (.Call (.Name "list" p) [a] [] pos) (tF c W fun ρ => (fa ρ).bind fun x ρ1 => R.lift (seqD x) ρ1) := by
  refine pe_of (pe_callTy call_list_of hg hm PyProof.Rows.boot_list (pa_cons ha pa_nil (star_cons hn)) (by decide) (by decide) (star_cons hn) rfl) fun σ H Q h => ?_
  refine tG.seq h fun pin Z d ρ1 x H1 Hf1 S1 r1 h1 => ?_
  cases d <;> try exact h1.elim
  · obtain ⟨p, vs, rfl, hp, r⟩ := (relL.non (X := X) hK r1 (by simp)).seqT hK S1.f
    exact ⟨_, _, rfl, .inr hp, freshF S1 r h1⟩
  · obtain ⟨p, vs, rfl, hp, r⟩ := relL.seq (X := X) hK S1.f r1
    exact ⟨_, _, rfl, .inl (SqL.of hp), freshF S1 r h1⟩
  · rename_i ns
    cases relL.non (X := X) hK r1 (by simp) with
    | scr hp =>
      refine ⟨_, _, rfl, .inl (by rw [hK]; exact S1.f.seq hp), freshF S1 (ds := ns.map .int) ?_ h1⟩
      clear h1 hp r1
      induction ns with
      | nil => exact .nil
      | cons n ns ih => exact .cons (.int n) ih
/-- list(reversed(x)) -/
theorem s_listRev {p p2 pos2 : Pos} (hK : X.K = c.K) (hc : X.calm = true) (hg : Gl X "list") (hm : X.mg "list" = none) (hg2 : Gl X "reversed") (hm2 : X.mg "reversed" = none) (hn : noStar a = true) (ha : PE X a (tL c W fa)) :
    PE X (.Call (.Name "list" p) [.Call (.Name "reversed" p2) [a] [] pos2] [] pos) (tF c W fun ρ => (fa ρ).bind fun x ρ1 => R.lift (revD x) ρ1) := by
  refine pe_of (pe_lstRev hc hg hm hg2 hm2 ha (star_cons hn) (star_cons rfl)) fun σ H Q h => ?_
  refine tG.seq h fun pin Z d ρ1 x H1 Hf1 S1 r1 h1 => ?_
  cases d <;> try exact h1.elim
  obtain ⟨p, vs, rfl, hp, r⟩ := relL.seq (X := X) hK S1.f r1
  exact ⟨_, _, rfl, SqL.of hp, freshF S1 r.reverse h1⟩
/-- list(range(..)) -/
def rgL : List D → Option (List D)
  | [.int j] => if 0 ≤ j ∧ j ≤ 16777216 then some ((List.range j.toNat).map fun (k : Nat) => D.int (0 + (k : Int))) else none
  | [.int i, .int j] => if 0 ≤ i ∧ i ≤ 16777216 ∧ 0 ≤ j ∧ j ≤ 16777216 then some ((List.range (j - i).toNat).map fun (k : Nat) => D.int (i + (k : Int))) else none
  | _ => none
theorem rgV_reps {Hf : Hp} (a b : Int) : Reps c Hf (rgV a b) ((List.range (b - a).toNat).map fun (k : Nat) => D.int (a + (k : Int))) := by
  unfold rgV
  generalize List.range (b - a).toNat = l
  induction l with
  | nil => exact .nil
  | cons n ns ih => exact .cons (.int _) ih
theorem s_listRg1 {p p2 pos2 : Pos} (hc : X.calm = true) (hg : Gl X "list") (hm : X.mg "list" = none) (hg2 : Gl X "range") (hm2 : X.mg "range" = none) (hn : noStar a = true) (ha : PE X a (tE c W fa)) :
    PE X (.Call (.Name "list" p) [.Call (.Name "range" p2) [a] [] pos2] [] pos) (tF c W fun ρ => (fa ρ).bind fun x ρ1 => R.lift (rgL [x]) ρ1) := by
  refine pe_of (pe_listRg hc hg hm (prg_1 hg2 hm2 ha (star_cons hn)) (star_cons rfl)) fun σ H Q h => ?_
  refine tG.seq h fun pin Z d ρ1 x H1 Hf1 S1 r1 h1 => ?_
  cases d <;> try exact h1.elim
  cases r1
  simp only [rgL] at h1
  split at h1
  · rename_i j hz
    refine ⟨j, rfl, RgOk.of_le (by omega) hz.2 (by omega) hz.1, freshF S1 ?_ h1⟩
    have := rgV_reps (c := c) (Hf := Hf1) 0 j
    rw [Int.sub_zero] at this
    exact this
  · exact h1.elim
theorem s_listRg2 {p p2 pos2 : Pos} (hc : X.calm = true) (hg : Gl X "list") (hm : X.mg "list" = none) (hg2 : Gl X "range") (hm2 : X.mg "range" = none) (hn : noStar a = true) (hn2 : noStar b = true) (ha : PE X a (tE c W fa)) (hb : PE X b (tE c W fb)) :
    PE X (.Call (.Name "list" p) [.Call (.Name "range" p2) [a, b] [] pos2] [] pos) (tF c W fun ρ => (fa ρ).bind fun x ρ1 => (fb ρ1).bind fun y ρ2 => R.lift (rgL [x, y]) ρ2) := by
  refine pe_of (pe_listRg hc hg hm (prg_2 hg2 hm2 ha hb (star_cons hn) (star_cons hn2) (by rw [star_cons hn2]; rfl)) (star_cons rfl)) fun σ H Q h => ?_
  refine tG.seq h fun pin Z d ρ1 x H1 Hf1 S1 r1 h1 => ?_
  refine ⟨pin, Z, ρ1, Hf1, S1, Go.seq h1 fun e ρ2 y H2 Hf2 s2 S2 r2 h2 => ?_⟩
  cases d <;> cases e <;> try exact h2.elim
  cases r1
  cases r2
  simp only [rgL] at h2
  split at h2
  · rename_i hz
    exact ⟨_, _, rfl, rfl, RgOk.of_le hz.1 hz.2.2.2 hz.2.1 hz.2.2.1, freshF S2 (rgV_reps _ _) h2⟩
  · exact h2.elim
theorem ints_back {Hf : Hp} : ∀ (ns : List Int), Reps c Hf (ns.map V.int) (ns.map .int)
  | [] => .nil
  | n :: ns => .cons (.int n) (ints_back ns)
/-- sorted(x), whole numbers -/
theorem s_sorted {p : Pos} (hK : X.K = c.K) (hc : X.calm = true) (hg : Gl X "sorted") (hm : X.mg "sorted" = none) (hn : noStar a = true) (ha : PE X a (tL c W fa)) :
    PE X (.Call (.Name "sorted" p) [a] [] pos) (tF c W fun ρ => (fa ρ).bind fun x ρ1 => match x with | .lst _ => R.lift (sortD x) ρ1 | _ => .bad) := by
  refine pe_of (pe_callB cr_sortedI hg hm (by decide +kernel) (pa_cons ha pa_nil (star_cons hn)) (by decide) (by decide) (star_cons hn) rfl) fun σ H Q h => ?_
  refine tG.seq h fun pin Z d ρ1 x H1 Hf1 S1 r1 h1 => ?_
  cases d <;> try exact h1.elim
  rename_i xs
  obtain ⟨p, vs, rfl, hp, r⟩ := relL.seq (X := X) hK S1.f r1
  simp only [sortD, seqD, Option.bind_some] at h1
  cases hi : ints? xs with
  | none => rw [hi] at h1; exact h1.elim
  | some ns =>
    rw [hi] at h1
    have e := ints_reps r hi
    subst e
    refine ⟨_, ns, rfl, SqL.of hp, fun ns' q hperm hs hq => ?_⟩
    have e := sortZ_is hperm hs
    subst e
    exact freshF S1 (ints_back _) h1 q hq
/-- [..] + [..], a new list -/
theorem s_cat (ha : PE X a (tE c W fa)) (hb : PE X b (tE c W fb)) : PE X (.BinOp a .Add b pos) (tF c W fun ρ => (fa ρ).bind fun x ρ1 => (fb ρ1).bind fun y ρ2 => match x, y with
    | .lst xs, .lst ys => if xs.length + ys.length ≤ LN then .ok (xs ++ ys) ρ2 else .bad
    | _, _ => .bad) := by
  refine pe_of (pe_op op_cat ha hb) fun σ H Q h => ?_
  refine tG.seq h fun pin Z d ρ1 x H1 Hf1 S1 r1 h1 => ?_
  refine ⟨pin, Z, ρ1, Hf1, S1, Go.seq h1 fun e ρ2 y H2 Hf2 s2 S2 r2 h2 => ?_⟩
  cases d <;> try exact h2.elim
  cases e <;> try exact h2.elim
  simp only at h2
  split at h2
  · rename_i xs ys hz
    obtain ⟨p, vs, rfl, hp, q1⟩ := (r1.mono s2).seqL S2.f
    obtain ⟨p2, vs2, rfl, hp2, q2⟩ := r2.seqL S2.f
    exact ⟨_, _, _, _, rfl, rfl, hp, hp2, by rw [LN_eq, q1.length, q2.length]; exact hz, freshF S2 (q1.append q2) h2⟩
  · exact h2.elim
/-- [..] * n, a new list -/
theorem s_rep (ha : PE X a (tE c W fa)) (hb : PE X b (tE c W fb)) : PE X (.BinOp a .Mult b pos) (tF c W fun ρ => (fa ρ).bind fun x ρ1 => (fb ρ1).bind fun y ρ2 => match x, y with
    | .lst xs, .int k => if xs.length * k.toNat ≤ LN ∧ -(2 ^ 63) ≤ k ∧ k < 2 ^ 63 then .ok (List.replicate k.toNat xs).flatten ρ2 else .bad
    | _, _ => .bad) := by
  refine pe_of (pe_op op_rep ha hb) fun σ H Q h => ?_
  refine tG.seq h fun pin Z d ρ1 x H1 Hf1 S1 r1 h1 => ?_
  refine ⟨pin, Z, ρ1, Hf1, S1, Go.seq h1 fun e ρ2 y H2 Hf2 s2 S2 r2 h2 => ?_⟩
  cases d <;> try exact h2.elim
  cases e <;> try exact h2.elim
  simp only at h2
  split at h2
  · rename_i xs k hz
    obtain ⟨p, vs, rfl, hp, q1⟩ := (r1.mono s2).seqL S2.f
    cases r2
    exact ⟨_, _, _, rfl, rfl, hp, hz.2.1, hz.2.2, by rw [LN_eq, q1.length]; exact hz.1, freshF S2 (q1.rep _) h2⟩
  · exact h2.elim
/-! ### comprehensions -/
variable {tg iter elt : Expr} {fi : En → R (List D)} {ft : En → R Bool} {T : Tg} {ifs : List Expr} {scope : Scope} {own : List (Str × Nat)}
def compR (T : Tg) (fi : En → R (List D)) (ft : En → R Bool) (fe : En → R D) (vs : List Nat) (ρ : En) : R (List D) :=
  (fi ρ).bind fun items ρ1 => (compL (asgT T) ft fe vs items (wipeR ρ1 vs)).bind fun ds ρ2 => .ok ds (backR ρ1 ρ2 vs)
theorem s_comp (hc : X.calm = true) (hN : X.N.Nodup) (hi : PI X tg iter (tJ c W fi)) (ok : BlkOk X.N X.env.scope scope own) (hT : ∀ i ∈ T.slots, i ∈ own.map (·.2))
    (hg : ∀ (s : Shared) (H : Hp) (C : Addr) (cl : List (Str × Addr)) (fp : List Addr), PG (X.blk s H scope (compEnvC scope cl C X.env) fp) tg (tgT c T)) (ht : ∀ (s : Shared) (H : Hp) (C : Addr) (cl : List (Str × Addr)) (fp : List Addr), PTs (X.blk s H scope (compEnvC scope cl C X.env) fp) ifs (tT c W0 ft))
    (he : ∀ (s : Shared) (H : Hp) (C : Addr) (cl : List (Str × Addr)) (fp : List Addr), PE (X.blk s H scope (compEnvC scope cl C X.env) fp) elt (tE c W0 fe)) (hs : ∀ x, foldedSetIterable iter X.env x = pure x) :
    PE X (.ListComp elt [⟨tg, iter, ifs, 0⟩] scope pos) (tF c W (compR T fi ft fe (own.map (·.2)))) :=
  pe_of (pe_lc hc hN (pi_small hi) ok hg ht he hs) fun σ H Q h => comp_reads hT h
/-- y = [..], the name stored within the comprehension's frame -/
theorem t_ownLc {i : Nat} {y : Str} {py spos : Pos} (hc : X.calm = true) (hN : X.N.Nodup) (hy : X.N[i]? = some y) (hyl : X.env.scope.names.lookup y = some .local) (hsw : swapsWith (.ListComp elt [⟨tg, iter, ifs, 0⟩] scope pos) (some (.Name y py)) spos.line X.env = pure true)
    (hi : PI X tg iter (tJ c W fi)) (ok : BlkOk X.N X.env.scope scope own) (hT : ∀ i ∈ T.slots, i ∈ own.map (·.2))
    (hg : ∀ (s : Shared) (H : Hp) (C : Addr) (cl : List (Str × Addr)) (fp : List Addr), PG (X.blk s H scope (compEnvC scope cl C X.env) fp) tg (tgT c T)) (ht : ∀ (s : Shared) (H : Hp) (C : Addr) (cl : List (Str × Addr)) (fp : List Addr), PTs (X.blk s H scope (compEnvC scope cl C X.env) fp) ifs (tT c W0 ft))
    (he : ∀ (s : Shared) (H : Hp) (C : Addr) (cl : List (Str × Addr)) (fp : List Addr), PE (X.blk s H scope (compEnvC scope cl C X.env) fp) elt (tE c W0 fe)) (hs : ∀ x, foldedSetIterable iter X.env x = pure x) :
    PS X (.Assign [.Name y py] (.ListComp elt [⟨tg, iter, ifs, 0⟩] scope pos) spos) (tS c W fun ρ => (compR T fi ft fe (own.map (·.2)) ρ).bind fun ds ρ1 => (R.lift (setO i ds ρ1) ρ1).bind fun ρ2 _ => .ok .nx ρ2) := by
  refine ps_of (ps_setLc hc hN hy hyl hsw (pi_small hi) ok hg ht he hs) fun E σ H h => ?_
  refine comp_reads hT (W := W) (fi := fi) (Q := fun x H1 => gName i x σ H1 E.nx) ?_
  refine tS.seqE (f := compR T fi ft fe (own.map (·.2))) h fun pin Z ds ρ1 v H1 Hf1 S1 r1 g => ?_
  obtain ⟨q, vs, rfl, h1, h2, h3, aw, r⟩ := r1
  cases e : setO i ds ρ1 with
  | none => rw [e] at g; exact g.elim
  | some ρ2 => rw [e] at g; exact g _ _ _ (Same.refl _) (S1.own e h1 h2 h3 aw r)
theorem t_asgLc {i : Nat} {y : Str} {py spos : Pos} (hc : X.calm = true) (hN : X.N.Nodup) (hy : X.N[i]? = some y) (hyl : X.env.scope.names.lookup y = some .local) (hsw : swapsWith (.ListComp elt [⟨tg, iter, ifs, 0⟩] scope pos) (some (.Name y py)) spos.line X.env = pure true)
    (hi : PI X tg iter (tJ c W fi)) (ok : BlkOk X.N X.env.scope scope own) (hT : ∀ i ∈ T.slots, i ∈ own.map (·.2))
    (hg : ∀ (s : Shared) (H : Hp) (C : Addr) (cl : List (Str × Addr)) (fp : List Addr), PG (X.blk s H scope (compEnvC scope cl C X.env) fp) tg (tgT c T)) (ht : ∀ (s : Shared) (H : Hp) (C : Addr) (cl : List (Str × Addr)) (fp : List Addr), PTs (X.blk s H scope (compEnvC scope cl C X.env) fp) ifs (tT c W0 ft))
    (he : ∀ (s : Shared) (H : Hp) (C : Addr) (cl : List (Str × Addr)) (fp : List Addr), PE (X.blk s H scope (compEnvC scope cl C X.env) fp) elt (tE c W0 fe)) (hs : ∀ x, foldedSetIterable iter X.env x = pure x) :
    PS X (.Assign [.Name y py] (.ListComp elt [⟨tg, iter, ifs, 0⟩] scope pos) spos) (tS c W fun ρ => (compR T fi ft fe (own.map (·.2)) ρ).bind fun ds ρ1 => (R.lift (setV i (.lst ds) ρ1) ρ1).bind fun ρ2 _ => .ok .nx ρ2) := by
  refine ps_of (ps_setLc hc hN hy hyl hsw (pi_small hi) ok hg ht he hs) fun E σ H h => ?_
  refine comp_reads hT (W := W) (fi := fi) (Q := fun x H1 => gName i x σ H1 E.nx) ?_
  refine tS.seqE (f := compR T fi ft fe (own.map (·.2))) h fun pin Z ds ρ1 v H1 Hf1 S1 r1 g => ?_
  obtain ⟨q, vs, rfl, h1, h2, h3, aw, r⟩ := r1
  obtain ⟨S2, s2⟩ := S1.speak h1 h2 h3 aw
  cases e : setV i (.lst ds) ρ1 with
  | none => rw [e] at g; exact g.elim
  | some ρ2 => rw [e] at g; exact g _ _ _ s2 (S2.setV e (Rep.newL s2 r))
theorem s_noifs : PTs X [] (tT c W fun ρ => .ok true ρ) := ⟨fun pins s σ H Q I ⟨pin, Z, ρ, Hf, S, g⟩ => pts_nil.run pins s σ H Q I (g _ _ _ (Same.refl _) S rfl)⟩
theorem s_oneif (h : PT X e (tT c W ft)) : PTs X [e] (tT c W ft) := pts_one h
/-! ### x[k] = e, x.extend(e) -/
def setF (k : D) (d : D) (xs : List D) : Option (List D) :=
  match k with
  | .int k => (ixN xs.length k).map fun j => xs.set j d
  | _ => none
theorem t_setI {i : Nat} {x : Str} {p p2 : Pos} (hx : PE X (.Name x p) (tVar i)) (hn : plainSl b = true) (hs : isComp e = false) (hw : swappedStores [.Subscript (.Name x p) b p2] e X.env = pure none) (he : PE X e (tE c W fe)) (hb : PE X b (tE c W fb)) :
    PS X (.Assign [.Subscript (.Name x p) b p2] e pos) (tS c W fun ρ => (fe ρ).bind fun d ρ1 => (rdO ρ1 i).bind fun _ ρ2 => (fb ρ2).bind fun k ρ3 => (R.lift (modO i (setF k d) ρ3) ρ3).bind fun ρ4 _ => .ok .nx ρ4) := by
  have ha : ∀ v, assign (.Subscript (.Name x p) b p2) X.env v = (do
      let ov ← holding [v] (eval (.Name x p) X.env)
      let iv ← holding [v, ov] (eval b X.env)
      standAt p2
      holding [v, ov, iv] (setItem ov iv v)
      release [v, ov, iv] []) := by intro v; cases b <;> first | rfl | cases hn
  refine ps_of (ps_asg he (pg_sub hx hb set_list ha) (by rw [show swapsWithSole [Expr.Subscript (.Name x p) b p2] e pos.line X.env = swapsWith e (some (Expr.Subscript (.Name x p) b p2)) pos.line X.env from rfl]; exact noSwap hs) hw rfl) fun E σ H h => ?_
  refine tS.seqE h fun pin Z d ρ1 v H1 Hf1 S1 r1 g => ?_
  cases h0 : rdO ρ1 i with
  | err => unfold rdO at h0; split at h0 <;> cases h0
  | bad => rw [h0] at g; exact g.elim
  | ok xs0 ρ0 =>
    rw [h0] at g
    obtain ⟨e0, io, q, vs, e1, e2, e3, _, _⟩ := rdO_at S1 h0
    subst e0
    refine ⟨_, e2, pin, Z, ρ0, Hf1, S1, GoS.seqE g fun k ρ3 y H3 Hf3 s3 S3 r3 g3 => ?_⟩
    cases hm : modO i (setF k d) ρ3 with
    | none => rw [hm] at g3; exact g3.elim
    | some ρ4 =>
      rw [hm] at g3
      obtain ⟨io', xs, ys, f1, f2, rfl⟩ := modO_some hm
      obtain ⟨q', us, k1, k2, k3, k4, k5, k6⟩ := S3.sl i _ f1
      obtain ⟨us, rfl, k5⟩ := k5.lst
      rw [e2] at k1
      cases k1
      cases k <;> try exact no_some f2
      rename_i kk
      simp only [setF, Option.map_eq_some_iff] at f2
      obtain ⟨j, hj, rfl⟩ := f2
      cases r3
      refine ⟨q, us, kk, j, rfl, rfl, k2, by rw [k5.length]; exact hj, ?_⟩
      exact g3 _ _ _ (Same.refl _) (S3.modify f1 e2 (fun b o hb e => by rw [upd_ne hb]; exact e) upd_same (Same.refl _) (fun b o e => by rw [upd_ne (fun z => by subst z; rw [k3] at e; cases e)]; exact S3.f _ _ e) (fun _ _ _ _ h => h) (k5.set j (r1.mono s3)))
def extF (d : D) (xs : List D) : Option (List D) :=
  match d with
  | .lst ys => if xs.length + ys.length ≤ LN then some (xs ++ ys) else none
  | _ => none
theorem t_ext {i : Nat} {x : Str} {p p2 p3 : Pos} (hx : PE X (.Name x p) (tVar i)) (hl : (p2.endLine == p3.line) = true) (hn : noStar e = true) (he : PE X e (tE c W fe)) :
    PS X (.Expr (.Call (.Attribute (.Name x p) "extend" p2) [e] [] p3) pos) (tS c W fun ρ => (rdO ρ i).bind fun _ ρ0 => (fe ρ0).bind fun d ρ1 => (R.lift (modO i (extF d) ρ1) ρ1).bind fun ρ2 _ => .ok .nx ρ2) := by
  refine ps_of (ps_expr (pe_bm PySem.F.plainAttrs_list PySem.F.slot_list_extend PySem.F.type_list_extend mt_extend hx (pa_cons he pa_nil (star_cons hn)) rfl (by rw [star_cons hn]; rfl) hl (star_cons hn) rfl)) fun E σ H ⟨pin, Z, ρ, Hf, S, g⟩ => ?_
  dsimp only at g
  cases h0 : rdO ρ i with
  | err => unfold rdO at h0; split at h0 <;> cases h0
  | bad => rw [h0] at g; exact g.elim
  | ok xs0 ρ0 =>
    rw [h0] at g
    obtain ⟨e0, io, q, vs, e1, e2, e3, _, _⟩ := rdO_at S h0
    subst e0
    refine ⟨_, e2, .inl ⟨rfl, _, SqL.of e3⟩, pin, Z, ρ0, Hf, S, GoS.seqE g fun d ρ1 y H1 Hf1 s1 S1 r1 g1 => ?_⟩
    cases hm : modO i (extF d) ρ1 with
    | none => rw [hm] at g1; exact g1.elim
    | some ρ2 =>
      rw [hm] at g1
      obtain ⟨io', xs, ys, f1, f2, rfl⟩ := modO_some hm
      obtain ⟨q', us, k1, k2, k3, k4, k5, k6⟩ := S1.sl i _ f1
      obtain ⟨us, rfl, k5⟩ := k5.lst
      rw [e2] at k1
      cases k1
      cases d <;> try exact no_some f2
      simp only [extF] at f2
      split at f2
      · rename_i hz
        cases f2
        obtain ⟨b, zs, rfl, hb, rz⟩ := r1.seqL S1.f
        refine ⟨q, b, us, zs, rfl, rfl, k2, hb, by rw [k5.length, rz.length, LN_eq]; exact hz, ?_⟩
        exact g1 _ _ _ (Same.refl _) (S1.modify f1 e2 (fun b o hb e => by rw [upd_ne hb]; exact e) upd_same (Same.refl _) (fun b o e => by rw [upd_ne (fun z => by subst z; rw [k3] at e; cases e)]; exact S1.f _ _ e) (fun _ _ _ _ h => h) (k5.append rz))
      · cases f2
end
end Ev

end
section
set_option maxHeartbeats 2000000
namespace Ev
open PySem PySem.Spec PyProof.Rows L2

/-! ### calls of defs -/
inductive Cr (α : Type) where
  | ok (a : α) | err (x : Nat) | bad
def Cr.r : Cr D → En → R D
  | .ok d, ρ => .ok d ρ
  | .err x, ρ => .err x ρ
  | .bad, _ => .bad
@[simp] theorem Cr.r_ok (d : D) (ρ : En) : Cr.r (.ok d) ρ = .ok d ρ := rfl
@[simp] theorem Cr.r_err (x : Nat) (ρ : En) : Cr.r (.err x) ρ = .err x ρ := rfl
@[simp] theorem Cr.r_bad (ρ : En) : Cr.r .bad ρ = .bad := rfl
/-- a def's promise -/
def spD (c : Cn) (ar : Nat) (r : List D → Cr D) : Sp := fun vs H Q E => ∃ Hf ds, vs.length = ar ∧ Same Hf H ∧ Reps c Hf vs ds ∧
  match r ds with
  | .ok d => ∀ v H' Hf', Same H H' → Same Hf Hf' → Same Hf' H' → (∀ a o, H a = some o → NT o → Hf a = none → Hf' a = none) → Rep c Hf' v d → Q v H'
  | .err x => ∀ H', Same H H' → E (.ref (c.C x)) none H'
  | .bad => False
/-- .. that changes the list that it is handed first -/
def spM (c : Cn) (ar : Nat) (r : List D → List D → Cr (D × List D)) : Sp := fun vs H Q _ => ∃ p us vs' Hf xs ds, vs = .ref p :: vs' ∧ vs.length = ar ∧ Same Hf H ∧ H p = some (.lst us) ∧ Hf p = none ∧ Reps c Hf us xs ∧ Reps c Hf vs' ds ∧
  match r xs ds with
  | .ok (d, ys) => ∀ v H' Hf' us', (∀ a o, a ≠ p → H a = some o → H' a = some o) → H' p = some (.lst us') → Reps c Hf' us' ys → Same Hf Hf' → Same Hf' H' → (∀ a o, H a = some o → NT o → Hf a = none → Hf' a = none) → Rep c Hf' v d → Q v H'
  | _ => False
/-- .. that gives a new list -/
def spF (c : Cn) (ar : Nat) (r : List D → Cr (List D)) : Sp := fun vs H Q E => ∃ Hf ds, vs.length = ar ∧ Same Hf H ∧ Reps c Hf vs ds ∧
  match r ds with
  | .ok xs => ∀ p us H' Hf', Same H H' → Same Hf Hf' → Same Hf' H' → (∀ a o, H a = some o → NT o → Hf a = none → Hf' a = none) → H' p = some (.lst us) → H p = none → Hf' p = none → Reps c Hf' us xs → Q (.ref p) H'
  | .err x => ∀ H', Same H H' → E (.ref (c.C x)) none H'
  | .bad => False
def Cr.f : Cr (List D) → En → R (List D)
  | .ok d, ρ => .ok d ρ
  | .err x, ρ => .err x ρ
  | .bad, _ => .bad
@[simp] theorem Cr.f_ok (d : List D) (ρ : En) : Cr.f (.ok d) ρ = .ok d ρ := rfl
@[simp] theorem Cr.f_err (x : Nat) (ρ : En) : Cr.f (.err x) ρ = .err x ρ := rfl
@[simp] theorem Cr.f_bad (ρ : En) : Cr.f .bad ρ = .bad := rfl
def callM (i : Nat) (r : List D → List D → Cr (D × List D)) (ds : List D) (ρ : En) : R D :=
  match ρ[i]? with
  | some (.ow io (.lst xs)) => match r xs ds with
    | .ok (d, ys) => .ok d (ρ.set i (.ow io (.lst ys)))
    | _ => .bad
  | _ => .bad
section
variable {X : Cx} {c : Cn} {W : WX} {pos p : Pos} {e a : Expr} {es : List Expr} {x : Str} {n : Nat} {f : Addr} {fd : FuncData} {ps : List Str} {fs : En → R (List D)}
theorem star_any : ∀ {es : List Expr} {env : Env} {pos : Pos}, es.all noStar = true → (backTo pos (starEach es env)).any (·.1) = false
  | [], _, _, _ => rfl
  | e :: es, env, pos, h => by
    rw [List.all_cons, Bool.and_eq_true] at h
    rw [star_cons h.1]
    show (false || (backTo pos (starEach es env)).any (·.1)) = false
    rw [star_any h.2]; rfl
/-- the state behind a call that leaves all that was tracked -/
theorem SR.called {pin : Addr} {Z : Hp} {ρ : En} {σ : Sg} {H Hf H' Hf' : Hp} (S : SR c pin Z ρ σ H Hf) (s1 : Same H H') (s2 : Same Hf Hf') (s3 : Same Hf' H') (fr : ∀ a o, H a = some o → NT o → Hf a = none → Hf' a = none) : SR c pin Z ρ σ H' Hf' :=
  S.grow (S.z.trans s1) s3 s2 (fun a o e ne => fr a _ (S.z _ _ e) ne (S.dj _ _ e ne)) fun i io xs q vs _ _ e nt g => ⟨s1 _ _ e, fr q _ e nt g⟩
theorem s_call {r : List D → Cr D} (F : FnOk X.prog X.w X.K X.mg X.base (L2.CX X.prog X.w) n f fd ps (spD c ps.length r)) (hr : Room n X.A) (hg : Gl X x) (hm : X.mg x = some (.ref f)) (hk : PySem.W.keepIn X.K (.ref f) = true) (hb : Binds X.K fd ps []) (tk : Takes X W)
    (hdb : (x == ("__debug__" : Str)) = false) (hn : (a :: es).all noStar = true) (hs : PA X (a :: es) (tA c W fs)) :
    PE X (.Call (.Name x p) (a :: es) [] pos) (tE c W fun ρ => (fs ρ).bind fun ds ρ1 => if ds.length = ps.length then (r ds).r ρ1 else .bad) := by
  rw [List.all_cons, Bool.and_eq_true] at hn
  refine pe_of (pe_callS (E := WE W) F hr hg hm hk hb (fun σ => passAt tk σ) hs hdb (star_cons hn.1) (star_any hn.2)) fun σ H Q h => ?_
  refine tG.seq h fun pin Z ds ρ1 vs H1 Hf1 S1 r1 h1 => ?_
  split at h1
  · rename_i hl
    refine ⟨Hf1, ds, by rw [Reps.length r1, hl], S1.f, r1, ?_⟩
    cases hr : r ds with
    | ok d => rw [hr] at h1; exact fun v H' Hf' s1 s2 s3 fr rv => h1 v H' Hf' s2 (S1.called s1 s2 s3 fr) rv
    | err y => rw [hr] at h1; exact fun H' s1 => h1 H' Hf1 (Same.refl _) (S1.called s1 (Same.refl _) (S1.f.trans s1) fun _ _ _ _ z => z)
    | bad => rw [hr] at h1; exact h1.elim
  · exact h1.elim
theorem s_callF {r : List D → Cr (List D)} (F : FnOk X.prog X.w X.K X.mg X.base (L2.CX X.prog X.w) n f fd ps (spF c ps.length r)) (hr : Room n X.A) (hg : Gl X x) (hm : X.mg x = some (.ref f)) (hk : PySem.W.keepIn X.K (.ref f) = true) (hb : Binds X.K fd ps []) (tk : Takes X W)
    (hdb : (x == ("__debug__" : Str)) = false) (hn : (a :: es).all noStar = true) (hs : PA X (a :: es) (tA c W fs)) :
    PE X (.Call (.Name x p) (a :: es) [] pos) (tF c W fun ρ => (fs ρ).bind fun ds ρ1 => if ds.length = ps.length then (r ds).f ρ1 else .bad) := by
  rw [List.all_cons, Bool.and_eq_true] at hn
  refine pe_of (pe_callS (E := WE W) F hr hg hm hk hb (fun σ => passAt tk σ) hs hdb (star_cons hn.1) (star_any hn.2)) fun σ H Q h => ?_
  refine tG.seq h fun pin Z ds ρ1 vs H1 Hf1 S1 r1 h1 => ?_
  split at h1
  · rename_i hl
    refine ⟨Hf1, ds, by rw [Reps.length r1, hl], S1.f, r1, ?_⟩
    cases hr : r ds with
    | ok xs =>
      rw [hr] at h1
      intro p us H' Hf' s1 s2 s3 fr hp np fp rr
      have S2 := S1.called s1 s2 s3 fr
      exact h1 _ H' Hf' s2 S2 ⟨p, us, rfl, hp, fp, S1.z.free np, S1.away_new np, rr⟩
    | err y => rw [hr] at h1; exact fun H' s1 => h1 H' Hf1 (Same.refl _) (S1.called s1 (Same.refl _) (S1.f.trans s1) fun _ _ _ _ z => z)
    | bad => rw [hr] at h1; exact h1.elim
  · exact h1.elim
theorem s_callM {i : Nat} {y : Str} {py : Pos} {r : List D → List D → Cr (D × List D)} (F : FnOk X.prog X.w X.K X.mg X.base (L2.CX X.prog X.w) n f fd ps (spM c ps.length r)) (hr : Room n X.A) (hg : Gl X x) (hm : X.mg x = some (.ref f)) (hk : PySem.W.keepIn X.K (.ref f) = true) (hb : Binds X.K fd ps []) (tk : Takes X W)
    (hdb : (x == ("__debug__" : Str)) = false) (hn : es.all noStar = true) (hy : PE X (.Name y py) (tVar i)) (hs : PA X es (tA c W fs)) :
    PE X (.Call (.Name x p) (.Name y py :: es) [] pos) (tE c W fun ρ => (rdO ρ i).bind fun _ ρ0 => (fs ρ0).bind fun ds ρ1 => if ds.length + 1 = ps.length then callM i r ds ρ1 else .bad) := by
  refine pe_of (pe_callS (E := WE W) F hr hg hm hk hb (fun σ => passAt tk σ) (pa_cons hy hs (star_cons rfl)) hdb (star_cons rfl) (star_any hn)) fun σ H Q ⟨pin, Z, ρ, Hf, S, g⟩ => ?_
  dsimp only at g
  cases h0 : rdO ρ i with
  | err => unfold rdO at h0; split at h0 <;> cases h0
  | bad => rw [h0] at g; exact g.elim
  | ok xs0 ρ0 =>
    rw [h0] at g
    obtain ⟨e0, io, q, vs, e1, e2, e3, _, _⟩ := rdO_at S h0
    subst e0
    refine ⟨_, e2, pin, Z, ρ0, Hf, S, Go.seq g fun ds ρ1 us H1 Hf1 s1 S1 r1 g1 => ?_⟩
    split at g1
    · rename_i hl
      unfold callM at g1
      split at g1
      · rename_i io' xs f1
        obtain ⟨q', us', k1, k2, k3, k4, k5, k6⟩ := S1.sl i _ f1
        obtain ⟨us', rfl, k5⟩ := k5.lst
        rw [e2] at k1
        cases k1
        refine ⟨q, us', us, Hf1, xs, ds, rfl, by rw [List.length_cons, Reps.length r1]; exact hl, S1.f, k2, k3, k5, r1, ?_⟩
        cases hr : r xs ds with
        | ok dy =>
          obtain ⟨d, ys⟩ := dy
          rw [hr] at g1
          exact fun v H' Hf' us'' k hp ru s2 s3 fr rv => g1 v H' Hf' s2 (S1.modify f1 e2 k hp s2 s3 fr ru) rv
        | err => rw [hr] at g1; exact g1.elim
        | bad => rw [hr] at g1; exact g1.elim
      · exact g1.elim
    · exact g1.elim

/-! ### raise -/
theorem t_raise {k : Nat} {m : Str} {j : Nat} {p2 p3 : Pos} (hc : X.calm = true) (tk : Takes X W) (q : PySem.W.excIn X.K (c.C k) He.veBase "ValueError.__new__" = true) (gC : X.mg x = some (.ref (c.C k))) (kC : PySem.W.keepIn X.K (.ref (c.C k)) = true)
    (r : Raises X (.ref (c.C k))) (hg : Gl X x) (hdb : (x == ("__debug__" : Str)) = false) :
    PS X (.Raise (some (.Call (.Name x p) [.Constant (.str m) j p2] [] p3)) none pos) (tS c W fun ρ => .err k ρ) :=
  ps_of (ps_raise hc tk (pmk_own PySem.F.excBase_ValueError q gC kC r hg hdb)) fun E σ H ⟨pin, Z, ρ, Hf, S, g⟩ => g σ H Hf (Same.refl _) S
end

/-! ### a def's body -/
def startR (io : Bool) (nn : Nat) (ds : List D) : En :=
  match io, ds with
  | true, .lst xs :: ds => .ow true (.lst xs) :: (ds.map .va ++ List.replicate (nn - (ds.length + 1)) .un)
  | _, ds => ds.map .va ++ List.replicate (nn - ds.length) .un
def endD : R Fl → Cr D
  | .ok .nx _ => .ok .non
  | .ok (.rt d) _ => .ok d
  | .ok _ _ => .bad
  | .err x _ => .err x
  | .bad => .bad
def endM : R Fl → Cr (D × List D)
  | .ok .nx ρ => match (ρ : List Sl)[0]? with | some (Sl.ow true (.lst ys)) => .ok (.non, ys) | _ => .bad
  | .ok (.rt d) ρ => match (ρ : List Sl)[0]? with | some (Sl.ow true (.lst ys)) => .ok (d, ys) | _ => .bad
  | _ => .bad
def endF : R Fl → Cr (List D)
  | .ok (.rf xs) _ => .ok xs
  | .err x _ => .err x
  | _ => .bad
/-- the caller's heap but for the list that it handed over and what is spoken of -/
def zOf (H Hf : Hp) (p : Option Addr) : Hp := fun a => if some a = p ∨ Hf a ≠ none then none else H a
section
variable {c : Cn}
theorem startR_get {nn : Nat} : ∀ {ds : List D} {i : Nat} {s : Sl}, (ds.map Sl.va ++ List.replicate (nn - ds.length) Sl.un)[i]? = some s → s = .un ∨ ∃ d, s = .va d ∧ ds[i]? = some d := fun {ds i s} h => by
  by_cases hi : i < ds.length
  · rw [List.getElem?_append_left (by simpa using hi), List.getElem?_map] at h
    cases e : ds[i]? with
    | none => rw [e] at h; cases h
    | some d => rw [e] at h; cases h; exact .inr ⟨d, rfl, rfl⟩
  · rw [List.getElem?_append_right (by simpa using hi), List.getElem?_replicate] at h
    split at h
    · cases h; exact .inl rfl
    · cases h
theorem start_get {N : List Str} {vs : List V} {i : Nat} {v : V} (h : vs[i]? = some v) : (L2.start N vs)[i]? = some (some v) := by
  obtain ⟨hi, _⟩ := List.getElem?_eq_some_iff.mp h
  unfold L2.start
  rw [List.getElem?_append_left (by simpa using hi), List.getElem?_map, h]
  rfl
theorem start_SR {N : List Str} {vs : List V} {ds : List D} {H Hf : Hp} {pin : Addr} (hl : vs.length ≤ N.length) (hf : Same Hf H) (r : Reps c Hf vs ds) : SR c pin (zOf H Hf none) (startR false N.length ds) (L2.start N vs) H Hf := by
  have len := r.length
  refine ⟨fun a o e => ?_, hf, fun a o e _ => ?_, ?_, fun i s e => ?_, fun i j io io' xs ys p hij ei ej _ _ => ?_⟩
  · unfold zOf at e; split at e
    · cases e
    · exact e
  · unfold zOf at e; split at e
    · cases e
    · rename_i h; simp only [not_or, Decidable.not_not] at h; exact h.2
  · unfold startR L2.start
    simp only [List.length_append, List.length_map, List.length_replicate]
    omega
  · rcases startR_get (show (ds.map Sl.va ++ List.replicate (N.length - ds.length) Sl.un)[i]? = some s from e) with rfl | ⟨d, rfl, e1⟩
    · trivial
    · obtain ⟨v, e2, rv⟩ := r.get e1
      exact ⟨v, start_get e2, rv⟩
  · rcases startR_get (show (ds.map Sl.va ++ List.replicate (N.length - ds.length) Sl.un)[i]? = some _ from ei) with h | ⟨d, h, _⟩ <;> cases h
theorem start_SRM {N : List Str} {vs us : List V} {xs ds : List D} {H Hf : Hp} {p : Addr} (hl : vs.length + 1 ≤ N.length) (hf : Same Hf H) (r : Reps c Hf vs ds) (hp : H p = some (.lst us)) (fp : Hf p = none) (rx : Reps c Hf us xs) :
    SR c p (zOf H Hf (some p)) (startR true N.length (.lst xs :: ds)) (L2.start N (.ref p :: vs)) H Hf := by
  have len := r.length
  have get : ∀ {i : Nat} {s : Sl}, (startR true N.length (.lst xs :: ds))[i]? = some s → (i = 0 ∧ s = .ow true (.lst xs)) ∨ (s = .un) ∨ ∃ d j, i = j + 1 ∧ s = .va d ∧ ds[j]? = some d := fun {i s} e => by
    cases i with
    | zero => cases e; exact .inl ⟨rfl, rfl⟩
    | succ j =>
      have e : (ds.map Sl.va ++ List.replicate (N.length - (ds.length + 1)) Sl.un)[j]? = some s := e
      by_cases hi : j < ds.length
      · rw [List.getElem?_append_left (by simpa using hi), List.getElem?_map] at e
        cases e1 : ds[j]? with
        | none => rw [e1] at e; cases e
        | some d => rw [e1] at e; cases e; exact .inr (.inr ⟨d, j, rfl, rfl, e1⟩)
      · rw [List.getElem?_append_right (by simpa using hi), List.getElem?_replicate] at e
        split at e
        · cases e; exact .inr (.inl rfl)
        · cases e
  refine ⟨fun a o e => ?_, hf, fun a o e _ => ?_, ?_, fun i s e => ?_, fun i j io io' xs ys p' hij ei ej _ _ => ?_⟩
  · unfold zOf at e; split at e
    · cases e
    · exact e
  · unfold zOf at e; split at e
    · cases e
    · rename_i h; simp only [not_or, Decidable.not_not] at h; exact h.2
  · unfold startR L2.start
    simp only [List.length_append, List.length_map, List.length_replicate, List.length_cons]
    omega
  · rcases get e with ⟨rfl, rfl⟩ | rfl | ⟨d, j, rfl, rfl, e1⟩
    · exact ⟨p, .lst us, rfl, hp, fp, by unfold zOf; rw [if_pos (.inl rfl)], rx, fun _ => rfl⟩
    · trivial
    · obtain ⟨v, e2, rv⟩ := r.get e1
      exact ⟨v, start_get (show (V.ref p :: vs)[j + 1]? = some v from e2), rv⟩
  · rcases get ei with ⟨rfl, _⟩ | h | ⟨d, j', _, h, _⟩
    · rcases get ej with ⟨rfl, _⟩ | h | ⟨d, j', _, h, _⟩
      · exact hij rfl
      · cases h
      · cases h
    · cases h
    · cases h
/-- the def's body runs as the promise says -/
theorem body_D {N : List Str} {vs : List V} {H : Hp} {Q : VK} {E : XK} {r : En → R Fl} {ar : Nat} (hN : ar ≤ N.length) (h : spD c ar (fun ds => endD (r (startR false N.length ds))) vs H Q E) :
    tS c (fun cls d _ H' => E cls d H') r { nx := fun _ H' => Q .non H', rt := Q } (L2.start N vs) H := by
  obtain ⟨Hf, ds, hl, hf, rr, h⟩ := h
  have S := start_SR (N := N) (pin := 0) (by rw [hl]; exact hN) hf rr
  refine ⟨0, _, _, Hf, S, ?_⟩
  have back : ∀ {ρ : En} {σ : Sg} {H' Hf' : Hp}, SR c 0 (zOf H Hf none) ρ σ H' Hf' → Same Hf Hf' → Same H H' ∧ ∀ a o, H a = some o → NT o → Hf a = none → Hf' a = none := fun {ρ σ H' Hf'} S' s => by
    have zz : ∀ a o, H a = some o → Hf a = none → zOf H Hf none a = some o := fun a o e f => by
      unfold zOf
      rw [if_neg (by simp [f])]
      exact e
    refine ⟨fun a o e => ?_, fun a o q nt f => S'.dj _ _ (zz a o q f) nt⟩
    · cases q : Hf a with
      | none => exact S'.z _ _ (zz a o e q)
      | some u =>
        have := hf _ _ q
        rw [e] at this
        cases this
        exact S'.f _ _ (s _ _ q)
  dsimp only at h ⊢
  cases hr : r (startR false N.length ds) with
  | ok fl ρ =>
    rw [hr] at h
    cases fl with
    | nx => exact fun σ H' Hf' s S' => h _ _ _ (back S' s).1 s S'.f (back S' s).2 .non
    | rt d => exact fun v σ H' Hf' s S' rv => h _ _ _ (back S' s).1 s S'.f (back S' s).2 rv
    | bk => exact h.elim
    | ct => exact h.elim
    | rf xs => exact h.elim
  | err x ρ => rw [hr] at h; exact fun σ H' Hf' s S' => h _ (back S' s).1
  | bad => rw [hr] at h; exact h.elim
theorem body_F {N : List Str} {vs : List V} {H : Hp} {Q : VK} {E : XK} {r : En → R Fl} {ar : Nat} (hN : ar ≤ N.length) (h : spF c ar (fun ds => endF (r (startR false N.length ds))) vs H Q E) :
    tS c (fun cls d _ H' => E cls d H') r { nx := fun _ H' => Q .non H', rt := Q } (L2.start N vs) H := by
  obtain ⟨Hf, ds, hl, hf, rr, h⟩ := h
  have S := start_SR (N := N) (pin := 0) (by rw [hl]; exact hN) hf rr
  refine ⟨0, _, _, Hf, S, ?_⟩
  have zz : ∀ a o, H a = some o → Hf a = none → zOf H Hf none a = some o := fun a o e f => by
    unfold zOf
    rw [if_neg (by simp [f])]
    exact e
  have back : ∀ {ρ : En} {σ : Sg} {H' Hf' : Hp}, SR c 0 (zOf H Hf none) ρ σ H' Hf' → Same Hf Hf' → Same H H' ∧ ∀ a o, H a = some o → NT o → Hf a = none → Hf' a = none := fun {ρ σ H' Hf'} S' s => by
    refine ⟨fun a o e => ?_, fun a o q nt f => S'.dj _ _ (zz a o q f) nt⟩
    · cases q : Hf a with
      | none => exact S'.z _ _ (zz a o e q)
      | some u =>
        have := hf _ _ q
        rw [e] at this
        cases this
        exact S'.f _ _ (s _ _ q)
  dsimp only at h ⊢
  cases hr : r (startR false N.length ds) with
  | ok fl ρ =>
    rw [hr] at h
    cases fl with
    | nx => exact h.elim
    | rt d => exact h.elim
    | bk => exact h.elim
    | ct => exact h.elim
    | rf xs =>
      intro p us σ H' Hf' s S' hp fp zp rr
      refine h p us H' Hf' (back S' s).1 s S'.f (back S' s).2 hp ?_ fp rr
      cases q : H p with
      | none => rfl
      | some o =>
        cases q2 : Hf p with
        | none => rw [zz p o q q2] at zp; cases zp
        | some u => rw [s _ _ q2] at fp; cases fp
  | err x ρ => rw [hr] at h; exact fun σ H' Hf' s S' => h _ (back S' s).1
  | bad => rw [hr] at h; exact h.elim
theorem body_M {N : List Str} {vs : List V} {H : Hp} {Q : VK} {E : XK} {r : En → R Fl} {ar : Nat} (hN : ar ≤ N.length) (h : spM c ar (fun xs ds => endM (r (startR true N.length (.lst xs :: ds)))) vs H Q E) :
    tS c (fun cls d _ H' => E cls d H') r { nx := fun _ H' => Q .non H', rt := Q } (L2.start N vs) H := by
  obtain ⟨p, us, vs', Hf, xs, ds, rfl, hl, hf, hp, fp, rx, rr, h⟩ := h
  have S := start_SRM (N := N) (by rw [List.length_cons] at hl; omega) hf rr hp fp rx
  refine ⟨p, _, _, Hf, S, ?_⟩
  have back : ∀ {ρ : En} {σ : Sg} {H' Hf' : Hp}, SR c p (zOf H Hf (some p)) ρ σ H' Hf' → Same Hf Hf' → (∀ a o, a ≠ p → H a = some o → H' a = some o) ∧ ∀ a o, a ≠ p → H a = some o → NT o → Hf a = none → Hf' a = none := fun {ρ σ H' Hf'} S' s => by
    have zz : ∀ a o, a ≠ p → H a = some o → Hf a = none → zOf H Hf (some p) a = some o := fun a o ne e f => by
      unfold zOf
      rw [if_neg (by simp [f, ne])]
      exact e
    refine ⟨fun a o ne e => ?_, fun a o ne q nt f => S'.dj _ _ (zz a o ne q f) nt⟩
    · cases q : Hf a with
      | none => exact S'.z _ _ (zz a o ne e q)
      | some u =>
        have := hf _ _ q
        rw [e] at this
        cases this
        exact S'.f _ _ (s _ _ q)
  have fin : ∀ {ρ : En} {σ : Sg} {H' Hf' : Hp} {d : D} {v : V} {ys : List D}, ρ[0]? = some (.ow true (.lst ys)) → SR c p (zOf H Hf (some p)) ρ σ H' Hf' → Same Hf Hf' → Rep c Hf' v d →
      (∀ v H' Hf' us', (∀ a o, a ≠ p → H a = some o → H' a = some o) → H' p = some (.lst us') → Reps c Hf' us' ys → Same Hf Hf' → Same Hf' H' → (∀ a o, H a = some o → NT o → Hf a = none → Hf' a = none) → Rep c Hf' v d → Q v H') → Q v H' := fun {ρ σ H' Hf' d v ys} e S' s rv k => by
    obtain ⟨q, us', e1, e2, e3, e4, r5, pn⟩ := S'.sl 0 _ e
    obtain ⟨us', rfl, r5⟩ := r5.lst
    cases pn rfl
    refine k v H' Hf' us' (back S' s).1 e2 r5 s S'.f (fun a o ha nt f => ?_) rv
    by_cases ne : a = p
    · subst ne; exact e3
    · exact (back S' s).2 a o ne ha nt f
  dsimp only at h ⊢
  cases hr : r (startR true N.length (.lst xs :: ds)) with
  | ok fl ρ =>
    rw [hr] at h
    cases fl with
    | nx =>
      simp only [endM] at h
      split at h
      · rename_i d ys q
        split at q
        · rename_i ys' e
          cases q
          exact fun σ H' Hf' s S' => fin e S' s .non h
        · cases q
      · exact h.elim
    | rt d =>
      simp only [endM] at h
      split at h
      · rename_i d' ys q
        split at q
        · rename_i ys' e
          cases q
          exact fun v σ H' Hf' s S' rv => fin e S' s rv h
        · cases q
      · exact h.elim
    | bk => exact h.elim
    | ct => exact h.elim
    | rf xs => exact h.elim
  | err x ρ => rw [hr] at h; exact h.elim
  | bad => rw [hr] at h; exact h.elim
end
end Ev

end
section
set_option maxHeartbeats 2000000
namespace Ev
open PySem PySem.Spec PyProof.Rows L2

/-! ### values and new lists, side by side -/
/-- vs: the values; ss: what the names hold behind it -/
def PR (c : Cn) (Z : Hp) (ρ : En) (σ : Sg) (Hf H : Hp) : List V → List Sl → Prop
  | [], [] => True
  | v :: vs, .va d :: ss => Rep c Hf v d ∧ PR c Z ρ σ Hf H vs ss
  | v :: vs, .ow false xs :: ss => (∃ p us, v = .ref p ∧ H p = some us ∧ Hf p = none ∧ Z p = none ∧ Away ρ σ p ∧ ObR c Hf us xs ∧ ∀ (k : Nat) (io : Bool) (ys : Ob), ss[k]? = some (.ow io ys) → vs[k]? ≠ some (.ref p)) ∧ PR c Z ρ σ Hf H vs ss
  | _, _ => False
abbrev relPs (c : Cn) : Rel (List Sl) (List V) := fun Z ρ σ Hf H vs ss => PR c Z ρ σ Hf H vs ss
abbrev tP (c : Cn) (W : WX) (f : En → R (List Sl)) : TA := tG c W (relPs c) f
def setP (i : Nat) (s : Sl) (ρ : En) : Option En :=
  match s with
  | .va d => setV i d ρ
  | .ow false xs => setO i xs ρ
  | _ => none
def setPs : List Nat → List Sl → En → Option En
  | [], [], ρ => some ρ
  | i :: is, s :: ss, ρ => (setP i s ρ).bind (setPs is ss)
  | _, _, _ => none
section
variable {c : Cn} {pin : Addr} {Z : Hp} {ρ ρ' : En} {σ : Sg} {H Hf : Hp}
theorem PR.length : ∀ {vs : List V} {ss : List Sl}, PR c Z ρ σ Hf H vs ss → vs.length = ss.length
  | [], [], _ => rfl
  | v :: vs, .va d :: ss, h => congrArg Nat.succ (PR.length h.2)
  | v :: vs, .ow false xs :: ss, h => congrArg Nat.succ (PR.length h.2)
  | [], _ :: _, h => h.elim
  | _ :: _, [], h => h.elim
  | _ :: _, .un :: _, h => h.elim
  | _ :: _, .ow true _ :: _, h => h.elim
/-- under one guard more: no new list is the guarded one -/
theorem PR.unguard {P : Addr} {o : HO} : ∀ {vs : List V} {ss : List Sl}, PR c (upd Z P o) ρ σ Hf H vs ss → PR c Z ρ σ Hf H vs ss ∧ ∀ (k : Nat) (io : Bool) (ys : Ob), ss[k]? = some (.ow io ys) → vs[k]? ≠ some (.ref P)
  | [], [], _ => ⟨trivial, fun k io ys e => by simp at e⟩
  | v :: vs, .va d :: ss, h => by
    obtain ⟨h1, h2⟩ := PR.unguard h.2
    refine ⟨⟨h.1, h1⟩, fun k io ys e => ?_⟩
    cases k with
    | zero => cases e
    | succ k => exact h2 k io ys (by simpa using e)
  | v :: vs, .ow false xs :: ss, h => by
    obtain ⟨h1, h2⟩ := PR.unguard h.2
    obtain ⟨p, us, e1, e2, e3, e4, e5, e6, e7⟩ := h.1
    have ne : p ≠ P := fun z => by subst z; rw [upd_same] at e4; cases e4
    refine ⟨⟨⟨p, us, e1, e2, e3, by rw [upd_ne ne] at e4; exact e4, e5, e6, e7⟩, h1⟩, fun k io ys e => ?_⟩
    cases k with
    | zero => intro z; rw [e1] at z; simp at z; exact ne z
    | succ k => exact h2 k io ys (by simpa using e)
  | [], _ :: _, h => h.elim
  | _ :: _, [], h => h.elim
  | _ :: _, .un :: _, h => h.elim
  | _ :: _, .ow true _ :: _, h => h.elim
/-- behind a store of another -/
theorem PR.away {ρ2 : En} {σ2 : Sg} : ∀ {vs : List V} {ss : List Sl}, PR c Z ρ σ Hf H vs ss → (∀ p (k : Nat) (io : Bool) (ys : Ob), ss[k]? = some (.ow io ys) → vs[k]? = some (.ref p) → Away ρ σ p → Away ρ2 σ2 p) → PR c Z ρ2 σ2 Hf H vs ss
  | [], [], _, _ => trivial
  | v :: vs, .va d :: ss, h, a => ⟨h.1, PR.away h.2 fun p k io ys e1 e2 => a p (k + 1) io ys (by simpa using e1) (by simpa using e2)⟩
  | v :: vs, .ow false xs :: ss, h, a => by
    obtain ⟨p, us, e1, e2, e3, e4, e5, e6, e7⟩ := h.1
    exact ⟨⟨p, us, e1, e2, e3, e4, a p 0 false xs rfl (by rw [e1]; rfl) e5, e6, e7⟩, PR.away h.2 fun p k io ys e1 e2 => a p (k + 1) io ys (by simpa using e1) (by simpa using e2)⟩
  | [], _ :: _, h, _ => h.elim
  | _ :: _, [], h, _ => h.elim
  | _ :: _, .un :: _, h, _ => h.elim
  | _ :: _, .ow true _ :: _, h, _ => h.elim
/-- the stores, one behind another -/
theorem SR.setPs : ∀ {is : List Nat} {ss : List Sl} {vs : List V} {ρ ρ' : En} {σ : Sg}, SR c pin Z ρ σ H Hf → PR c Z ρ σ Hf H vs ss → setPs is ss ρ = some ρ' →
    SR c pin Z ρ' ((is.zip vs).foldl (fun σ q => σ.set q.1 (some q.2)) σ) H Hf
  | [], [], [], ρ, ρ', σ, S, _, e => by cases e; exact S
  | i :: is, s :: ss, v :: vs, ρ, ρ', σ, S, h, e => by
    simp only [Ev.setPs, Option.bind_eq_some_iff] at e
    obtain ⟨ρ1, e1, e2⟩ := e
    show SR c pin Z ρ' ((is.zip vs).foldl (fun σ q => σ.set q.1 (some q.2)) (σ.set i (some v))) H Hf
    cases s with
    | un => cases e1
    | va d =>
      have e1 : Ev.setV i d ρ = some ρ1 := e1
      have h : Rep c Hf v d ∧ PR c Z ρ σ Hf H vs ss := h
      refine SR.setPs (S.setV e1 h.1) (h.2.away fun p k io ys _ _ aw j io' zs ej => ?_) e2
      obtain ⟨s0, _, rfl⟩ := setV_some e1
      rcases set_get ej with ⟨_, z, _⟩ | ⟨ne, ej⟩
      · cases z
      · rw [List.getElem?_set_ne ne]; exact aw j io' zs ej
    | ow io xs =>
      cases io with
      | true => cases e1
      | false =>
        have e1 : setO i xs ρ = some ρ1 := e1
        obtain ⟨⟨p, us, rfl, q2, q3, q4, q5, q6, q7⟩, h2⟩ : (∃ p us, v = .ref p ∧ H p = some us ∧ Hf p = none ∧ Z p = none ∧ Away ρ σ p ∧ ObR c Hf us xs ∧ ∀ (k : Nat) (io : Bool) (ys : Ob), ss[k]? = some (.ow io ys) → vs[k]? ≠ some (.ref p)) ∧ PR c Z ρ σ Hf H vs ss := h
        refine SR.setPs (S.own e1 q2 q3 q4 q5 q6) (h2.away fun q k io ys f1 f2 aw j io' zs ej => ?_) e2
        have : ∃ s, ρ[i]? = some s ∧ ρ1 = ρ.set i (.ow false xs) := by
          unfold setO at e1
          split at e1
          · cases e1
          · rename_i s _ e; cases e1; exact ⟨_, e, rfl⟩
          · cases e1
        obtain ⟨s0, hs0, rfl⟩ := this
        rcases set_get ej with ⟨rfl, _, _⟩ | ⟨ne, ej⟩
        · rw [List.getElem?_set_self (S.lt hs0)]
          intro z
          cases z
          exact q7 k io ys f1 f2
        · rw [List.getElem?_set_ne ne]; exact aw j io' zs ej
  | [], _ :: _, _, _, _, _, _, _, e => by cases e
  | _ :: _, [], _, _, _, _, _, _, e => by cases e
  | [], [], _ :: _, _, _, _, _, h, _ => h.elim
  | _ :: _, _ :: _, [], _, _, _, _, h, _ => h.elim
end
/-- the same, as a tuple's targets are stored -/
theorem gLP : ∀ {is : List Nat} {vs : List V} {σ : Sg} {H : Hp} {Q : Sg → Hp → Prop}, vs.length = is.length → Q ((is.zip vs).foldl (fun σ q => σ.set q.1 (some q.2)) σ) H → gL is vs σ H Q
  | [], [], _, _, _, _, q => ⟨rfl, q⟩
  | i :: is, v :: vs, σ, H, Q, l, q => ⟨_, _, rfl, gLP (by simpa using l) q⟩
  | [], _ :: _, _, _, _, l, _ => by cases l
  | _ :: _, [], _, _, _, l, _ => by cases l
section
variable {X : Cx} {c : Cn} {W : WX} {a : Expr} {es : List Expr} {fa : En → R D} {ff : En → R (List D)} {fs : En → R (List Sl)}
theorem s_pnil : PA X [] (tP c W fun ρ => .ok [] ρ) := pa_of pa_nil fun σ H Q ⟨pin, Z, ρ, Hf, S, g⟩ => g [] _ _ (Same.refl _) S trivial
theorem PR.imp {Z : Hp} {ρ : En} {σ : Sg} {Hf H : Hp} {vs : List V} {ss : List Sl} (h : PR c Z ρ σ Hf H vs ss) : PR c Z ρ σ Hf H vs ss := h
theorem s_pcE (h : noStar a = true) (ha : PE X a (tE c W fa)) (hs : PA X es (tP c W fs)) : PA X (a :: es) (tP c W fun ρ => (fa ρ).bind fun d ρ1 => (fs ρ1).bind fun ss ρ2 => .ok (.va d :: ss) ρ2) := by
  refine pa_of (pa_cons ha hs (star_cons h)) fun σ H Q g => ?_
  refine tG.seq g fun pin Z d ρ1 v H1 Hf1 S1 r1 g1 => ⟨pin, Z, ρ1, Hf1, S1, ?_⟩
  refine Go.seq g1 fun ss ρ2 vs H2 Hf2 s2 S2 r2 g2 => ?_
  exact g2 (v :: vs) H2 Hf2 (Same.refl _) S2 ⟨Rep.mono s2 r1, r2⟩
theorem s_pcF (h : noStar a = true) (ha : PE X a (tF c W ff)) (hs : PA X es (tP c W fs)) : PA X (a :: es) (tP c W fun ρ => (ff ρ).bind fun xs ρ1 => (fs ρ1).bind fun ss ρ2 => .ok (.ow false xs :: ss) ρ2) := by
  refine pa_of (pa_cons ha hs (star_cons h)) fun σ H Q g => ?_
  refine tG.seq g fun pin Z xs ρ1 v H1 Hf1 S1 r1 g1 => ?_
  obtain ⟨p, us, rfl, q2, q3, q4, q5, q6⟩ := r1
  refine ⟨pin, upd Z p (.lst us), ρ1, Hf1, S1.guard q2 q3 q4 q5, ?_⟩
  cases hf : fs ρ1 with
  | bad => rw [hf] at g1; exact g1.elim
  | err x ρ2 => rw [hf] at g1; exact fun H2 Hf2 s2 S2 => g1 H2 Hf2 s2 (S2.unguard q4 trivial).1
  | ok ss ρ2 =>
    rw [hf] at g1
    intro vs H2 Hf2 s2 S2 r2
    obtain ⟨S3, k1, k2, k3⟩ := S2.unguard q4 trivial
    obtain ⟨r3, r4⟩ := PR.unguard r2
    exact g1 (.ref p :: vs) H2 Hf2 s2 S3 ⟨⟨p, .lst us, rfl, k1, k2, q4, k3, q6.mono s2, r4⟩, r3⟩
theorem tG_imp {α β : Type} {rel : Rel α β} {f : En → R α} {σ : Sg} {H : Hp} {Q Q1 : β → Hp → Prop} (g : tG c W rel f σ H Q) (h : ∀ b H, Q b H → Q1 b H) : tG c W rel f σ H Q1 := by
  obtain ⟨pin, Z, ρ, Hf, S, g⟩ := g
  exact ⟨pin, Z, ρ, Hf, S, Go.imp g h⟩
variable {i j l : Nat} {x y z : Str} {b d : Expr} {px py pz pt pos : Pos} {kt k2 : Nat} {pt2 : Pos}
theorem setPs_len : ∀ (is : List Nat) (ss : List Sl) (ρ ρ' : En), setPs is ss ρ = some ρ' → ss.length = is.length := by
  intro is
  induction is with
  | nil => intro ss ρ ρ' e; cases ss <;> first | rfl | cases e
  | cons i is ih =>
    intro ss ρ ρ' e
    cases ss with
    | nil => cases e
    | cons s ss =>
      simp only [Ev.setPs, Option.bind_eq_some_iff] at e
      obtain ⟨ρ1, _, e2⟩ := e
      rw [List.length_cons, List.length_cons, ih ss ρ1 ρ' e2]
def parR (is : List Nat) (fs : En → R (List Sl)) (ρ : En) : R Fl := (fs ρ).bind fun ss ρ1 => (R.lift (setPs is ss ρ1) ρ1).bind fun ρ2 _ => .ok .nx ρ2
theorem parR_reads {is : List Nat} {E : Ends} {σ : Sg} {H : Hp} (g : tS c W (parR is fs) E σ H) : tP c W fs σ H fun vs H1 => vs.length = is.length ∧ E.nx ((is.zip vs).foldl (fun σ q => σ.set q.1 (some q.2)) σ) H1 := by
  refine tS.seqE (f := fs) g fun pin Z ss ρ1 vs H1 Hf1 S1 r1 g1 => ?_
  cases e : setPs is ss ρ1 with
  | none => rw [e] at g1; exact g1.elim
  | some ρ2 =>
    rw [e] at g1
    have S2 := S1.setPs r1 e
    refine ⟨?_, g1 _ _ _ (Same.refl _) S2⟩
    rw [PR.length r1]
    exact setPs_len _ _ _ _ e
theorem t_par2 (hc : X.calm = true) (hN : X.N.Nodup) (hi : X.N[i]? = some x) (hj : X.N[j]? = some y) (hij : i ≠ j) (hx : X.env.scope.names.lookup x = some .local) (hy : X.env.scope.names.lookup y = some .local) (ha : PA X [a, b] (tP c W fs))
    (hw : swappedStores [.Tuple [.Name x px, .Name y py] kt pt] (.Tuple [a, b] k2 pt2) X.env = pure (some [x, y])) :
    PS X (.Assign [.Tuple [.Name x px, .Name y py] kt pt] (.Tuple [a, b] k2 pt2) pos) (tS c W (parR [i, j] fs)) :=
  ps_of (ps_par hc hN hi hj hij hx hy ha hw) fun E σ H g => by
    refine tG_imp (parR_reads g) fun vs H1 h => ?_
    match vs, h with
    | [v, w], h => exact ⟨v, w, rfl, h.2⟩
theorem t_par3 (hc : X.calm = true) (hN : X.N.Nodup) (hi : X.N[i]? = some x) (hj : X.N[j]? = some y) (hl : X.N[l]? = some z) (hij : i ≠ j) (hil : i ≠ l) (hjl : j ≠ l) (hx : X.env.scope.names.lookup x = some .local) (hy : X.env.scope.names.lookup y = some .local) (hz : X.env.scope.names.lookup z = some .local) (ha : PA X [a, b, d] (tP c W fs))
    (hw : swappedStores [.Tuple [.Name x px, .Name y py, .Name z pz] kt pt] (.Tuple [a, b, d] k2 pt2) X.env = pure (some [x, y, z])) :
    PS X (.Assign [.Tuple [.Name x px, .Name y py, .Name z pz] kt pt] (.Tuple [a, b, d] k2 pt2) pos) (tS c W (parR [i, j, l] fs)) :=
  ps_of (ps_par3 hc hN hi hj hl hij hil hjl hx hy hz ha hw) fun E σ H g => by
    refine tG_imp (parR_reads g) fun vs H1 h => ?_
    match vs, h with
    | [u, v, w], h => exact ⟨u, v, w, rfl, h.2⟩
/-- a pair is made and taken apart -/
theorem t_parG {is : List Nat} {ts vs' : List Expr} (hK : X.K = c.K) (hlt : ts.length ≤ 1000) (hgl : PG X (.Tuple ts kt pt) (tgT c (.tup is))) (ha : PA X vs' (tP c W fs)) (hil : is.length ≤ 1000)
    (hs : swapsWithSole [.Tuple ts kt pt] (.Tuple vs' k2 pt2) pos.line X.env = pure false) (hw : swappedStores [.Tuple ts kt pt] (.Tuple vs' k2 pt2) X.env = pure none) :
    PS X (.Assign [.Tuple ts kt pt] (.Tuple vs' k2 pt2) pos) (tS c W (parR is fs)) := by
  refine ps_of (ps_asg (pe_tup ha) hgl hs hw (asg_cons rfl)) fun E σ H g => ?_
  refine tS.seqE (f := fs) g fun pin Z ss ρ1 vs H1 Hf1 S1 r1 g1 => ?_
  cases e : setPs is ss ρ1 with
  | none => rw [e] at g1; exact g1.elim
  | some ρ2 =>
    rw [e] at g1
    have el := setPs_len _ _ _ _ e
    have vl : vs.length = is.length := (PR.length r1).trans el
    refine ⟨by rw [LN_eq, vl]; have : LN = 16777216 := rfl; omega, fun p hp => ?_⟩
    have S2 := (S1.setPs r1 e).new (o := .tup vs) hp
    exact ⟨p, vs, rfl, .inl (.inl upd_same), vl, gLP vl (g1 _ _ _ (Same.refl _) S2)⟩
end
end Ev

end
section
set_option maxHeartbeats 2000000
namespace Ev
open PySem PySem.Spec PyProof.Rows L2

/-! ### a def picked out of a list of defs -/
def fnIx (ks : List Nat) (d : D) : Option Nat :=
  match ixD (.lst (ks.map D.fn)) d with
  | some (.fn k) => some k
  | _ => none
theorem reps_fn {c : Cn} {H : Hp} : ∀ (ks : List Nat), Reps c H (ks.map fun k => V.ref (c.A k)) (ks.map D.fn)
  | [] => .nil
  | k :: ks => .cons (.fn k) (reps_fn ks)
theorem fnIx_ok {ks : List Nat} {d e : D} (h : ixD (.lst (ks.map D.fn)) d = some e) : ∃ k, e = .fn k ∧ k ∈ ks ∧ fnIx ks d = some k := by
  have h0 := h
  cases d <;> try (cases h; done)
  rename_i i
  have h : (L2.ixN (ks.map D.fn).length i).bind (fun j => (ks.map D.fn)[j]?) = some e := h
  rw [Option.bind_eq_some_iff] at h
  obtain ⟨j, _, h⟩ := h
  rw [List.getElem?_map, Option.map_eq_some_iff] at h
  obtain ⟨k, hk, rfl⟩ := h
  refine ⟨k, rfl, List.mem_of_getElem? hk, ?_⟩
  unfold fnIx
  rw [h0]
section
variable {X : Cx} {c : Cn} {W : WX} {pos p p1 p2 p3 : Pos} {a e : Expr} {es xs : List Expr} {n m : Nat} {fs : En → R (List D)} {fi : En → R D}
/-- the list of the defs -/
theorem s_fns {ks : List Nat} (hs : PA X xs (fun σ H Q => Q (ks.map fun k => V.ref (c.A k)) H)) (hl : ks.length ≤ 1000) : PE X (.List xs pos) (tE c W fun ρ => .ok (.lst (ks.map D.fn)) ρ) := by
  refine pe_of (pe_lst hs) fun σ H Q ⟨pin, Z, ρ, Hf, S, g⟩ => ?_
  refine ⟨by rw [List.length_map, LN_eq]; have : LN = 16777216 := rfl; omega, fun q hq => ?_⟩
  obtain ⟨S', s'⟩ := S.newS hq
  exact g _ _ _ s' S' (Rep.newL s' (reps_fn ks))
/-- what a def is: where it stands, what it promises -/
def FnAt (X : Cx) (c : Cn) (n m k : Nat) (r : List D → Cr D) : Prop := ∃ fd ps, ps.length = m ∧ FnOk X.prog X.w X.K X.mg X.base (L2.CX X.prog X.w) n (c.A k) fd ps (spD c ps.length r) ∧ PySem.W.keepIn X.K (.ref (c.A k)) = true ∧ Binds X.K fd ps []
theorem s_callX {ks : List Nat} {dD : Nat → List D → Cr D} (hK : X.K = c.K) (hA : ∀ k ∈ ks, FnAt X c n m k (dD k)) (hr : Room n X.A) (hu : X.A.units + 65 < cLine) (tk : Takes X W) (hp : plainSl e = true) (hl : ks.length ≤ 1000) (hxs : PA X xs (fun σ H Q => Q (ks.map fun k => V.ref (c.A k)) H)) (hi : PE X e (tE c W fi))
    (hn : (a :: es).all noStar = true) (hs : PA X (a :: es) (tA c W fs)) :
    PE X (.Call (.Subscript (.List xs p1) e p2) (a :: es) [] pos) (tE c W fun ρ => (fi ρ).bind fun d ρ1 => (R.lift (fnIx ks d) ρ1).bind fun k ρ2 => (fs ρ2).bind fun ds ρ3 => if ds.length = m then (dD k ds).r ρ3 else .bad) := by
  have hf := s_ix (pos := p2) hK hu hp (s_fns (W := W) (pos := p1) hxs hl) hi
  rw [List.all_cons, Bool.and_eq_true] at hn
  refine ⟨fun pins s σ H Q I h => ?_⟩
  have h1 : tE c W (fun ρ => (R.ok (D.lst (ks.map D.fn)) ρ).bind fun x ρ1 => (fi ρ1).bind fun k ρ2 => R.lift (ixD x k) ρ2) σ H fun v H1 => ∃ k, k ∈ ks ∧ v = .ref (c.A k) ∧ tA c W fs σ H1 fun vs H2 => spD c m (dD k) vs H2 Q (WE W σ) := by
    obtain ⟨pin, Z, ρ, Hf, S, g⟩ := h
    refine ⟨pin, Z, ρ, Hf, S, ?_⟩
    dsimp only [R.bind] at g ⊢
    cases hfi : fi ρ with
    | bad => rw [hfi] at g; exact g.elim
    | err x ρ1 => rw [hfi] at g; exact g
    | ok d ρ1 =>
      rw [hfi] at g
      dsimp only at g ⊢
      cases hx : ixD (.lst (ks.map D.fn)) d with
      | none =>
        have : fnIx ks d = none := by unfold fnIx; rw [hx]
        rw [this] at g
        exact g.elim
      | some w =>
        obtain ⟨k, rfl, hk, e1⟩ := fnIx_ok hx
        rw [e1] at g
        intro v H1 Hf1 s1 S1 r1
        cases r1
        refine ⟨k, hk, rfl, pin, Z, ρ1, Hf1, S1, ?_⟩
        have g : Go c pin Z W σ Hf (relD c) ((fs ρ1).bind fun ds ρ3 => if ds.length = m then (dD k ds).r ρ3 else .bad) Q := g
        refine Go.seq (Go.mono s1 g) fun ds ρ3 vs H2 Hf2 s2 S2 r2 h2 => ?_
        split at h2
        · rename_i hl
          refine ⟨Hf2, ds, by rw [Reps.length r2, hl], S2.f, r2, ?_⟩
          cases hr : dD k ds with
          | ok d => rw [hr] at h2; exact fun v H' Hf' s1 s2 s3 fr rv => h2 v H' Hf' s2 (S2.called s1 s2 s3 fr) rv
          | err y => rw [hr] at h2; exact fun H' s1 => h2 H' Hf2 (Same.refl _) (S2.called s1 (Same.refl _) (S2.f.trans s1) fun _ _ _ _ z => z)
          | bad => rw [hr] at h2; exact h2.elim
        · exact h2.elim
  refine Call_ (thn (hf.run pins s σ H _ I h1) fun u s1 ⟨v, H1, I1, rv, k, hk, ev, q⟩ => ?_) (by rfl)
  subst ev
  obtain rfl : u = Value.ref (c.A k) := rv
  obtain ⟨fd, ps, rfl, F, hkp, hb⟩ := hA k hk
  refine PySem.W.callWith_K (h₀ := X.base) I.ok.mod.kin hkp (thn (hs.run pos pins s1 σ H1 _ I1 q) fun us s2 ⟨vs, H2, I2, r, q2⟩ => ⟨I2.kIn, ?_⟩) (star_cons hn.1) (star_any hn.2)
  exact run_fnS F hr hb (passAt tk σ) I2 r q2
end
end Ev

end
section
set_option maxHeartbeats 2000000
namespace Ev
open PySem PySem.Spec PyProof.Rows L2

/-! ### try -/
/-- the errors of the program: class 0 is the base of all -/
def subC (x k : Nat) : Bool := x == k || k == 0
/-- the classes' facts -/
structure ExcF (K : PySem.W.Frag) (C : Nat → Addr) (nC : Nat) : Prop where
  m : ∀ x k, x < nC → k < nC → PySem.W.exmOne K (.ref (C x)) (.ref (C k)) = some (subC x k)
  e : ∀ x, x < nC → ExcC K (C x)
  i : ∀ x k, x < nC → k < nC → PySem.W.kitOne K (.ref (C x)) (.ref (C k)) = some (subC x k)
def pick (hs : List (Nat × D)) (x : Nat) : Option D := (hs.find? fun h => subC x h.1).map (·.2)
def triR (nC : Nat) (hs : List (Nat × D)) : R Fl → R Fl
  | .ok f ρ => .ok f ρ
  | .err x ρ => if x < nC then (match pick hs x with | some d => .ok (.rt d) ρ | none => .err x ρ) else .bad
  | .bad => .bad
def trnR (nC i k j : Nat) (s0 s1 : Str) : R Fl → R Fl
  | .ok f ρ => .ok f ρ
  | .err x ρ => if x < nC then (if subC x k = true then (if i < ρ.length then .ok (.rt (.str (if subC x j = true then s1 else s0))) ρ else .bad) else .err x ρ) else .bad
  | .bad => .bad
@[simp] theorem triR_ok (nC : Nat) (hs : List (Nat × D)) (f : Fl) (ρ : En) : triR nC hs (.ok f ρ) = .ok f ρ := (rfl)
@[simp] theorem trnR_ok (nC i k j : Nat) (s0 s1 : Str) (f : Fl) (ρ : En) : trnR nC i k j s0 s1 (.ok f ρ) = .ok f ρ := (rfl)
section
variable {X : Cx} {c : Cn} {W : WX} {pos np pos' p1 p2 p3 p4 p5 p6 p7 p8 : Pos} {body : List Stmt} {fb : En → R Fl} {nC : Nat}
/-- the clauses -/
inductive Hds (X : Cx) (c : Cn) : List ExceptHandler → List (Nat × V × D) → Prop
  | nil : Hds X c [] []
  | cons {x : Str} {k : Nat} {v : V} {d : D} {e : Expr} {np pos' pr : Pos} {hds : List ExceptHandler} {l : List (Nat × V × D)} (hc : Names X x (.ref (c.C k))) (he : ∀ Y : Cx, PE Y e (tC v)) (hr : ∀ H, Rep c H v d) (r : Hds X c hds l) :
      Hds X c (.ExceptHandler (some (.Name x np)) none [.Return (some e) pr] pos' :: hds) ((k, v, d) :: l)
theorem hds_ok {hds : List ExceptHandler} {l : List (Nat × V × D)} (h : Hds X c hds l) : HdsOk X hds (l.map fun q => (.ref (c.C q.1), fun _ _ _ D _ H => D.rt q.2.1 H)) := by
  induction h with
  | nil => exact .nil
  | cons hc he hr r ih =>
    refine HdsOk.cons hc (fun a oe cls d pn hz hv => ?_) ih
    exact pss_of (pss_cons (ps_ret (he _)) pss_nil) fun D σ H h => h
theorem hds_rep {hds : List ExceptHandler} {l : List (Nat × V × D)} (h : Hds X c hds l) : ∀ q ∈ l, ∀ H, Rep c H q.2.1 q.2.2 := by
  induction h with
  | nil => intro q hq; cases hq
  | cons hc he hr r ih =>
    intro q hq H
    rcases List.mem_cons.mp hq with rfl | hq
    · exact hr H
    · exact ih q hq H
theorem many_of {l : List (Nat × V × D)} (hE : ExcF c.K c.C nC) (hk : ∀ q ∈ l, q.1 < nC) (hr : ∀ q ∈ l, ∀ H, Rep c H q.2.1 q.2.2) {E : Ends} {pin : Addr} {Z Hf : Hp} {x : Nat} {ρ : En} {σ : Sg} {H Hf' : Hp} (hx : x < nC)
    (s : Same Hf Hf') (S : SR c pin Z ρ σ H Hf')
    (g : GoS c pin Z W Hf (match pick (l.map fun q => (q.1, q.2.2)) x with | some d => R.ok (.rt d) ρ | none => .err x ρ) E) :
    wMany c.K W E (l.map fun q => (.ref (c.C q.1), fun _ _ _ D _ H => D.rt q.2.1 H)) (.ref (c.C x)) none σ H := by
  induction l with
  | nil => exact g σ H Hf' s S
  | cons q l ih =>
    refine ⟨subC x q.1, hE.m x q.1 hx (hk q List.mem_cons_self), fun hb a _ => ?_, fun hb => ?_⟩
    · have : pick ((q :: l).map fun q => (q.1, q.2.2)) x = some q.2.2 := by simp [pick, hb]
      rw [this] at g
      exact g q.2.1 σ H Hf' s S (hr q List.mem_cons_self Hf')
    · have : pick ((q :: l).map fun q => (q.1, q.2.2)) x = pick (l.map fun q => (q.1, q.2.2)) x := by simp [pick, hb]
      rw [this] at g
      exact ih (fun q hq => hk q (List.mem_cons_of_mem _ hq)) (fun q hq => hr q (List.mem_cons_of_mem _ hq)) g
theorem t_tri {h₀ : ExceptHandler} {hds : List ExceptHandler} {l : List (Nat × V × D)} (hK : X.K = c.K) (hE : ExcF c.K c.C nC) (hs : X.stack = X.env :: X.outer) (hf : X.env.frame = some X.env.locals) (tk : Takes X W)
    (hb : ∀ (W : WX) (pn : List (Addr × Obj)) (xe : Value → Shared → Prop), Takes (X.tr pn xe) W → PassesOwn (model X.prog X.w) X.A X.env xe → PSs (X.tr pn xe) body (tS c W fb))
    (hh : Hds X c (h₀ :: hds) l) (hk : ∀ q ∈ l, q.1 < nC) : PS X (.Try body (h₀ :: hds) [] [] pos) (tS c W fun ρ => triR nC (l.map fun q => (q.1, q.2.2)) (fb ρ)) := by
  refine ps_of (ps_try_many hs hf tk hb (hds_ok hh)) fun E σ H ⟨pin, Z, ρ, Hf, S, g⟩ => ⟨pin, Z, ρ, Hf, S, ?_⟩
  rw [hK]
  dsimp only at g
  cases hr : fb ρ with
  | bad => rw [hr] at g; exact g.elim
  | err x ρ1 =>
    rw [hr] at g
    unfold triR at g
    dsimp only at g
    by_cases hx : x < nC
    · rw [if_pos hx] at g
      exact fun σ' H' Hf' s S' => many_of hE hk (hds_rep hh) hx s S' g
    · rw [if_neg hx] at g; exact g.elim
  | ok f ρ1 =>
    rw [hr] at g
    cases f <;> exact g
/-- except C_k as n: return [s0, s1][int(isinstance(n, C_j))] -/
theorem suite_ok {i : Nat} {n y : Str} {s0 s1 : Str} {j : Nat} {j0 j1 : Nat} {a : Addr} {oe : Obj} {cls : Value} {d : Option Addr} {pn : List (Addr × Obj)} (hK : X.K = c.K) (hE : ExcF c.K c.C nC) (hj : j < nC)
    (hi : X.N[i]? = some n) (hv : Vis X.env.scope n) (hn1 : (n == ("__debug__" : Str)) = false) (hn2 : (n == ("__classdict__" : Str)) = false) (gi : Gl X "int") (mi : X.mg "int" = none) (gs : Gl X "isinstance") (ms : X.mg "isinstance" = none) (gy : Gl X y) (my : X.mg y = some (.ref (c.C j))) (hy : (y == ("__debug__" : Str)) = false)
    (hz : Zc cls d oe) (hvs : ∃ vs, oe.data = .fields vs) :
    PSs (X.suite a ((a, oe) :: pn)) [.Return (some (.Subscript (.List [.Constant (.str s0) j0 p1, .Constant (.str s1) j1 p2] p3) (.Call (.Name "int" p4) [.Call (.Name "isinstance" p5) [.Name n p6, .Name y p7] [] p8] [] np) pos)) pos']
      (fun D σ H => ∃ x, x < nC ∧ cls = .ref (c.C x) ∧ d = none ∧ σ[i]? = some (some (.ref a)) ∧ ∀ p, H p = none → D.rt (.str (if subC x j = true then s1 else s0)) (upd H p (.lst [.str s0, .str s1]))) := by
  refine ⟨fun pins s σ H D I h => ?_⟩
  obtain ⟨x, hx, rfl, rfl, hσ, q⟩ := h
  have E := hE.e x hx
  rw [← hK] at E
  have pnm : PE (X.suite a ((a, oe) :: pn)) (.Name n p6) (tVar i) := pe_var hi hv hn1 hn2
  have py : PE (X.suite a ((a, oe) :: pn)) (.Name y p7) (tC (.ref (c.C j))) := pe_glob gy my rfl hy
  have pis : PE (X.suite a ((a, oe) :: pn)) (.Call (.Name "isinstance" p5) [.Name n p6, .Name y p7] [] p8) (tCB (rIsE X.K (c.C x) a) (tCons (tVar i) (tCons (tC (.ref (c.C j))) tNil))) :=
    pe_callB (call_isE E hz hvs) gs ms boot_isinstance (pa_cons pnm (pa_cons py pa_nil (star_cons rfl)) (star_cons rfl)) (by decide) (by decide) (star_cons rfl) rfl
  have pint := pe_callTy (X := X.suite a ((a, oe) :: pn)) (p := p4) (pos := np) call_int1 gi mi rfl (pa_cons pis pa_nil (star_cons rfl)) (by decide) (by decide) (star_cons rfl) rfl
  have pl : PE (X.suite a ((a, oe) :: pn)) (.List [.Constant (.str s0) j0 p1, .Constant (.str s1) j1 p2] p3) _ := pe_lst (pa_cons (pe_str (x := s0) (j := j0) (pos := p1)) (pa_cons (pe_str (x := s1) (j := j1) (pos := p2)) pa_nil (star_cons rfl)) (star_cons rfl))
  have px := pss_cons (ps_ret (pos := pos') (pe_ix (pos := pos) ix_seq pl pint (plainIx rfl))) pss_nil
  refine px.run pins s σ H D I ?_
  refine ⟨by rw [LN_eq]; have : LN = 16777216 := rfl; simp; omega, fun p hp => ?_⟩
  refine ⟨_, hσ, ?_⟩
  refine ⟨.ref (c.C j), .ref (c.C j), subC x j, rfl, fun u hu => ?_, by rw [show (X.suite a ((a, oe) :: pn)).K = c.K from hK]; exact hE.i x j hx hj, ?_⟩
  · exact hu
  · refine .inr ⟨_, rfl, ?_⟩
    have q := q p hp
    cases hb : subC x j with
    | true => rw [hb] at q; exact .inl ⟨p, _, 1, .str s1, rfl, rfl, SqL.of upd_same, rfl, q⟩
    | false => rw [hb] at q; exact .inl ⟨p, _, 0, .str s0, rfl, rfl, SqL.of upd_same, rfl, q⟩
theorem t_trn {i : Nat} {n x y : Str} {s0 s1 : Str} {j k : Nat} {j0 j1 : Nat} (hK : X.K = c.K) (hE : ExcF c.K c.C nC) (hk : k < nC) (hj : j < nC) (hs : X.stack = X.env :: X.outer) (hf : X.env.frame = some X.env.locals) (hN : X.N.Nodup)
    (hi : X.N[i]? = some n) (hln : X.env.scope.names.lookup n = some .local) (hn1 : (n == ("__debug__" : Str)) = false) (hn2 : (n == ("__classdict__" : Str)) = false) (gi : Gl X "int") (mi : X.mg "int" = none) (gs : Gl X "isinstance") (ms : X.mg "isinstance" = none)
    (gy : Gl X y) (my : X.mg y = some (.ref (c.C j))) (hy : (y == ("__debug__" : Str)) = false) (gx : Gl X x) (mx : X.mg x = some (.ref (c.C k))) (hx : (x == ("__debug__" : Str)) = false) (tk : Takes X W)
    (hb : ∀ (W : WX) (pn : List (Addr × Obj)) (xe : Value → Shared → Prop), Takes (X.tr pn xe) W → PassesOwn (model X.prog X.w) X.A X.env xe → PSs (X.tr pn xe) body (tS c W fb)) {pos1 pos2 np2 : Pos} :
    PS X (.Try body [.ExceptHandler (some (.Name x np2)) (some n) [.Return (some (.Subscript (.List [.Constant (.str s0) j0 p1, .Constant (.str s1) j1 p2] p3) (.Call (.Name "int" p4) [.Call (.Name "isinstance" p5) [.Name n p6, .Name y p7] [] p8] [] np) pos)) pos'] pos1] [] [] pos2)
      (tS c W fun ρ => trnR nC i k j s0 s1 (fb ρ)) := by
  have hv : Vis X.env.scope n := .inl hln
  refine ps_of (ps_try_as (np := np2) (pos := pos2) (pos' := pos1) hs hf hN hi hln ⟨gx, hx, .inl mx⟩ tk hb (fun a oe cls d pn hz hvs => suite_ok (j0 := j0) (j1 := j1) (s0 := s0) (s1 := s1) hK hE hj hi hv hn1 hn2 gi mi gs ms gy my hy hz hvs)) fun E σ H ⟨pin, Z, ρ, Hf, S, g⟩ => ⟨pin, Z, ρ, Hf, S, ?_⟩
  rw [hK]
  dsimp only at g
  cases hr : fb ρ with
  | bad => rw [hr] at g; exact g.elim
  | err x ρ1 =>
    rw [hr] at g
    unfold trnR at g
    dsimp only at g
    by_cases hx : x < nC
    · rw [if_pos hx] at g
      intro σ' H' Hf' s S'
      refine ⟨subC x k, hE.m x k hx hk, fun hb a na => ?_, fun hb => ?_⟩
      · rw [if_pos hb] at g
        by_cases hl : i < ρ1.length
        case neg => rw [if_neg hl] at g; exact g.elim
        rw [if_pos hl] at g
        refine ⟨x, hx, rfl, rfl, List.getElem?_set_self (by rw [← S'.len]; exact hl), fun p hp => ?_⟩
        · exact g _ σ' _ Hf' s (S'.new hp) (.str _)
      · rw [if_neg (by rw [hb]; decide)] at g
        exact g σ' H' Hf' s S'
    · rw [if_neg hx] at g; exact g.elim
  | ok f ρ1 =>
    rw [hr] at g
    cases f <;> exact g
end
/-! ### a list of its own is handed on -/
def movR (i : Nat) (ρ : En) : R (List D) :=
  match ρ[i]? with
  | some (.ow false (.lst xs)) => .ok xs (ρ.set i .un)
  | _ => .bad
theorem SR.drop {c : Cn} {pin : Addr} {Z : Hp} {ρ : En} {σ : Sg} {H Hf : Hp} (S : SR c pin Z ρ σ H Hf) (i : Nat) : SR c pin Z (ρ.set i .un) σ H Hf := by
  refine ⟨S.z, S.f, S.dj, by rw [List.length_set]; exact S.len, fun j s e => ?_, fun j k io io' xs ys q hjk ej ek sj sk => ?_⟩
  · rcases set_get e with ⟨_, e6, _⟩ | ⟨_, e6⟩
    · subst e6; trivial
    · exact S.sl j s e6
  · rcases set_get ej with ⟨_, f, _⟩ | ⟨_, ej⟩
    · cases f
    rcases set_get ek with ⟨_, f, _⟩ | ⟨_, ek⟩
    · cases f
    exact S.ap j k _ _ _ _ q hjk ej ek sj sk
theorem s_mov {X : Cx} {c : Cn} {W : WX} {pos : Pos} {i : Nat} {x : Str} (h : PE X (.Name x pos) (tVar i)) : PE X (.Name x pos) (tF c W fun ρ => movR i ρ) :=
  pe_of h fun σ H Q ⟨pin, Z, ρ, Hf, S, g⟩ => by
    simp only [movR] at g
    split at g
    · rename_i xs hd
      obtain ⟨p, vs, e1, e2, e3, e4, r, pn⟩ := S.sl i _ hd
      obtain ⟨vs, rfl, r⟩ := r.lst
      refine ⟨_, e1, g _ H Hf (Same.refl _) (S.drop i) ⟨p, vs, rfl, e2, e3, e4, fun j io ys ej sj => ?_, r⟩⟩
      rcases set_get ej with ⟨_, f, _⟩ | ⟨hne, ej⟩
      · cases f
      · exact S.ap i j _ _ _ _ p hne hd ej e1 sj
    · exact g.elim
end Ev

end
section
set_option maxHeartbeats 2000000
namespace Ev
open PySem PySem.Spec PyProof.Rows L2

/-! ### a dict of its own is written -/
def rpl {κ : Type} [DecidableEq κ] : List κ → List D → κ → D → List D
  | k :: ks, x :: xs, j, d => (if k = j then d else x) :: rpl ks xs j d
  | _, _, _, _ => []
def putL {κ : Type} [DecidableEq κ] (ks : List κ) (xs : List D) (k : κ) (d : D) : List κ × List D := if k ∈ ks then (ks, rpl ks xs k d) else (ks ++ [k], xs ++ [d])
section
variable {c : Cn} {κ : Type} [DecidableEq κ]
theorem rpl_rep {H : Hp} {k : κ} {v : V} {d : D} (r : Rep c H v d) : ∀ {kvs : List (κ × V)} {xs : List D}, Reps c H (kvs.map (·.2)) xs →
    (kvs.map fun kv => if kv.1 = k then (kv.1, v) else kv).map (·.1) = kvs.map (·.1) ∧ Reps c H ((kvs.map fun kv => if kv.1 = k then (kv.1, v) else kv).map (·.2)) (rpl (kvs.map (·.1)) xs k d)
  | [], _, .nil => ⟨rfl, .nil⟩
  | p :: kvs, x :: xs, .cons h t => by
    obtain ⟨h1, h2⟩ := rpl_rep r t
    by_cases e : p.1 = k
    · refine ⟨?_, ?_⟩
      · simp only [List.map_cons, if_pos e]; rw [h1]
      · simp only [List.map_cons, rpl, if_pos e]; exact .cons r h2
    · refine ⟨?_, ?_⟩
      · simp only [List.map_cons, if_neg e]; rw [h1]
      · simp only [List.map_cons, rpl, if_neg e]; exact .cons h h2
theorem putL_rep {H : Hp} {k : κ} {v : V} {d : D} (r : Rep c H v d) {kvs : List (κ × V)} {xs : List D} (rs : Reps c H (kvs.map (·.2)) xs) :
    (putK kvs k v).map (·.1) = (putL (kvs.map (·.1)) xs k d).1 ∧ Reps c H ((putK kvs k v).map (·.2)) (putL (kvs.map (·.1)) xs k d).2 := by
  have e : (kvs.any fun kv => decide (kv.1 = k)) = true ↔ k ∈ kvs.map (·.1) := by
    rw [List.any_eq_true, List.mem_map]
    exact ⟨fun ⟨p, hp, q⟩ => ⟨p, hp, of_decide_eq_true q⟩, fun ⟨p, hp, q⟩ => ⟨p, hp, decide_eq_true q⟩⟩
  unfold putK putL
  by_cases h : k ∈ kvs.map (·.1)
  · rw [if_pos (e.mpr h), if_pos h]
    exact rpl_rep r rs
  · rw [if_neg (fun z => h (e.mp z)), if_neg h]
    refine ⟨by simp, ?_⟩
    rw [List.map_append]
    exact rs.append (.cons r .nil)
end
/-- the dict of its own is written at a key -/
def modD (i : Nat) (k d : D) (ρ : En) : Option En :=
  match ρ[i]? with
  | some (.ow io (.dK ks xs)) => (keyD k).bind fun j => if ks.length < LN then some (ρ.set i (.ow io (.dK (putL ks xs j d).1 (putL ks xs j d).2))) else none
  | some (.ow io (.dT ks xs)) => (keyT k).bind fun j => if ks.length < LN then some (ρ.set i (.ow io (.dT (putL ks xs j d).1 (putL ks xs j d).2))) else none
  | _ => none
/-- what a name holds of its own -/
def rdB (ρ : En) (i : Nat) : R Ob :=
  match ρ[i]? with
  | some (.ow _ b) => .ok b ρ
  | _ => .bad
theorem rdB_at {c : Cn} {pin : Addr} {Z : Hp} {ρ ρ' : En} {σ : Sg} {H Hf : Hp} {i : Nat} {b : Ob} (S : SR c pin Z ρ σ H Hf) (h : rdB ρ i = .ok b ρ') : ρ' = ρ ∧ ∃ io p ho, ρ[i]? = some (.ow io b) ∧ σ[i]? = some (some (.ref p)) ∧ H p = some ho ∧ Hf p = none ∧ Z p = none ∧ ObR c Hf ho b := by
  unfold rdB at h
  split at h
  · rename_i io ys e
    cases h
    obtain ⟨p, vs, e1, e2, e3, e4, r, pn⟩ := S.sl i _ e
    exact ⟨rfl, io, p, vs, e, e1, e2, e3, e4, r⟩
  · cases h
theorem modD_some {i : Nat} {k d : D} {ρ ρ' : En} (h : modD i k d ρ = some ρ') : ∃ io b b', ρ[i]? = some (.ow io b) ∧ ρ' = ρ.set i (.ow io b') ∧
    ((∃ ks xs j, b = .dK ks xs ∧ keyD k = some j ∧ ks.length < LN ∧ b' = .dK (putL ks xs j d).1 (putL ks xs j d).2) ∨ ∃ ks xs j, b = .dT ks xs ∧ keyT k = some j ∧ ks.length < LN ∧ b' = .dT (putL ks xs j d).1 (putL ks xs j d).2) := by
  unfold modD at h
  split at h
  · rename_i io ks xs e
    simp only [Option.bind_eq_some_iff] at h
    obtain ⟨j, h1, h2⟩ := h
    split at h2
    · rename_i hl; cases h2; exact ⟨io, _, _, e, rfl, .inl ⟨ks, xs, j, rfl, h1, hl, rfl⟩⟩
    · cases h2
  · rename_i io ks xs e
    simp only [Option.bind_eq_some_iff] at h
    obtain ⟨j, h1, h2⟩ := h
    split at h2
    · rename_i hl; cases h2; exact ⟨io, _, _, e, rfl, .inr ⟨ks, xs, j, rfl, h1, hl, rfl⟩⟩
    · cases h2
  · cases h
section
variable {X : Cx} {c : Cn} {W : WX} {pos : Pos} {e b : Expr} {fe fb : En → R D}
/-- a write to the dict of the name i: how the heap goes on -/
theorem put_of {pin : Addr} {Z : Hp} {ρ ρ' : En} {σ : Sg} {H Hf : Hp} {i : Nat} {k d : D} {v y : V} {p : Addr} (S : SR c pin Z ρ σ H Hf) (h : modD i k d ρ = some ρ') (hp : σ[i]? = some (some (.ref p))) (rv : Rep c Hf v d) (ry : Rep c Hf y k) :
    ∃ H', DPut H p y v H' ∧ SR c pin Z ρ' σ H' Hf := by
  obtain ⟨io, b, b', f1, rfl, f2⟩ := modD_some h
  obtain ⟨q, ho, e1, e2, e3, e4, r, pn⟩ := S.sl i _ f1
  rw [hp] at e1
  cases e1
  have fin : ∀ {u : HO}, ObR c Hf u b' → SR c pin Z (ρ.set i (.ow io b')) σ (upd H p u) Hf := fun {u} ru =>
    S.modify f1 hp (fun b o hb e => by rw [upd_ne hb]; exact e) upd_same (Same.refl _) (fun b o e => by rw [upd_ne (fun z => by subst z; rw [e3] at e; cases e)]; exact S.f _ _ e) (fun _ _ _ _ h => h) ru
  rcases f2 with ⟨ks, xs, j, rfl, g1, g2, rfl⟩ | ⟨ks, xs, j, rfl, g1, g2, rfl⟩
  · cases ho <;> try exact r.elim
    rename_i kvs
    obtain ⟨rfl, r⟩ := r
    rw [List.length_map] at g2
    obtain ⟨q1, q2⟩ := putL_rep (k := j) rv r
    rw [key_rep ry g1]
    exact ⟨_, DPut.k e2 (by rw [LN_eq]; exact g2), fin ⟨q1, q2⟩⟩
  · cases ho <;> try exact r.elim
    rename_i kvs
    obtain ⟨rfl, r⟩ := r
    rw [List.length_map] at g2
    obtain ⟨q1, q2⟩ := putL_rep (k := j) rv r
    cases k <;> try (cases g1; done)
    cases ry with
    | tup hb rb => exact ⟨_, DPut.t e2 (by rw [← keys_rep rb g1]; exact S.f _ _ hb) (by rw [LN_eq]; exact g2), fin ⟨q1, q2⟩⟩
theorem t_put {i : Nat} {x : Str} {p p2 : Pos} (hu : X.A.units + 65 < cLine) (hx : PE X (.Name x p) (tVar i)) (he : PE X e (tE c W fe)) (hb : PE X b (tE c W fb)) (hs : swapsWith e (some (.Subscript (.Name x p) b p2)) pos.line X.env = pure false) :
    PS X (.Assign [.Subscript (.Name x p) b p2] e pos) (tS c W fun ρ => (fe ρ).bind fun d ρ1 => (rdB ρ1 i).bind fun _ ρ0 => (fb ρ0).bind fun k ρ2 => (R.lift (modD i k d ρ2) ρ2).bind fun ρ3 _ => .ok .nx ρ3) := by
  refine ps_of (ps_dput (by omega) hx hb he hs) fun E σ H h => ?_
  refine tS.seqE h fun pin Z d ρ1 v H1 Hf1 S1 r1 g => ?_
  cases h0 : rdB ρ1 i with
  | err => unfold rdB at h0; split at h0 <;> cases h0
  | bad => rw [h0] at g; exact g.elim
  | ok b0 ρ0 =>
    rw [h0] at g
    obtain ⟨e0, io, q, ho, e1, e2, e3, e4, e5, r⟩ := rdB_at S1 h0
    subst e0
    refine ⟨_, e2, pin, Z, ρ0, Hf1, S1, GoS.seqE g fun k ρ2 y H2 Hf2 s2 S2 r2 g2 => ?_⟩
    cases hm : modD i k d ρ2 with
    | none => rw [hm] at g2; exact g2.elim
    | some ρ3 =>
      rw [hm] at g2
      obtain ⟨H', dp, S3⟩ := put_of S2 hm e2 (r1.mono s2) r2
      exact ⟨q, H', rfl, dp, g2 _ _ _ (Same.refl _) S3⟩
/-! ### new dicts -/
/-- a new thing at p that nobody holds -/
def relO (c : Cn) : Rel Ob V := fun Z ρ σ Hf H v b => ∃ p ho, v = .ref p ∧ H p = some ho ∧ Hf p = none ∧ Z p = none ∧ Away ρ σ p ∧ ObR c Hf ho b
abbrev tO (c : Cn) (W : WX) (f : En → R Ob) : TE := tG c W (relO c) f
theorem SR.newO {pin : Addr} {Z : Hp} {ρ : En} {σ : Sg} {H Hf : Hp} (S : SR c pin Z ρ σ H Hf) {p : Addr} {o : HO} {b : Ob} (n : H p = none) (r : ObR c Hf o b) : SR c pin Z ρ σ (upd H p o) Hf ∧ relO c Z ρ σ Hf (upd H p o) (.ref p) b :=
  ⟨S.new n, p, o, rfl, upd_same, S.f.free n, S.z.free n, S.away_new n, r⟩
def newD (isT : Bool) : Ob := if isT = true then .dT [] [] else .dK [] []
theorem s_newD {isT : Bool} : PE X (.Dict [] [] pos) (tO c W fun ρ => .ok (newD isT) ρ) := by
  cases isT with
  | false =>
    refine pe_of pe_dnewK fun σ H Q ⟨pin, Z, ρ, Hf, S, g⟩ p hp => ?_
    obtain ⟨S', r⟩ := S.newO (c := c) (o := .dK []) (b := .dK [] []) hp ⟨rfl, .nil⟩
    exact g _ _ _ (Same.refl _) S' r
  | true =>
    refine pe_of pe_dnewT fun σ H Q ⟨pin, Z, ρ, Hf, S, g⟩ p hp => ?_
    obtain ⟨S', r⟩ := S.newO (c := c) (o := .dT []) (b := .dT [] []) hp ⟨rfl, .nil⟩
    exact g _ _ _ (Same.refl _) S' r
/-- x = a new dict -/
theorem t_ownD {i : Nat} {x : Str} {p : Pos} {f : En → R Ob} (hN : X.N.Nodup) (hi : X.N[i]? = some x) (hx : Loc X.env.scope x) (hf : X.fn x = true ∨ X.env.scope.names.lookup x = some .local) (hs : swapsWith e (some (.Name x p)) pos.line X.env = pure false) (he : PE X e (tO c W f)) :
    PS X (.Assign [.Name x p] e pos) (tS c W fun ρ => (f ρ).bind fun ds ρ1 => (R.lift (setO i ds ρ1) ρ1).bind fun ρ2 _ => .ok .nx ρ2) := by
  refine ps_of (ps_set hN hi hx he hs hf) fun E σ H h => ?_
  refine tS.seqE h fun pin Z ds ρ1 v H1 Hf1 S1 r1 g => ?_
  obtain ⟨q, vs, rfl, h1, h2, h3, aw, r⟩ := r1
  cases e : setO i ds ρ1 with
  | none => rw [e] at g; exact g.elim
  | some ρ2 => rw [e] at g; exact g _ _ _ (Same.refl _) (S1.own e h1 h2 h3 aw r)
/-- .. as a value: it is locked -/
theorem SR.lockO {pin : Addr} {Z : Hp} {ρ : En} {σ : Sg} {H Hf : Hp} (S : SR c pin Z ρ σ H Hf) {p : Addr} {u : HO} {b : Ob} {od : Obj} (hp : H p = some u) (hf : Hf p = none) (hz : Z p = none) (aw : Away ρ σ p) (r : ObR c Hf u b) (nb : ∀ xs, b ≠ .lst xs) :
    SR c pin Z ρ σ (upd H p (.frz od u)) (upd Hf p (.frz od u)) ∧ Same Hf (upd Hf p (.frz od u)) ∧ Rep c (upd Hf p (.frz od u)) (.ref p) b.d := by
  have ss : Same Hf (upd Hf p (.frz od u)) := Same.new hf
  have rp := ((r.mono ss).repD (od := od) (p := p) nb upd_same).1
  obtain ⟨S1, _⟩ := (S.write (o := .frz od u) hf hz aw).speak upd_same hf hz aw
  exact ⟨S1, ss, rp⟩
theorem s_frD {f : En → R Ob} (hnb : ∀ ρ b ρ', f ρ = .ok b ρ' → ∀ xs, b ≠ .lst xs) (h : PE X e (tO c W f)) : PE X e (tE c W fun ρ => (f ρ).bind fun b ρ1 => .ok b.d ρ1) := by
  refine pe_of (pe_frz h) fun σ H Q ⟨pin, Z, ρ, Hf, S, g⟩ => ⟨pin, Z, ρ, Hf, S, ?_⟩
  dsimp only at g
  cases hf : f ρ with
  | ok b ρ1 =>
    rw [hf] at g
    rintro v H1 Hf1 s1 S1 ⟨p, u, rfl, h1, h2, h3, aw, r⟩
    have mu : Mut (some u) := by
      have nb := hnb _ _ _ hf
      cases b <;> cases u <;> first | exact r.elim | exact absurd rfl (nb _) | trivial
    refine .inr ⟨p, u, rfl, h1, mu, fun od => ?_⟩
    obtain ⟨S2, ss, rp⟩ := S1.lockO (od := od) h1 h2 h3 aw r (hnb _ _ _ hf)
    exact g _ _ _ (s1.trans ss) S2 rp
  | err x ρ1 => rw [hf] at g; exact g
  | bad => rw [hf] at g; exact g
end
end Ev

end
section
set_option maxHeartbeats 2000000
namespace Ev
open PySem PySem.Spec PyProof.Rows L2

/-! ### a dict comprehension, its keys plain or tuples -/
section
variable {X : Cx}
/-- d[y] = v, as a comprehension does it -/
theorem d_put {pins : List (Addr × Obj)} {σ : L2.St} {H H' : Hp} {s : Shared} {E : Value → Shared → Prop} {a : Addr} {y v : V} {u r : Value} {Q : Unit → Shared → Prop} (hu : X.A.units + 1 < cLine) (I : Inv X pins σ H s) (g : DPut H a y v H')
    (ry : RelV y u) (rv : RelV v r) (h : ∀ s', Inv X pins σ H' s' → Q () s') : wpAny (model X.prog X.w) X.A (dictSet a u r) Q E s := by
  rcases g with ⟨kvs, k, e, ey, l, eH⟩ | ⟨kvs, k, b, e, ey, eb, l, eH⟩
  · subst ey eH
    exact d_dictSet I e l ry rv h
  · subst ey eH
    cases (show u = Value.ref b from ry)
    obtain ⟨z, hd, xs, rel, dd⟩ := dt_of I.hok e
    have hz : xs.length ≤ sizeLine := by rw [← Paired.length rel]; exact z
    have hl : (putK kvs k v).length ≤ sizeLine := by have := length_putK kvs k v; omega
    refine wpAny_dictSet_heap (hsz := hz) (show X.A.units < cLine by omega) (key_of I.hok eb) dd fun h' dd' hs => h _ ?_
    obtain ⟨q, es, ep, hq, h2, h3, h4, _, h5⟩ := dd'
    refine d_write I (by rw [e]; exact True.intro) hs ⟨q, hq⟩ ⟨hl, hd, _, (rel.put k eb rv).keeps fun c ys ec => ?_, q, es, ep, hq, h2, h3, h4, h5⟩
    rw [upd_ne (ne_of ec e (fun z => nomatch z))]
    exact ec
/-- the empty dict of either kind -/
def eD (isT : Bool) : HO := if isT = true then .dT [] else .dK []
def tDp (isT : Bool) (wi : TI) (g : TG) (tt : TT) (tk tv : TE) (vs : List Nat) : TE := fun σ H Q => wi σ H fun J H1 => ∀ D, H1 D = none → ∃ W : Nat → Nat → Hp → Prop, (∃ m, W 0 m (upd H1 D (eD isT))) ∧ ∀ i m H, W i m H →
  (J.stop i H ∧ Q (.ref D) H) ∨ (J.go i H ∧ ∃ Nx : Hp → Prop, (∀ H', Nx H' → ∃ m', m' < m ∧ W (i + 1) m' H') ∧ ∀ x H', J.yld i H x H' → g x (wipe σ vs) H' fun σ2 H2 => wipe σ2 vs = wipe σ vs ∧ tt σ2 H2 fun b H3 =>
    if b = true then tk σ2 H3 fun y H4 => tv σ2 H4 fun z H5 => ∃ H6, DPut H5 D y z H6 ∧ Nx H6 else Nx H3)
theorem dp_core {pins : List (Addr × Obj)} {s : Shared} {σ : L2.St} {H : Hp} {Q : VK} {isT : Bool} {kx vx tg iter : Expr} {ifs : List Expr} {scope : Scope} {own : List (Str × Nat)} {pos pos' : Pos} {wi : TI} {g : TG} {tt : TT} {tk tv : TE} {use : Option (Value → Sem Unit)} {Qf : Value → Shared → Prop}
    (hc : X.calm = true) (hu : X.A.units + 1 < cLine) (hN : X.N.Nodup) (I : Inv X pins σ H s) (hi : PI X tg iter wi) (ok : BlkOk X.N X.env.scope scope own)
    (hg : ∀ (s : Shared) (H : Hp) (C : Addr) (cl : List (Str × Addr)) (fp : List Addr), PG (X.blk s H scope (compEnvC scope cl C X.env) fp) tg g) (ht : ∀ (s : Shared) (H : Hp) (C : Addr) (cl : List (Str × Addr)) (fp : List Addr), PTs (X.blk s H scope (compEnvC scope cl C X.env) fp) ifs tt)
    (hk : ∀ (s : Shared) (H : Hp) (C : Addr) (cl : List (Str × Addr)) (fp : List Addr), PE (X.blk s H scope (compEnvC scope cl C X.env) fp) kx tk)
    (he : ∀ (s : Shared) (H : Hp) (C : Addr) (cl : List (Str × Addr)) (fp : List Addr), PE (X.blk s H scope (compEnvC scope cl C X.env) fp) vx tv) (hs : ∀ x, foldedSetIterable iter X.env x = pure x)
    (h : tDp isT wi g tt tk tv (own.map (·.2)) σ H Q)
    (hRR : ∀ D C s' m H', Inv X pins σ H' s' → Q (.ref D) H' → s'.heap.Ns C m → FpOk X pins H' C → compPost (model X.prog X.w) X.A X.xe use Qf (.ref D) C (.ok .next) s') :
    wpAny (model X.prog X.w) X.A (comprehension (.DictComp kx vx [⟨tg, iter, ifs, 0⟩] scope pos) scope X.env pos' newDict false (eval iter X.env) use) Qf X.xe s := by
  have hfree : ∀ y ∈ scope.names, y.2 = .free → ∃ c, X.env.cells.lookup y.1 = some c := fun y hy e => by
    rcases ok.free y hy e with k | k
    · exact I.ok.has _ (.inl k)
    · exact I.ok.has _ (.inr k)
  refine wpAny_comprehension_free (use := use) rfl hs (closure_ok hfree) ok.kind (fun y hy e => by rw [ok.uniq y hy, e])
    (thn (hi.run pins s σ H _ I h) fun xv s1 hx => thn hx fun itv s2 h2 => ?_)
  obtain ⟨it, fp, tn, J, H2, e, I2, T, st2, f2, q⟩ := h2
  subst e
  refine wpAny_newObj_type (newEnv_comp ?_)
  generalize hD : s2.heap.objs.size = D
  have hDn : H2 D = none := I2.hok.fresh (Nat.le_of_eq hD)
  obtain ⟨W, ⟨m0, w0⟩, turn⟩ := q D hDn
  generalize hs3 : ({ s2 with heap := s2.heap.push { cls := .type "dict", data := .dict #[] } } : Shared) = s3
  have I3 : Inv X pins σ (upd H2 D (eD isT)) s3 := by
    rw [← hs3]
    refine I2.laid (t' := s2.toks) (fun b o e => Heap.get?_push_of_some _ e) (Nat.le_of_eq hD) ?_
    rw [← hD]
    cases isT with
    | false => exact dk_empty s2.heap I2.big
    | true => exact dt_empty s2.heap I2.big
  have h3 : s3.heap = s2.heap.push { cls := .type "dict", data := .dict #[] } := by rw [← hs3]
  have f3 : ∀ b ∈ fp, FpOk X pins (upd H2 D (eD isT)) b ∧ b < s3.heap.objs.size := fun b hb => by
    obtain ⟨o, e, _⟩ := T.obj _ _ st2 b hb
    have hlt := Heap.lt_size e
    refine ⟨⟨?_, (f2 b hb).2⟩, by rw [h3, Heap.size_push]; exact Nat.lt_succ_of_lt hlt⟩
    rw [upd_ne (by rw [← hD]; exact Nat.ne_of_lt hlt)]
    exact (f2 b hb).1
  have st3 : tn 0 s3.heap := T.keep _ _ _ st2 fun b _ o e => by rw [h3]; exact Heap.get?_push_of_some _ e
  have I4 := block_start I3 ok hN f3
  have pg := hg s3 (upd H2 D (eD isT)) s3.heap.objs.size (cellsFrom (s3.heap.objs.size + 1) scope.names (cloFrom X.env.cells scope.names [])) fp
  have pt := ht s3 (upd H2 D (eD isT)) s3.heap.objs.size (cellsFrom (s3.heap.objs.size + 1) scope.names (cloFrom X.env.cells scope.names [])) fp
  have pk := hk s3 (upd H2 D (eD isT)) s3.heap.objs.size (cellsFrom (s3.heap.objs.size + 1) scope.names (cloFrom X.env.cells scope.names [])) fp
  have pe := he s3 (upd H2 D (eD isT)) s3.heap.objs.size (cellsFrom (s3.heap.objs.size + 1) scope.names (cloFrom X.env.cells scope.names [])) fp
  have nfp : ∀ b ∈ fp, (upd H2 D (eD isT)) b = none := fun b hb => (f3 b hb).1.1
  show codeAny _ _ (.compStart (.DictComp kx vx [⟨tg, iter, ifs, 0⟩] scope pos) 0 (.ref it) (.ref D) (compEnvC scope (cellsFrom (s3.heap.objs.size + 1) scope.names (cloFrom X.env.cells scope.names [])) s3.heap.objs.size X.env)) (compPost (model X.prog X.w) X.A X.xe use Qf (.ref D) s3.heap.objs.size) { s3 with heap := pushCells (s3.heap.push { cls := .type "dict", data := .dict #[] }) scope.names }
  generalize hce : compEnvC scope (cellsFrom (s3.heap.objs.size + 1) scope.names (cloFrom X.env.cells scope.names [])) s3.heap.objs.size X.env = ce at I4 pg pt pk pe ⊢
  have cL : ce.locals = s3.heap.objs.size := by subst hce; rfl
  generalize hH3 : upd H2 D (eD isT) = H3 at I3 I4 pg pt pk pe w0 nfp f3
  generalize hs4 : ({ s3 with heap := pushCells (s3.heap.push { cls := .type "dict", data := .dict #[] }) scope.names } : Shared) = s4 at I4 ⊢
  have st4 : tn 0 s4.heap := T.keep _ _ _ st3 fun b _ o e => by rw [← hs4]; exact pushCells_keeps _ _ _ _ (Heap.get?_push_of_some _ e)
  have stat : ∀ {σ' : L2.St} {H' : Hp} {s' : Shared}, Inv (X.blk s3 H3 scope ce fp) [] σ' H' s' → (∀ b ∈ fp, H' b = none) → ∀ b ∈ fp, FpOk (X.blk s3 H3 scope ce fp) [] H' b := fun {σ' H' s'} I' hn b hb =>
    ⟨hn b hb, (I'.ok.exf b hb).1, I'.ok.exfs b hb, .inl hb, fun x c e => (I'.ok.exf b hb).2 x c e, fun p hp => absurd (show p ∈ ([] : List (Addr × Obj)) ++ [] from hp) (by simp)⟩
  refine codeAny_compStart_dict ?loop (T.self X.A 0 _ _ _ st4 ?loop)
  refine compLoop_anyD (fun n s' => ∃ i H', Inv (X.blk s3 H3 scope ce fp) [] (wipe σ (own.map (·.2))) H' s' ∧ tn i s'.heap ∧ (∀ b ∈ fp, H' b = none) ∧ W i n H') ?_ m0 ⟨0, H3, I4, st4, nfp, w0⟩
  rintro n s5 ⟨i, H5, I5, st5, n5, w5⟩
  rcases turn i n H5 w5 with ⟨stop, qq⟩ | ⟨go, Nx, hNx, step⟩
  · refine thnF (T.done (X.blk s3 H3 scope ce fp) rfl rfl rfl hc i [] s5 _ H5 (fun _ _ => False) I5 (stat I5 n5) st5 stop) fun r s6 ⟨hr, I6⟩ => ?_
    subst hr
    have I7 : Inv X pins σ H5 s6 := I3.call' (ch := fp) I6.os I6.base I6.hok I6.bare fun b hb => ⟨(f3 b hb).1.2.2.2.1, (f3 b hb).1.2.1, (f3 b hb).1.2.2.2.2.1, (f3 b hb).1.2.2.2.2.2⟩
    have nC : H5 s3.heap.objs.size = none := by
      have z : H5 ce.locals = none := I6.free
      rw [cL] at z
      exact z
    obtain ⟨m, hn, _⟩ := I6.loc
    have hn : s6.heap.Ns ce.locals m := hn
    rw [cL] at hn
    exact hRR D s3.heap.objs.size s6 m H5 I7 qq hn (I3.fpOk (Nat.le_refl _) nC)
  · refine thnF (T.item (X.blk s3 H3 scope ce fp) rfl rfl rfl hc i [] s5 _ H5 (fun _ _ => False) I5 (stat I5 n5) st5 go) fun r s6 ⟨u, hr, h6⟩ => ?_
    subst hr
    refine thnF h6 fun _ s7 ⟨x, H7, I7, r7, y7, st7, n7⟩ => ?_
    have I7' := I7.pinned (stat I7 n7) (T.obj _ _ st7)
    refine thnF (pg.run _ s7 _ H7 x u _ I7' r7 (step x H7 y7)) fun _ s8 ⟨σ8, H8, I8, hw8, q8⟩ => ?_
    refine thnF (pt.run _ s8 σ8 H8 _ I8 q8) fun b s9 ⟨H9, I9, q9⟩ => ?_
    have fin : ∀ {s' : Shared} {H' : Hp}, Inv (X.blk s3 H3 scope ce fp) ([] ++ pinsAt fp s7.heap) σ8 H' s' → Nx H' → ∃ m, m < n ∧ ∃ i H', Inv (X.blk s3 H3 scope ce fp) [] (wipe σ (own.map (·.2))) H' s' ∧ tn i s'.heap ∧ (∀ b ∈ fp, H' b = none) ∧ W i m H' := fun {s' H'} I' nx => by
      obtain ⟨m', hm, w'⟩ := hNx H' nx
      have pin' : ∀ b ∈ fp, ∀ o, s7.heap.get? b = some o → s'.heap.get? b = some o ∧ H' b = none := fun b hb o e =>
        let z := I'.pin (b, o) (List.mem_append_right _ (List.mem_append_right _ (mem_pinsAt hb e)))
        ⟨z.1, z.2.1⟩
      have hl : (wipe σ (own.map (·.2))).length = σ8.length := by rw [← hw8, wipe_length]
      refine ⟨m', hm, i + 1, H', (I'.unpinned (pins := [])).weak hl (fun j v e => ?_), T.keep _ _ _ st7 fun b hb o e => (pin' b hb o e).1, fun b hb => ?_, w'⟩
      · rw [← hw8] at e
        exact (wipe_some e).1
      · obtain ⟨o, e, _⟩ := T.obj _ _ st7 b hb
        exact (pin' b hb o e).2
    cases b with
    | false =>
      simp only [Bool.false_eq_true, if_false] at q9 ⊢
      exact fin I9 q9
    | true =>
      simp only [if_true] at q9 ⊢
      refine thnF (pk.run _ s9 σ8 H9 _ I9 q9) fun z s10 ⟨yk, H10, I10, r10, q10⟩ => ?_
      refine thnF (pe.run _ s10 σ8 H10 _ I10 q10) fun z2 s11 ⟨yv, H11, I11, r11, H12, dp, nx⟩ => ?_
      exact d_put (X := X.blk s3 H3 scope ce fp) hu I11 dp r10 r11 fun s12 I12 => fin I12 nx

variable {isT : Bool} {kx vx tg iter : Expr} {ifs : List Expr} {scope : Scope} {own : List (Str × Nat)} {pos spos : Pos} {wi : TI} {g : TG} {tt : TT} {tk tv : TE}
theorem pe_dp (hc : X.calm = true) (hu : X.A.units + 1 < cLine) (hN : X.N.Nodup) (hi : PI X tg iter wi) (ok : BlkOk X.N X.env.scope scope own)
    (hg : ∀ (s : Shared) (H : Hp) (C : Addr) (cl : List (Str × Addr)) (fp : List Addr), PG (X.blk s H scope (compEnvC scope cl C X.env) fp) tg g) (ht : ∀ (s : Shared) (H : Hp) (C : Addr) (cl : List (Str × Addr)) (fp : List Addr), PTs (X.blk s H scope (compEnvC scope cl C X.env) fp) ifs tt)
    (hk : ∀ (s : Shared) (H : Hp) (C : Addr) (cl : List (Str × Addr)) (fp : List Addr), PE (X.blk s H scope (compEnvC scope cl C X.env) fp) kx tk)
    (he : ∀ (s : Shared) (H : Hp) (C : Addr) (cl : List (Str × Addr)) (fp : List Addr), PE (X.blk s H scope (compEnvC scope cl C X.env) fp) vx tv) (hs : ∀ x, foldedSetIterable iter X.env x = pure x) :
    PE X (.DictComp kx vx [⟨tg, iter, ifs, 0⟩] scope pos) (tDp isT wi g tt tk tv (own.map (·.2))) := by
  refine ⟨fun pins s σ H Q I h => ?_⟩
  rw [arm_eval_DictComp]
  refine dp_core hc hu hN I hi ok hg ht hk he hs h fun D C s' m H' I' q hn f => ⟨m, hn, fun h'' sb => ?_⟩
  obtain ⟨f0, f1, f2, f3, f4, f5⟩ := f
  exact ⟨.ref D, H', I'.turned (t' := s'.toks) (fun b o hb e => (sb.2 b hb).trans e) f0 f1 f3 f4 f5, rfl, q⟩
/-- name = {..}, stored ahead of the end of the comprehension's frame -/
theorem ps_setDp {i : Nat} {y : Str} {py : Pos} (hc : X.calm = true) (hu : X.A.units + 1 < cLine) (hN : X.N.Nodup) (hy : X.N[i]? = some y) (hyl : X.env.scope.names.lookup y = some .local)
    (hsw : swapsWith (.DictComp kx vx [⟨tg, iter, ifs, 0⟩] scope pos) (some (.Name y py)) spos.line X.env = pure true) (hi : PI X tg iter wi) (ok : BlkOk X.N X.env.scope scope own)
    (hg : ∀ (s : Shared) (H : Hp) (C : Addr) (cl : List (Str × Addr)) (fp : List Addr), PG (X.blk s H scope (compEnvC scope cl C X.env) fp) tg g) (ht : ∀ (s : Shared) (H : Hp) (C : Addr) (cl : List (Str × Addr)) (fp : List Addr), PTs (X.blk s H scope (compEnvC scope cl C X.env) fp) ifs tt)
    (hk : ∀ (s : Shared) (H : Hp) (C : Addr) (cl : List (Str × Addr)) (fp : List Addr), PE (X.blk s H scope (compEnvC scope cl C X.env) fp) kx tk)
    (he : ∀ (s : Shared) (H : Hp) (C : Addr) (cl : List (Str × Addr)) (fp : List Addr), PE (X.blk s H scope (compEnvC scope cl C X.env) fp) vx tv) (hs : ∀ x, foldedSetIterable iter X.env x = pure x) :
    PS X (.Assign [.Name y py] (.DictComp kx vx [⟨tg, iter, ifs, 0⟩] scope pos) spos) (tAsg (tDp isT wi g tt tk tv (own.map (·.2))) (gName i)) := by
  refine ⟨fun pins s σ H D I h => ?_⟩
  rw [exec_Assign_Name_used _ _ _ _ hsw]
  refine wpAny_bind (wpAny_standAt (wpAny_bind ?_))
  show wpAny _ X.A (do let _ ← comprehension (.DictComp kx vx [⟨tg, iter, ifs, 0⟩] scope pos) scope X.env (firstIterPos [⟨tg, iter, ifs, 0⟩] pos) newDict false (eval iter X.env) (some (assign (.Name y py) X.env))) _ _ s
  have h : tDp isT wi g tt tk tv (own.map (·.2)) σ H (fun x H1 => gName i x σ H1 D.nx) := h
  refine wpAny_bind (thn (dp_core (Qf := fun _ s' => SP X pins D .next s') hc hu hN I hi ok hg ht hk he hs h fun L C s' m H' I' q hn f => ?_) fun _ s' hq => wpAny_pure (wpAny_pure hq))
  show wpAny _ _ (assign (.Name y py) X.env (.ref L)) _ _ _
  refine wpAny_assign_Name (store_ok2 (v := V.ref L) I' hN hy (.inl hyl) rfl (fun s2 I2 ⟨a, sb, ha⟩ => ?_) (.inr hyl))
  obtain ⟨f0, f1, f2, f3, f4, f5⟩ := f
  have haC : C ≠ a := by
    rcases ha with z | z
    · rw [z]; exact f1
    · exact fun e => f4 y a z e.symm
  refine ⟨m, hn.sameBut sb haC, fun h3 sb3 => ?_⟩
  exact ⟨_, H', I2.turned (t' := s2.toks) (fun b o hb e => (sb3.2 b hb).trans e) f0 f1 f3 f4 f5, q⟩
end

/-! ### what it reckons -/
def putB : Ob → D → D → Option Ob
  | .dK ks xs, k, d => (keyD k).bind fun j => if ks.length < LN then some (.dK (putL ks xs j d).1 (putL ks xs j d).2) else none
  | .dT ks xs, k, d => (keyT k).bind fun j => if ks.length < LN then some (.dT (putL ks xs j d).1 (putL ks xs j d).2) else none
  | _, _, _ => none
def compD (g : D → En → Option En) (ft : En → R Bool) (fk fv : En → R D) (vs : List Nat) : List D → Ob → En → R Ob
  | [], b, ρ => .ok b ρ
  | d :: ds, b, ρ =>
    match g d ρ with
    | none => .bad
    | some ρ1 => (ft ρ1).ne.bind fun k ρ2 =>
      if k = true then (fk ρ2).ne.bind fun y ρ3 => (fv ρ3).ne.bind fun z ρ4 => (R.lift (putB b y z) ρ4).bind fun b' _ => compD g ft fk fv vs ds b' (wipeR ρ4 vs)
      else compD g ft fk fv vs ds b (wipeR ρ2 vs)
def compDR (isT : Bool) (T : Tg) (fi : En → R (List D)) (ft : En → R Bool) (fk fv : En → R D) (vs : List Nat) (ρ : En) : R Ob :=
  (fi ρ).bind fun items ρ1 => (compD (asgT T) ft fk fv vs items (newD isT) (wipeR ρ1 vs)).bind fun b ρ2 => .ok b (backR ρ1 ρ2 vs)
theorem wipe_set_none (u : Nat) : ∀ (ws : List Nat) (τ : Sg), (wipe (τ.set u none) ws).set u none = (wipe τ ws).set u none
  | [], τ => by show (τ.set u none).set u none = _; rw [List.set_set]; rfl
  | w :: ws, τ => by
    show ((wipe (τ.set u none) ws).set w none).set u none = ((wipe τ ws).set w none).set u none
    by_cases e : w = u
    · subst e; rw [wipe_set_none]
    · rw [List.set_comm _ _ e, wipe_set_none, List.set_comm _ _ (Ne.symm e)]
theorem wipe_idem : ∀ (us : List Nat) (τ : Sg), wipe (wipe τ us) us = wipe τ us
  | [], _ => rfl
  | u :: us, τ => by
    show (wipe ((wipe τ us).set u none) us).set u none = (wipe τ us).set u none
    rw [wipe_set_none, wipe_idem]
theorem putB_at {c : Cn} {H Hf : Hp} {b b' : Ob} {k d : D} {y v : V} {o : HO} {P : Addr} (h : putB b k d = some b') (hp : H P = some o) (s : Same Hf H) (r : ObR c Hf o b) (ry : Rep c Hf y k) (rv : Rep c Hf v d) :
    ∃ o', DPut H P y v (upd H P o') ∧ ObR c Hf o' b' := by
  cases b with
  | lst xs => cases h
  | dK ks xs =>
    simp only [putB, Option.bind_eq_some_iff] at h
    obtain ⟨j, g1, g2⟩ := h
    split at g2
    · rename_i hl
      cases g2
      cases o <;> try exact r.elim
      obtain ⟨rfl, r⟩ := r
      rw [List.length_map] at hl
      obtain ⟨q1, q2⟩ := putL_rep (k := j) rv r
      rw [key_rep ry g1]
      exact ⟨_, DPut.k hp (by rw [LN_eq]; exact hl), q1, q2⟩
    · cases g2
  | dT ks xs =>
    simp only [putB, Option.bind_eq_some_iff] at h
    obtain ⟨j, g1, g2⟩ := h
    split at g2
    · rename_i hl
      cases g2
      cases o <;> try exact r.elim
      obtain ⟨rfl, r⟩ := r
      rw [List.length_map] at hl
      obtain ⟨q1, q2⟩ := putL_rep (k := j) rv r
      cases k <;> try (cases g1; done)
      cases ry with
      | tup hb rb => exact ⟨_, DPut.t hp (by rw [← keys_rep rb g1]; exact s _ _ hb) (by rw [LN_eq]; exact hl), q1, q2⟩
    · cases g2
theorem eD_rep {c : Cn} {Hf : Hp} (isT : Bool) : ObR c Hf (eD isT) (newD isT) := by
  cases isT <;> exact ⟨rfl, .nil⟩
section
variable {X : Cx} {c : Cn} {W : WX} {tg iter : Expr} {fi : En → R (List D)} {fk fv : En → R D} {ft : En → R Bool} {T : Tg} {vs : List Nat} {isT : Bool}
theorem dc_reads {σ : Sg} {H : Hp} {Q : VK} (hT : ∀ i ∈ T.slots, i ∈ vs) (h : tO c W (compDR isT T fi ft fk fv vs) σ H Q) : tDp isT (tI c W fi) (tgT c T) (tT c W0 ft) (tE c W0 fk) (tE c W0 fv) vs σ H Q := by
  obtain ⟨pin, Z, ρ, Hf, S, gg⟩ := h
  unfold compDR at gg
  refine ⟨pin, Z, ρ, Hf, S, ?_⟩
  cases hfi : fi ρ with
  | err x ρ1 => rw [hfi] at gg; exact gg
  | bad => rw [hfi] at gg; exact gg
  | ok items ρ1 =>
  rw [hfi] at gg
  intro J H1 Hf1 s1 S1 y P nP
  simp only [R.bind_ok] at gg
  have gg := Go.mono s1 gg
  let Inv' : Nat → Hp → Prop := fun i H' => i ≤ items.length ∧ ∃ ρ' Hf' o b, Same Hf1 Hf' ∧ SR c pin (upd Z P o) ρ' (wipe σ vs) H' Hf' ∧ ObR c Hf' o b ∧
    Go c pin Z W σ Hf' (relO c) ((compD (asgT T) ft fk fv vs (items.drop i) b ρ').bind fun b' ρ2 => .ok b' (backR ρ1 ρ2 vs)) Q
  have zP : Z P = none := S1.z.free nP
  have fP : Hf1 P = none := S1.f.free nP
  have start : Inv' 0 (upd H1 P (eD isT)) := by
    refine ⟨Nat.zero_le _, wipeR ρ1 vs, Hf1, eD isT, newD isT, Same.refl _, ?_, eD_rep isT, by simpa using gg⟩
    have Sw := (S1.new (o := eD isT) nP).wipe vs
    refine Sw.guard upd_same fP zP fun i io xs e q => ?_
    obtain ⟨p, us, e1, e2, e3, e4, r, pn⟩ := (S1.wipe vs).sl i _ e
    rw [q] at e1
    cases e1
    rw [nP] at e2
    cases e2
  refine ⟨fun i m H' => m = items.length - i ∧ Inv' i H', ⟨items.length, by simp, start⟩, ?_⟩
  rintro i m H' ⟨rfl, hi, ρ', Hf', o, b, s', S', ra, g'⟩
  by_cases hlt : i < items.length
  · refine .inr ⟨y.go i _ _ _ _ _ _ s' S' hlt, fun H'' => Inv' (i + 1) H'', fun H'' n => ⟨_, Nat.lt_of_lt_of_le (Nat.sub_lt_sub_left hlt (Nat.lt_succ_self i)) (Nat.le_refl _), rfl, n⟩, fun x H2 yy => ?_⟩
    obtain ⟨d, hd⟩ := lt_get hlt
    obtain ⟨Hf2, s2, S2, r2⟩ := y.yld i _ _ _ _ _ _ _ _ _ s' S' hd yy
    rw [drop_get hd] at g'
    simp only [compD] at g'
    cases ha : asgT T d ρ' with
    | none => rw [ha] at g'; exact g'.elim
    | some ρ2 =>
      rw [ha] at g'
      refine tgo T hT _ _ _ _ _ _ _ _ _ _ S2 r2 ha fun σ3 S3 hw3 => ⟨hw3.trans (wipe_idem vs σ), ?_⟩
      have hw4 : wipe σ3 vs = wipe σ vs := hw3.trans (wipe_idem vs σ)
      refine ⟨pin, upd Z P o, ρ2, Hf2, S3, ?_⟩
      have g2 := Go.mono s2 g'
      have s12 := s'.trans s2
      dsimp only at g2
      cases hr : ft ρ2 with
      | err x ρ3 => rw [hr] at g2; exact g2.elim
      | bad => rw [hr] at g2; exact g2.elim
      | ok k ρ3 =>
        rw [hr] at g2
        simp only [R.ne_ok, R.bind_ok] at g2
        intro k' H4 Hf4 s4 S4 e4
        cases e4
        have g4 := Go.mono s4 g2
        have s14 := s12.trans s4
        cases k with
        | false =>
          refine iteF ⟨hlt, wipeR ρ3 vs, Hf4, o, b, s14, S4.wipe' hw4, (ra.mono s2).mono s4, ?_⟩
          simpa using g4
        | true =>
          refine iteT ⟨pin, upd Z P o, ρ3, Hf4, S4, ?_⟩
          simp only [if_true] at g4
          cases hx : fk ρ3 with
          | err x ρ3 => rw [hx] at g4; exact g4.elim
          | bad => rw [hx] at g4; exact g4.elim
          | ok kd ρ5 =>
            rw [hx] at g4
            simp only [R.ne_ok, R.bind_ok] at g4
            intro ky H5 Hf5 s5 S5 r5
            have g5 := Go.mono s5 g4
            refine ⟨pin, upd Z P o, ρ5, Hf5, S5, ?_⟩
            cases hz : fv ρ5 with
            | err x ρ3 => rw [hz] at g5; exact g5.elim
            | bad => rw [hz] at g5; exact g5.elim
            | ok zd ρ6 =>
              rw [hz] at g5
              simp only [R.ne_ok, R.bind_ok] at g5
              intro vz H6 Hf6 s6 S6 r6
              have g6 := Go.mono s6 g5
              have s46 := s5.trans s6
              have nt := ra.nt
              obtain ⟨S7, hP, hfP, aw⟩ := S6.unguard zP nt
              have ra6 : ObR c Hf6 o b := (((ra.mono s2).mono s4).mono s5).mono s6
              cases hb : putB b kd zd with
              | none => rw [hb] at g6; exact g6.elim
              | some b' =>
                rw [hb] at g6
                simp only [R.lift, R.bind_ok] at g6
                obtain ⟨o', dp, ra'⟩ := putB_at hb hP S7.f ra6 (r5.mono s6) r6
                refine ⟨_, dp, hlt, wipeR ρ6 vs, Hf6, o', b', s14.trans s46, ?_, ra', g6⟩
                have S8 := S7.write (o := o') hfP zP aw
                exact (S8.guard upd_same hfP zP aw).wipe' hw4
  · have ei : i = items.length := by omega
    subst ei
    rw [List.drop_length] at g'
    simp only [compD, R.bind_ok] at g'
    refine .inl ⟨y.stop _ _ _ _ _ _ s' S', ?_⟩
    obtain ⟨S6, hP, hfP, aw⟩ := S'.unguard zP ra.nt
    have S7 : SR c pin Z (backR ρ1 ρ' vs) σ H' Hf' := S6.back S1 s'
    refine g' _ _ _ (Same.refl _) S7 ⟨P, o, rfl, hP, hfP, zP, fun i io xs e q => ?_, ra⟩
    rcases backR_get e with e | ⟨d, e, _⟩ | ⟨e1, e2⟩
    · cases e
    · cases e
    · exact aw i io xs e1 (by rw [wipe_get e2]; exact q)
variable {kx vx : Expr} {ifs : List Expr} {scope : Scope} {own : List (Str × Nat)} {pos : Pos}
theorem s_dcomp (hc : X.calm = true) (hu : X.A.units + 65 < cLine) (hN : X.N.Nodup) (hi : PI X tg iter (tI c W fi)) (ok : BlkOk X.N X.env.scope scope own) (hT : ∀ i ∈ T.slots, i ∈ own.map (·.2))
    (hg : ∀ (s : Shared) (H : Hp) (C : Addr) (cl : List (Str × Addr)) (fp : List Addr), PG (X.blk s H scope (compEnvC scope cl C X.env) fp) tg (tgT c T)) (ht : ∀ (s : Shared) (H : Hp) (C : Addr) (cl : List (Str × Addr)) (fp : List Addr), PTs (X.blk s H scope (compEnvC scope cl C X.env) fp) ifs (tT c W0 ft))
    (hk : ∀ (s : Shared) (H : Hp) (C : Addr) (cl : List (Str × Addr)) (fp : List Addr), PE (X.blk s H scope (compEnvC scope cl C X.env) fp) kx (tE c W0 fk))
    (he : ∀ (s : Shared) (H : Hp) (C : Addr) (cl : List (Str × Addr)) (fp : List Addr), PE (X.blk s H scope (compEnvC scope cl C X.env) fp) vx (tE c W0 fv)) (hs : ∀ x, foldedSetIterable iter X.env x = pure x) :
    PE X (.DictComp kx vx [⟨tg, iter, ifs, 0⟩] scope pos) (tO c W (compDR isT T fi ft fk fv (own.map (·.2)))) :=
  pe_of (pe_dp hc (by omega) hN hi ok hg ht hk he hs) fun σ H Q h => dc_reads hT h
/-- y = {..}, y's own -/
theorem t_ownDc {i : Nat} {y : Str} {py spos : Pos} (hc : X.calm = true) (hu : X.A.units + 65 < cLine) (hN : X.N.Nodup) (hy : X.N[i]? = some y) (hyl : X.env.scope.names.lookup y = some .local)
    (hsw : swapsWith (.DictComp kx vx [⟨tg, iter, ifs, 0⟩] scope pos) (some (.Name y py)) spos.line X.env = pure true) (hi : PI X tg iter (tI c W fi)) (ok : BlkOk X.N X.env.scope scope own) (hT : ∀ i ∈ T.slots, i ∈ own.map (·.2))
    (hg : ∀ (s : Shared) (H : Hp) (C : Addr) (cl : List (Str × Addr)) (fp : List Addr), PG (X.blk s H scope (compEnvC scope cl C X.env) fp) tg (tgT c T)) (ht : ∀ (s : Shared) (H : Hp) (C : Addr) (cl : List (Str × Addr)) (fp : List Addr), PTs (X.blk s H scope (compEnvC scope cl C X.env) fp) ifs (tT c W0 ft))
    (hk : ∀ (s : Shared) (H : Hp) (C : Addr) (cl : List (Str × Addr)) (fp : List Addr), PE (X.blk s H scope (compEnvC scope cl C X.env) fp) kx (tE c W0 fk))
    (he : ∀ (s : Shared) (H : Hp) (C : Addr) (cl : List (Str × Addr)) (fp : List Addr), PE (X.blk s H scope (compEnvC scope cl C X.env) fp) vx (tE c W0 fv)) (hs : ∀ x, foldedSetIterable iter X.env x = pure x) :
    PS X (.Assign [.Name y py] (.DictComp kx vx [⟨tg, iter, ifs, 0⟩] scope pos) spos) (tS c W fun ρ => (compDR isT T fi ft fk fv (own.map (·.2)) ρ).bind fun b ρ1 => (R.lift (setO i b ρ1) ρ1).bind fun ρ2 _ => .ok .nx ρ2) := by
  refine ps_of (ps_setDp (isT := isT) hc (by omega) hN hy hyl hsw hi ok hg ht hk he hs) fun E σ H h => ?_
  refine dc_reads hT (c := c) (W := W) (Q := fun x H1 => gName i x σ H1 E.nx) ?_
  refine tS.seqE (f := compDR isT T fi ft fk fv (own.map (·.2))) h fun pin Z ds ρ1 v H1 Hf1 S1 r1 g => ?_
  obtain ⟨q, vs, rfl, h1, h2, h3, aw, r⟩ := r1
  cases e : setO i ds ρ1 with
  | none => rw [e] at g; exact g.elim
  | some ρ2 => rw [e] at g; exact g _ _ _ (Same.refl _) (S1.own e h1 h2 h3 aw r)
end
end Ev
namespace Ev
open PySem PySem.Spec PyProof.Rows L2
/-! ### starred items of a list -/
section
variable {X : Cx} {c : Cn} {W : WX} {e : Expr} {es : List Expr} {fe : En → R D} {fs : En → R (List D)} {p pos : Pos}
theorem s_starP (hK : X.K = c.K) (he : PE X e (tE c W fe)) (hs : PA X es (tA c W fs)) :
    PA X (.Starred e p :: es) (tA c W fun ρ => (fe ρ).bind fun y ρ1 => (R.lift (seqD y) ρ1).bind fun ys ρ2 => (fs ρ2).bind fun xs ρ3 => .ok (ys ++ xs) ρ3) := by
  refine pa_of (StX.pa_star he hs rfl) fun σ H Q h => ?_
  refine tG.seq h fun pin Z d ρ1 x H1 Hf1 S1 r1 h1 => ?_
  cases hq : seqD d with
  | none => rw [hq] at h1; exact h1.elim
  | some ys =>
    rw [hq] at h1
    simp only [R.lift, R.bind_ok] at h1
    have : ∃ q vs, x = .ref q ∧ (SqT X.K H1 q vs ∨ SqL X.K H1 q vs) ∧ Reps c Hf1 vs ys := by
      cases r1 <;> cases hq
      · rename_i a vs hp r; exact ⟨_, _, rfl, .inl (SqT.of (S1.f _ _ hp)), r⟩
      · rename_i a vs hp r; exact ⟨_, _, rfl, .inr (SqL.of (S1.f _ _ hp)), r⟩
      · rename_i a ns hp
        refine ⟨_, _, rfl, .inr (by rw [hK]; exact S1.f.seq hp), ?_⟩
        clear hp h1
        induction ns with
        | nil => exact .nil
        | cons n ns ih => exact .cons (.int n) ih
    obtain ⟨q, vs, rfl, hq2, r⟩ := this
    refine ⟨q, vs, rfl, hq2, pin, Z, ρ1, Hf1, S1, Go.seq h1 fun ds ρ2 xs H2 Hf2 s2 S2 r2 h2 => ?_⟩
    exact h2 _ _ _ (Same.refl _) S2 ((r.mono s2).append r2)
/-- .. as a list, looked at how long it is -/
theorem s_lstS (hs : PA X es (tA c W fs)) : PE X (.List es pos) (tF c W fun ρ => (fs ρ).bind few) := by
  refine s_lst (fun ρ ds ρ' h => ?_) (pa_of hs fun σ H Q h => ?_)
  · cases hf : fs ρ with
    | ok xs ρ1 =>
      rw [hf] at h
      simp only [R.bind_ok, few] at h
      split at h
      · cases h; assumption
      · cases h
    | err x ρ1 => rw [hf] at h; cases h
    | bad => rw [hf] at h; cases h
  · refine tG.seq h fun pin Z ds ρ1 vs H1 Hf1 S1 r1 h1 => ?_
    unfold few at h1
    split at h1
    · exact h1 _ _ _ (Same.refl _) S1 r1
    · exact h1.elim
/-- a new thing of its own among the values of an assignment -/
theorem s_pcO {a : Expr} {ff : En → R Ob} {fs : En → R (List Sl)} (h : noStar a = true) (ha : PE X a (tO c W ff)) (hs : PA X es (tP c W fs)) : PA X (a :: es) (tP c W fun ρ => (ff ρ).bind fun b ρ1 => (fs ρ1).bind fun ss ρ2 => .ok (.ow false b :: ss) ρ2) := by
  refine pa_of (pa_cons ha hs (star_cons h)) fun σ H Q g => ?_
  refine tG.seq g fun pin Z b ρ1 v H1 Hf1 S1 r1 g1 => ?_
  obtain ⟨p, o, rfl, q2, q3, q4, q5, q6⟩ := r1
  refine ⟨pin, upd Z p o, ρ1, Hf1, S1.guard q2 q3 q4 q5, ?_⟩
  cases hf : fs ρ1 with
  | bad => rw [hf] at g1; exact g1.elim
  | err x ρ2 => rw [hf] at g1; exact fun H2 Hf2 s2 S2 => g1 H2 Hf2 s2 (S2.unguard q4 q6.nt).1
  | ok ss ρ2 =>
    rw [hf] at g1
    intro vs H2 Hf2 s2 S2 r2
    obtain ⟨S3, k1, k2, k3⟩ := S2.unguard q4 q6.nt
    obtain ⟨r3, r4⟩ := PR.unguard r2
    exact g1 (.ref p :: vs) H2 Hf2 s2 S3 ⟨⟨p, o, rfl, k1, k2, q4, k3, q6.mono s2, r4⟩, r3⟩
end
end Ev
namespace Ev
open PySem PySem.Spec PyProof.Rows L2
/-! ### a thing of its own looked at, and kept -/
def cmpL (op : CmpOp) (x y : D) : Option Bool := match x with
  | .dK _ _ => none
  | .dT _ _ => none
  | x => cmpD op x y
@[simp] theorem cmpL_lst (op : CmpOp) (xs : List D) (y : D) : cmpL op (.lst xs) y = cmpD op (.lst xs) y := (rfl)
mutual
def noL : D → Bool
  | .non => true
  | .bl _ => true
  | .int _ => true
  | .str _ => true
  | .tup xs => noLs xs
  | _ => false
def noLs : List D → Bool
  | [] => true
  | d :: ds => noL d && noLs ds
end
section
variable {c : Cn} {H H' : Hp} {p : Addr} {us : List V}
mutual
theorem Rep.lose (hp : H p = some (.lst us)) (s : ∀ a, a ≠ p → H' a = H a) : ∀ {v : V} {d : D}, Rep c H v d → noL d = true → Rep c H' v d
  | _, _, .non, _ => .non
  | _, _, .bl b, _ => .bl b
  | _, _, .int i, _ => .int i
  | _, _, .str x, _ => .str x
  | _, _, .tup (a := a) h r, n => .tup (by rw [s a (fun z => by subst z; rw [hp] at h; cases h)]; exact h) (Reps.lose hp s r (by simpa [noL] using n))
  | _, _, .lst _ _, n => by simp [noL] at n
  | _, _, .fn _, n => by simp [noL] at n
  | _, _, .scr _, n => by simp [noL] at n
  | _, _, .dK _ _, n => by simp [noL] at n
  | _, _, .dT _ _, n => by simp [noL] at n
theorem Reps.lose (hp : H p = some (.lst us)) (s : ∀ a, a ≠ p → H' a = H a) : ∀ {vs : List V} {ds : List D}, Reps c H vs ds → noLs ds = true → Reps c H' vs ds
  | _, _, .nil, _ => .nil
  | _, _, .cons r rs, n => by
    simp only [noLs, Bool.and_eq_true] at n
    exact .cons (Rep.lose hp s r n.1) (Reps.lose hp s rs n.2)
end
end
def callMO (i j : Nat) (r : List D → List D → Cr (D × List D)) (ρ : En) : R D :=
  match ρ[i]?, ρ[j]? with
  | some (.ow io (.lst xs)), some (.ow _ (.lst zs)) => if i = j then .bad else match r xs [.lst zs] with
    | .ok (d, ys) => if noL d = true ∧ noLs ys = true then .ok d (ρ.set i (.ow io (.lst ys))) else .bad
    | _ => .bad
  | _, _ => .bad
section
variable {X : Cx} {c : Cn} {W : WX} {pos p : Pos} {b : Expr} {x : Str} {n : Nat} {f : Addr} {fd : FuncData} {ps : List Str} {fb : En → R D}
theorem s_callMO {i j : Nat} {y z : Str} {py pz : Pos} {r : List D → List D → Cr (D × List D)} (F : FnOk X.prog X.w X.K X.mg X.base (L2.CX X.prog X.w) n f fd ps (spM c ps.length r)) (hr : Room n X.A) (hg : Gl X x) (hm : X.mg x = some (.ref f)) (hk : PySem.W.keepIn X.K (.ref f) = true) (hb : Binds X.K fd ps []) (tk : Takes X W)
    (hdb : (x == ("__debug__" : Str)) = false) (h2 : ps.length = 2) (hy : PE X (.Name y py) (tVar i)) (hz : PE X (.Name z pz) (tVar j)) :
    PE X (.Call (.Name x p) [.Name y py, .Name z pz] [] pos) (tE c W fun ρ => callMO i j r ρ) := by
  refine pe_of (pe_callS (E := WE W) F hr hg hm hk hb (fun σ => passAt tk σ) (pa_cons hy (pa_cons hz pa_nil (star_cons rfl)) (star_cons rfl)) hdb (star_cons rfl) (star_any rfl)) fun σ H Q ⟨pin, Z, ρ, Hf, S, g⟩ => ?_
  dsimp only at g
  unfold callMO at g
  split at g
  · rename_i io xs io2 zs f1 f2
    split at g
    · exact g.elim
    · rename_i hij
      obtain ⟨q, o, k1, k2, k3, k4, k5, k6⟩ := S.sl i _ f1
      obtain ⟨us, rfl, k5⟩ := k5.lst
      obtain ⟨q2, o2, l1, l2, l3, l4, l5, l6⟩ := S.sl j _ f2
      obtain ⟨us2, rfl, l5⟩ := l5.lst
      have ne : q ≠ q2 := fun e => by subst e; exact S.ap i j _ _ _ _ q hij f1 f2 k1 l1
      refine ⟨_, k1, _, l1, ?_⟩
      have ss : Same Hf (upd Hf q2 (.lst us2)) := Same.new l3
      have sH : Same (upd Hf q2 (.lst us2)) H := fun a o e => by
        by_cases ha : a = q2
        · subst ha; rw [upd_same] at e; cases e; exact l2
        · rw [upd_ne ha] at e; exact S.f _ _ e
      refine ⟨q, us, [.ref q2], upd Hf q2 (.lst us2), xs, [.lst zs], rfl, h2.symm ▸ rfl, sH, k2, by rw [upd_ne ne]; exact k3, k5.mono ss, .cons (.lst upd_same (l5.mono ss)) .nil, ?_⟩
      cases hr : r xs [.lst zs] with
      | ok dy =>
        obtain ⟨d, ys⟩ := dy
        rw [hr] at g
        dsimp only at g
        split at g
        · rename_i hn
          intro v H' Hf' us'' k hp ru s2 s3 fr rv
          have hq : Hf' q2 = some (.lst us2) := s2 _ _ upd_same
          let Hg : Hp := fun a => if a = q2 then none else Hf' a
          have ag : ∀ a, a ≠ q2 → Hg a = Hf' a := fun a ha => if_neg ha
          have g0 : Hg q2 = none := if_pos rfl
          have sg : Same Hf Hg := fun a o e => by
            have ha : a ≠ q2 := fun z => by subst z; rw [l3] at e; cases e
            rw [ag a ha]
            exact s2 _ _ (by rw [upd_ne ha]; exact e)
          have sg2 : Same Hg H' := fun a o e => by
            by_cases ha : a = q2
            · subst ha; rw [g0] at e; cases e
            · rw [ag a ha] at e; exact s3 _ _ e
          have frg : ∀ a o, H a = some o → NT o → Hf a = none → Hg a = none := fun a o e nt hf => by
            by_cases ha : a = q2
            · subst ha; exact g0
            · rw [ag a ha]; exact fr a o e nt (by rw [upd_ne ha]; exact hf)
          exact g v H' Hg sg (S.modify f1 k1 k hp sg sg2 frg (show ObR c Hg (.lst us'') (.lst ys) from Reps.lose hq ag ru hn.2)) (Rep.lose hq ag rv hn.1)
        · exact g.elim
      | err => rw [hr] at g; exact g.elim
      | bad => rw [hr] at g; exact g.elim
  · exact g.elim
theorem cmpV_reads {i : Nat} {op : CmpOp} {σ : Sg} {H : Hp} {Q : VK} (h : tE c W (fun ρ => (rdL ρ i).bind fun _ ρ0 => (fb ρ0).bind fun y ρ1 => (rdL ρ1 i).bind fun x ρ2 => liftB (cmpL op x y) ρ2) σ H Q) :
    tVar i σ H fun x H1 => tE c W fb σ H1 fun y H2 => rCp c (cmpD op) x y H2 Q := by
  obtain ⟨pin, Z, ρ, Hf, S, g⟩ := h
  dsimp only at g
  cases h0 : rdL ρ i with
  | err => unfold rdL at h0; split at h0 <;> cases h0
  | bad => rw [h0] at g; exact g.elim
  | ok d0 ρ0 =>
    rw [h0] at g
    obtain ⟨e0, v, ev, _⟩ := rdL_at S h0
    subst e0
    refine ⟨v, ev, pin, Z, ρ0, Hf, S, Go.seq g fun k ρ1 y H1 Hf1 s1 S1 r1 h1 => ?_⟩
    cases h2 : rdL ρ1 i with
    | err => unfold rdL at h2; split at h2 <;> cases h2
    | bad => rw [h2] at h1; exact h1.elim
    | ok d ρ2 =>
      rw [h2] at h1
      obtain ⟨e2, v', ev', rl⟩ := rdL_at S1 h2
      subst e2
      rw [ev] at ev'
      cases ev'
      simp only [R.bind_ok] at h1
      cases hg : cmpL op d k with
      | none => rw [hg] at h1; exact h1.elim
      | some z =>
        rw [hg] at h1
        have q : Q (.bl z) H1 := h1 _ _ _ (Same.refl _) S1 (.bl z)
        have hg2 : cmpD op d k = some z := by
          cases d <;> first | exact hg | cases hg
        refine ⟨d, k, z, ?_, r1.mono S1.f, hg2, q⟩
        rcases rl with rl | ⟨p, ho, b, rfl, rfl, hp, r⟩
        · exact rl.mono S1.f
        · cases b with
          | lst xs => obtain ⟨us, rfl, r⟩ := r.lst; exact .lst hp (r.mono S1.f)
          | dK => cases hg
          | dT => cases hg
theorem s_cmpV {i : Nat} {op : CmpOp} (hK : X.K = c.K) (hu : X.A.units + 65 < cLine) (ns : isSet b = false) (hx : PE X (.Name x p) (tVar i)) (hb : PE X b (tE c W fb)) :
    PE X (.Compare (.Name x p) [op] [b] pos) (tE c W fun ρ => (rdL ρ i).bind fun _ ρ0 => (fb ρ0).bind fun y ρ1 => (rdL ρ1 i).bind fun x ρ2 => liftB (cmpL op x y) ρ2) :=
  pe_of (pe_cmpR (cpr hK hu op) hx hb (noMark ns)) fun _ _ _ h => cmpV_reads h
theorem s_cmpVT {i : Nat} {op : CmpOp} (hK : X.K = c.K) (hu : X.A.units + 65 < cLine) (ns : isSet b = false) (hx : PE X (.Name x p) (tVar i)) (hb : PE X b (tE c W fb)) :
    PT X (.Compare (.Name x p) [op] [b] pos) (tT c W fun ρ => ((rdL ρ i).bind fun _ ρ0 => (fb ρ0).bind fun y ρ1 => (rdL ρ1 i).bind fun x ρ2 => liftB (cmpL op x y) ρ2).bind boolOf) := by
  refine pt_of (pt_cmpR (cpr hK hu op) hx hb (noMark ns)) fun σ H Q h => ?_
  refine cmpV_reads (Q := fun x H' => ∃ k, x = .bl k ∧ Q k H') ?_
  refine tG.seq h fun pin Z d ρ1 x H1 Hf1 S1 r1 h1 => ?_
  cases d <;> try exact h1.elim
  cases r1
  exact ⟨_, rfl, h1 _ _ _ (Same.refl _) S1 rfl⟩
end
end Ev

end
section
set_option maxHeartbeats 4000000
namespace Ev
open PySem PySem.Spec PyProof.Rows L2

/-! ### texts -/
inductive Con where
  | non | bl (b : Bool) | int (i : Int) | str (x : Str)
def Con.d : Con → D
  | .non => .non | .bl b => .bl b | .int i => .int i | .str x => .str x
def Con.v : Con → V
  | .non => .non | .bl b => .bl b | .int i => .int i | .str x => .str x
def Con.cst : Con → Const
  | .non => .none | .bl b => .bool b | .int i => .int i | .str x => .str x
mutual
inductive E where
  | con (k : Con) | glo (k : Con) | var (i : Nat)
  | bin (op : Operator) (a b : E) | neg (a : E) | not (a : E)
  | cmp (op : CmpOp) (a b : E) | chn (op op' : CmpOp) (a b e : E)
  | ife (t : B) (a b : E) | and (v : Vs) | or (v : Vs)
  | tup (es : A) | fr (f : F)
  | ix (a b : E) | ixV (i : Nat) (b : E) | sl (a : E) (lo hi : O) | slV (i : Nat) (lo hi : O)
  | b1 (f : B1) (a : L) | b2 (f : B2) (a b : E) | isi (t : Ty) (a : L)
  | call (k n : Nat) (es : A) | callM (k n i : Nat) (es : A) | callX (ks : List Nat) (n : Nat) (ix : E) (es : A)
  | pop (i : Nat) | popAt (i : Nat) (e : E)
  | isin (neg : Bool) (a : E) (l : L) | frD (g : Gm) | cmpV (op : CmpOp) (i : Nat) (b : E) | callMO (k i j : Nat)
inductive L where
  | lk (i : Nat) | vl (e : E)
inductive Vs where
  | one (e : E) | more (e : E) (v : Vs)
inductive B where
  | cmp (op : CmpOp) (a b : E) | chn (op op' : CmpOp) (a b e : E)
  | and (w : Ws) | or (w : Ws) | not (b : B) | tr (a : L) | isin (neg : Bool) (a : E) (l : L) | cmpV (op : CmpOp) (i : Nat) (b : E)
inductive Ws where
  | one (b : B) | more (b : B) (w : Ws)
inductive O where
  | no | so (e : E)
inductive A where
  | nil | cons (e : E) (es : A)
inductive F where
  | lst (es : A) | listOf (a : L) | listRev (a : L) | rg1 (a : E) | rg2 (a b : E) | sorted (a : L)
  | cat (a b : E) | rep (a b : E) | comp (tg : Tg) (it : I) (t : Cd) (e : E) (vs : List Nat) | call (k n : Nat) (es : A) | mov (i : Nat) | lstS (es : As)
inductive As where
  | nil | cons (e : E) (es : As) | star (e : E) (es : As)
inductive Gm where
  | new (t : Bool) | comp (t : Bool) (tg : Tg) (it : I) (cd : Cd) (k v : E) (vs : List Nat)
inductive Cd where
  | no | one (b : B)
inductive I where
  | sq (a : E) | r1 (a : E) | r2 (a b : E) | r3 (a b e : E) | zip (a b : E) | enum (a : E) | rev (a : E)
end
inductive P where
  | nil | cE (e : E) (p : P) | cF (f : F) (p : P) | cD (g : Gm) (p : P)
mutual
inductive S where
  | pass | brk | cnt | ret (e : E) | retF (f : F) | retN | ife (t : B) (a b : Ss)
  | asg (i : Nat) (e : E) | asgF (i : Nat) (f : F) | asgT (tg : Tg) (e : E) | own (i : Nat) (f : F) | aug (op : Operator) (i : Nat) (e : E)
  | app (i : Nat) (e : E) | ext (i : Nat) (e : E) | setI (i : Nat) (b e : E) | putI (i : Nat) (b e : E) | ownD (i : Nat) (g : Gm)
  | for (tg : Tg) (it : I) (b : Ss) | whl (n : Nat) (t : B) (b : Ss) | expr (e : E) | doc | rse (k : Nat) | par (is : List Nat) (p : P)
  | tri (nC : Nat) (b : Ss) (hs : List (Nat × Con)) | trn (nC i k j : Nat) (s0 s1 : Str) (b : Ss)
inductive Ss where
  | nil | cons (s : S) (r : Ss)
end

/-! ### what they reckon -/
/-- the defs, by number -/
structure Gs where
  dD : Nat → List D → Cr D
  dM : Nat → List D → List D → Cr (D × List D)
  dF : Nat → List D → Cr (List D)
mutual
def evE (G : Gs) : E → En → R D
  | .con k => fun ρ => .ok k.d ρ
  | .glo k => fun ρ => .ok k.d ρ
  | .var i => fun ρ => rdV ρ i
  | .bin op a b => fun ρ => (evE G a ρ).bind fun x ρ1 => (evE G b ρ1).bind fun y ρ2 => R.lift (op2 op x y) ρ2
  | .neg a => fun ρ => (evE G a ρ).bind fun x ρ1 => R.lift (neg1 x) ρ1
  | .not a => fun ρ => (evE G a ρ).bind fun d ρ1 => R.lift (notV d) ρ1
  | .cmp op a b => fun ρ => (evE G a ρ).bind fun x ρ1 => (evE G b ρ1).bind fun y ρ2 => liftB (cmpD op x y) ρ2
  | .chn op op' a b e => fun ρ => (evE G a ρ).bind fun x ρ1 => (evE G b ρ1).bind fun y ρ2 => (liftB (cmpD op x y) ρ2).bind fun k ρ3 => match k with | .bl true => (evE G e ρ3).bind fun z ρ4 => liftB (cmpD op' y z) ρ4 | _ => .ok (.bl false) ρ3
  | .ife t a b => fun ρ => (evB G t ρ).bind fun k ρ1 => if k = true then evE G a ρ1 else evE G b ρ1
  | .and v => evAnd G v
  | .or v => evOr G v
  | .tup es => fun ρ => (evA G es ρ).bind fun xs ρ1 => .ok (.tup xs) ρ1
  | .fr f => fun ρ => (evF G f ρ).bind fun ds ρ1 => .ok (.lst ds) ρ1
  | .ix a b => fun ρ => (evE G a ρ).bind fun x ρ1 => (evE G b ρ1).bind fun k ρ2 => R.lift (ixD x k) ρ2
  | .ixV i b => fun ρ => (rdL ρ i).bind fun _ ρ0 => (evE G b ρ0).bind fun k ρ1 => (rdL ρ1 i).bind fun x ρ2 => R.lift (ixD x k) ρ2
  | .sl a lo hi => fun ρ => (evE G a ρ).bind fun x ρ1 => (evO G lo ρ1).bind fun l ρ2 => (evO G hi ρ2).bind fun h ρ3 => R.lift (slD x l h) ρ3
  | .slV i lo hi => fun ρ => (rdL ρ i).bind fun _ ρ0 => (evO G lo ρ0).bind fun l ρ1 => (evO G hi ρ1).bind fun h ρ2 => (rdL ρ2 i).bind fun x ρ3 => R.lift (slD x l h) ρ3
  | .b1 f a => fun ρ => (evL G a ρ).bind fun x ρ1 => R.lift (b1 f x) ρ1
  | .b2 f a b => fun ρ => (evE G a ρ).bind fun x ρ1 => (evE G b ρ1).bind fun y ρ2 => R.lift (b2 f x y) ρ2
  | .isi t a => fun ρ => (evL G a ρ).bind fun x ρ1 => liftB (isiD t x) ρ1
  | .call k n es => fun ρ => (evA G es ρ).bind fun ds ρ1 => if ds.length = n then (G.dD k ds).r ρ1 else .bad
  | .callM k n i es => fun ρ => (rdO ρ i).bind fun _ ρ0 => (evA G es ρ0).bind fun ds ρ1 => if ds.length + 1 = n then Ev.callM i (G.dM k) ds ρ1 else .bad
  | .callX ks n ix es => fun ρ => (evE G ix ρ).bind fun d ρ1 => (R.lift (fnIx ks d) ρ1).bind fun k ρ2 => (evA G es ρ2).bind fun ds ρ3 => if ds.length = n then (G.dD k ds).r ρ3 else .bad
  | .pop i => popR i
  | .popAt i e => fun ρ => (rdO ρ i).bind fun _ ρ0 => (evE G e ρ0).bind fun d ρ1 => Ev.popAt i d ρ1
  | .isin neg a l => fun ρ => (evE G a ρ).bind fun x ρ1 => (evL G l ρ1).bind fun y ρ2 => liftB (isinD neg x y) ρ2
  | .frD g => fun ρ => (evG G g ρ).bind fun b ρ1 => .ok b.d ρ1
  | .cmpV op i b => fun ρ => (rdL ρ i).bind fun _ ρ0 => (evE G b ρ0).bind fun y ρ1 => (rdL ρ1 i).bind fun x ρ2 => liftB (cmpL op x y) ρ2
  | .callMO k i j => fun ρ => Ev.callMO i j (G.dM k) ρ
def evL (G : Gs) : L → En → R D
  | .lk i => fun ρ => rdL ρ i
  | .vl e => evE G e
def evAnd (G : Gs) : Vs → En → R D
  | .one e => evE G e
  | .more e v => fun ρ => (evE G e ρ).bind (andV (evAnd G v))
def evOr (G : Gs) : Vs → En → R D
  | .one e => evE G e
  | .more e v => fun ρ => (evE G e ρ).bind (orV (evOr G v))
def evB (G : Gs) : B → En → R Bool
  | .cmp op a b => fun ρ => ((evE G a ρ).bind fun x ρ1 => (evE G b ρ1).bind fun y ρ2 => liftB (cmpD op x y) ρ2).bind boolOf
  | .chn op op' a b e => fun ρ => ((evE G a ρ).bind fun x ρ1 => (evE G b ρ1).bind fun y ρ2 => (liftB (cmpD op x y) ρ2).bind fun k ρ3 => match k with | .bl true => (evE G e ρ3).bind fun z ρ4 => liftB (cmpD op' y z) ρ4 | _ => .ok (.bl false) ρ3).bind boolOf
  | .and w => evWA G w
  | .or w => evWO G w
  | .not b => fun ρ => (evB G b ρ).bind fun k ρ1 => .ok (!k) ρ1
  | .tr a => fun ρ => (evL G a ρ).bind truB
  | .cmpV op i b => fun ρ => ((rdL ρ i).bind fun _ ρ0 => (evE G b ρ0).bind fun y ρ1 => (rdL ρ1 i).bind fun x ρ2 => liftB (cmpL op x y) ρ2).bind boolOf
  | .isin neg a l => fun ρ => ((evE G a ρ).bind fun x ρ1 => (evL G l ρ1).bind fun y ρ2 => liftB (isinD neg x y) ρ2).bind boolOf
def evWA (G : Gs) : Ws → En → R Bool
  | .one b => evB G b
  | .more b w => fun ρ => (evB G b ρ).bind fun k ρ1 => if k = true then evWA G w ρ1 else .ok false ρ1
def evWO (G : Gs) : Ws → En → R Bool
  | .one b => evB G b
  | .more b w => fun ρ => (evB G b ρ).bind fun k ρ1 => if k = true then .ok true ρ1 else evWO G w ρ1
def evO (G : Gs) : O → En → R (Option Int)
  | .no => fun ρ => .ok none ρ
  | .so e => fun ρ => (evE G e ρ).bind fun d ρ1 => R.lift (partD d) ρ1
def evA (G : Gs) : A → En → R (List D)
  | .nil => fun ρ => .ok [] ρ
  | .cons e es => fun ρ => (evE G e ρ).bind fun x ρ1 => (evA G es ρ1).bind fun xs ρ2 => .ok (x :: xs) ρ2
def evF (G : Gs) : F → En → R (List D)
  | .lst es => evA G es
  | .listOf a => fun ρ => (evL G a ρ).bind fun x ρ1 => R.lift (seqD x) ρ1
  | .listRev a => fun ρ => (evL G a ρ).bind fun x ρ1 => R.lift (revD x) ρ1
  | .rg1 a => fun ρ => (evE G a ρ).bind fun x ρ1 => R.lift (rgL [x]) ρ1
  | .rg2 a b => fun ρ => (evE G a ρ).bind fun x ρ1 => (evE G b ρ1).bind fun y ρ2 => R.lift (rgL [x, y]) ρ2
  | .sorted a => fun ρ => (evL G a ρ).bind fun x ρ1 => match x with | .lst _ => R.lift (sortD x) ρ1 | _ => .bad
  | .cat a b => fun ρ => (evE G a ρ).bind fun x ρ1 => (evE G b ρ1).bind fun y ρ2 => match x, y with
    | .lst xs, .lst ys => if xs.length + ys.length ≤ LN then .ok (xs ++ ys) ρ2 else .bad
    | _, _ => .bad
  | .rep a b => fun ρ => (evE G a ρ).bind fun x ρ1 => (evE G b ρ1).bind fun y ρ2 => match x, y with
    | .lst xs, .int k => if xs.length * k.toNat ≤ LN ∧ -(2 ^ 63) ≤ k ∧ k < 2 ^ 63 then .ok (List.replicate k.toNat xs).flatten ρ2 else .bad
    | _, _ => .bad
  | .comp tg it t e vs => compR tg (fun ρ => (evI G it ρ).bind few) (evC G t) (evE G e) vs
  | .call k n es => fun ρ => (evA G es ρ).bind fun ds ρ1 => if ds.length = n then (G.dF k ds).f ρ1 else .bad
  | .mov i => fun ρ => movR i ρ
  | .lstS es => fun ρ => (evAs G es ρ).bind few
def evAs (G : Gs) : As → En → R (List D)
  | .nil => fun ρ => .ok [] ρ
  | .cons e es => fun ρ => (evE G e ρ).bind fun x ρ1 => (evAs G es ρ1).bind fun xs ρ2 => .ok (x :: xs) ρ2
  | .star e es => fun ρ => (evE G e ρ).bind fun y ρ1 => (R.lift (seqD y) ρ1).bind fun ys ρ2 => (evAs G es ρ2).bind fun xs ρ3 => .ok (ys ++ xs) ρ3
def evG (G : Gs) : Gm → En → R Ob
  | .new t => fun ρ => .ok (newD t) ρ
  | .comp t tg it cd k v vs => compDR t tg (evI G it) (evC G cd) (evE G k) (evE G v) vs
def evC (G : Gs) : Cd → En → R Bool
  | .no => fun ρ => .ok true ρ
  | .one b => evB G b
def evI (G : Gs) : I → En → R (List D)
  | .sq a => fun ρ => (evE G a ρ).bind fun x ρ1 => (R.lift (itD x) ρ1).bind fun xs ρ2 => itN x xs ρ2
  | .r1 a => fun ρ => (evE G a ρ).bind fun x ρ1 => R.lift (rng [x]) ρ1
  | .r2 a b => fun ρ => (evE G a ρ).bind fun x ρ1 => (evE G b ρ1).bind fun y ρ2 => R.lift (rng [x, y]) ρ2
  | .r3 a b e => fun ρ => (evE G a ρ).bind fun x ρ1 => (evE G b ρ1).bind fun y ρ2 => (evE G e ρ2).bind fun z ρ3 => R.lift (rng [x, y, z]) ρ3
  | .zip a b => fun ρ => (evE G a ρ).bind fun x ρ1 => (evE G b ρ1).bind fun y ρ2 => R.lift (zipD x y) ρ2
  | .enum a => fun ρ => (evE G a ρ).bind fun x ρ1 => R.lift (enumD x) ρ1
  | .rev a => fun ρ => (evE G a ρ).bind fun x ρ1 => R.lift (revD x) ρ1
end
def evP (G : Gs) : P → En → R (List Sl)
  | .nil => fun ρ => .ok [] ρ
  | .cE e p => fun ρ => (evE G e ρ).bind fun d ρ1 => (evP G p ρ1).bind fun ss ρ2 => .ok (.va d :: ss) ρ2
  | .cF f p => fun ρ => (evF G f ρ).bind fun xs ρ1 => (evP G p ρ1).bind fun ss ρ2 => .ok (.ow false xs :: ss) ρ2
  | .cD g p => fun ρ => (evG G g ρ).bind fun b ρ1 => (evP G p ρ1).bind fun ss ρ2 => .ok (.ow false b :: ss) ρ2
mutual
def evS (G : Gs) : S → En → R Fl
  | .pass => fun ρ => .ok .nx ρ
  | .brk => fun ρ => .ok .bk ρ
  | .cnt => fun ρ => .ok .ct ρ
  | .ret e => fun ρ => (evE G e ρ).bind fun d ρ1 => .ok (.rt d) ρ1
  | .retF f => fun ρ => (evF G f ρ).bind fun xs ρ1 => .ok (.rf xs) ρ1
  | .retN => fun ρ => .ok (.rt .non) ρ
  | .ife t a b => fun ρ => (evB G t ρ).bind fun k ρ1 => if k = true then evSs G a ρ1 else evSs G b ρ1
  | .asg i e => fun ρ => (evE G e ρ).bind fun d ρ1 => (R.lift (setV i d ρ1) ρ1).bind fun ρ2 _ => .ok .nx ρ2
  | .asgF i f => fun ρ => (evF G f ρ).bind fun ds ρ1 => (R.lift (setV i (.lst ds) ρ1) ρ1).bind fun ρ2 _ => .ok .nx ρ2
  | .asgT tg e => fun ρ => (evE G e ρ).bind fun d ρ1 => (R.lift (Ev.asgT tg d ρ1) ρ1).bind fun ρ2 _ => .ok .nx ρ2
  | .own i f => fun ρ => (evF G f ρ).bind fun ds ρ1 => (R.lift (setO i ds ρ1) ρ1).bind fun ρ2 _ => .ok .nx ρ2
  | .aug op i e => fun ρ => (rdL ρ i).bind fun x0 ρ0 => (evE G e ρ0).bind fun d ρ1 => (R.lift ((aop2 op x0 d).bind fun z => setV i z ρ1) ρ1).bind fun ρ2 _ => .ok .nx ρ2
  | .app i e => fun ρ => (rdO ρ i).bind fun _ ρ0 => (evE G e ρ0).bind fun d ρ1 => (R.lift (modO i (appF d) ρ1) ρ1).bind fun ρ2 _ => .ok .nx ρ2
  | .ext i e => fun ρ => (rdO ρ i).bind fun _ ρ0 => (evE G e ρ0).bind fun d ρ1 => (R.lift (modO i (extF d) ρ1) ρ1).bind fun ρ2 _ => .ok .nx ρ2
  | .setI i b e => fun ρ => (evE G e ρ).bind fun d ρ1 => (rdO ρ1 i).bind fun _ ρ2 => (evE G b ρ2).bind fun k ρ3 => (R.lift (modO i (setF k d) ρ3) ρ3).bind fun ρ4 _ => .ok .nx ρ4
  | .putI i b e => fun ρ => (evE G e ρ).bind fun d ρ1 => (rdB ρ1 i).bind fun _ ρ0 => (evE G b ρ0).bind fun k ρ2 => (R.lift (modD i k d ρ2) ρ2).bind fun ρ3 _ => .ok .nx ρ3
  | .ownD i g => fun ρ => (evG G g ρ).bind fun b ρ1 => (R.lift (setO i b ρ1) ρ1).bind fun ρ2 _ => .ok .nx ρ2
  | .for tg it b => fun ρ => (evI G it ρ).bind fun items ρ1 => forL (Ev.asgT tg) (evSs G b) items ρ1
  | .whl n t b => whileL (evB G t) (evSs G b) n
  | .expr e => fun ρ => (evE G e ρ).bind fun _ ρ1 => .ok .nx ρ1
  | .doc => fun ρ => .ok .nx ρ
  | .rse k => fun ρ => .err k ρ
  | .par is p => parR is (evP G p)
  | .tri nC b hs => fun ρ => triR nC (hs.map fun q => (q.1, q.2.d)) (evSs G b ρ)
  | .trn nC i k j s0 s1 b => fun ρ => trnR nC i k j s0 s1 (evSs G b ρ)
def evSs (G : Gs) : Ss → En → R Fl
  | .nil => fun ρ => .ok .nx ρ
  | .cons s r => fun ρ => (evS G s ρ).bind (thenS (evSs G r))
end

/-! ### is a text of the program that text? -/
structure Tb where
  fns : List (Str × Nat × Nat)
  cls : List Str
  glo : List (Str × Con)
structure Ck where
  tb : Tb
  N : List Str
  sc : Scope
def Ck.visC (K : Ck) (i : Nat) (x : Str) : Bool :=
  decide (K.N[i]? = some x) && !(x == ("__debug__" : Str)) && !(x == ("__classdict__" : Str)) && (match K.sc.names.lookup x with | some .local => true | some .cell => true | some .free => true | _ => false)
def Ck.locC (K : Ck) (i : Nat) (x : Str) : Bool :=
  decide (K.N[i]? = some x) && (match K.sc.names.lookup x with | some .local => true | some .cell => true | _ => false)
def Ck.loc1 (K : Ck) (i : Nat) (x : Str) : Bool := decide (K.N[i]? = some x) && decide (K.sc.names.lookup x = some .local)
/-- a comprehension's own name -/
def Ck.loB (K : Ck) (scope : Scope) (i : Nat) (x : Str) : Bool := decide (K.N[i]? = some x) && (decide ((relS scope K.sc).names.lookup x = some .local) || (decide ((relS scope K.sc).names.lookup x = some .cell) && decide (scope.names.lookup x = some .cell)))
def Ck.glC (K : Ck) (x : Str) : Bool := decide (K.sc.names.lookup x = some .globalImplicit)
def Ck.fnC (K : Ck) (k n kind : Nat) (x : Str) : Bool := decide (K.tb.fns[k]? = some (x, n, kind)) && K.glC x && !(x == ("__debug__" : Str))
def plainT : Expr → Bool
  | .UnaryOp .Not .. => false
  | .BoolOp .. => false
  | .IfExp .. => false
  | .Compare .. => false
  | _ => true
def ownOf (N : List Str) (vs : List Nat) : List (Str × Nat) := vs.map fun i => (N.getD i "", i)
def Ck.blk (K : Ck) (scope : Scope) : Ck := { K with sc := relS scope K.sc }
def tgsC (ok : Nat → Str → Bool) : List Nat → List Expr → Bool
  | [], [] => true
  | i :: is, .Name x _ :: es => ok i x && tgsC ok is es
  | _, _ => false
def tgC (ok : Nat → Str → Bool) : Tg → Expr → Bool
  | .nm i, ex => match ex with | .Name x _ => ok i x | _ => false
  | .tup is, ex => match ex with | .Tuple es _ _ => tgsC ok is es | _ => false
def Ck.fnsC (K : Ck) (n : Nat) : List Nat → List Expr → Bool
  | [], [] => true
  | k :: ks, .Name x _ :: es => K.fnC k n 0 x && K.fnsC n ks es
  | _, _ => false
mutual
def ckE : E → Ck → Expr → Bool
  | .con k, K, ex => match ex with | .Constant v _ _ => decide (v = k.cst) | _ => false
  | .glo k, K, ex => match ex with | .Name x _ => decide ((K.tb.glo.lookup x).map Con.cst = some k.cst) && K.glC x && !(x == ("__debug__" : Str)) | _ => false
  | .var i, K, ex => match ex with | .Name x _ => K.visC i x | _ => false
  | .bin op a b, K, ex => match ex with | .BinOp x op' y _ => decide (op' = op) && ckE a K x && ckE b K y | _ => false
  | .neg a, K, ex => match ex with | .UnaryOp op x _ => decide (op = .USub) && ckE a K x | _ => false
  | .not a, K, ex => match ex with | .UnaryOp op x _ => decide (op = .Not) && ckE a K x | _ => false
  | .cmp op a b, K, ex => match ex with | .Compare x [op'] [y] _ => decide (op' = op) && !isSet y && ckE a K x && ckE b K y | _ => false
  | .chn op op2 a b e, K, ex => match ex with | .Compare x [p, q] [y, z] _ => decide (p = op) && decide (q = op2) && !isSet z && ckE a K x && ckE b K y && ckE e K z | _ => false
  | .ife t a b, K, ex => match ex with | .IfExp x y z _ => ckB t K x && ckE a K y && ckE b K z | _ => false
  | .and v, K, ex => match ex with | .BoolOp op es _ => decide (op = .And) && decide (2 ≤ es.length) && ckVs v K es | _ => false
  | .or v, K, ex => match ex with | .BoolOp op es _ => decide (op = .Or) && decide (2 ≤ es.length) && ckVs v K es | _ => false
  | .tup es, K, ex => match ex with | .Tuple xs _ _ => decide (xs.length ≤ 1000) && ckA es K xs | _ => false
  | .fr f, K, ex => ckF f K ex
  | .ix a b, K, ex => match ex with | .Subscript x y _ => plainSl y && ckE a K x && ckE b K y | _ => false
  | .ixV i b, K, ex => match ex with | .Subscript (.Name x _) y _ => plainSl y && K.visC i x && ckE b K y | _ => false
  | .sl a lo hi, K, ex => match ex with | .Subscript x (.Slice l h none _) _ => ckE a K x && ckO lo K l && ckO hi K h | _ => false
  | .slV i lo hi, K, ex => match ex with | .Subscript (.Name x _) (.Slice l h none _) _ => K.visC i x && ckO lo K l && ckO hi K h | _ => false
  | .b1 f a, K, ex => match ex with | .Call (.Name x _) [y] [] _ => decide (x = f.nm) && K.glC x && noStar y && ckL a K y | _ => false
  | .b2 f a b, K, ex => match ex with | .Call (.Name x _) [y, z] [] _ => decide (x = f.nm) && K.glC x && noStar y && noStar z && ckE a K y && ckE b K z | _ => false
  | .isi t a, K, ex => match ex with | .Call (.Name x _) [y, .Name z _] [] _ => decide (x = "isinstance") && K.glC x && decide (z = t.nm) && K.glC z && noStar y && ckL a K y | _ => false
  | .call k n es, K, ex => match ex with | .Call (.Name x _) (y :: ys) [] _ => K.fnC k n 0 x && (y :: ys).all noStar && ckA es K (y :: ys) | _ => false
  | .callM k n i es, K, ex => match ex with | .Call (.Name x _) (.Name y _ :: ys) [] _ => K.fnC k n 1 x && K.visC i y && ys.all noStar && ckA es K ys | _ => false
  | .callX ks n ix es, K, ex => match ex with | .Call (.Subscript (.List xs _) y _) (z :: zs) [] _ => plainSl y && decide (ks.length ≤ 1000) && K.fnsC n ks xs && ckE ix K y && (z :: zs).all noStar && ckA es K (z :: zs) | _ => false
  | .pop i, K, ex => match ex with | .Call (.Attribute (.Name x _) m p2) [] [] p3 => decide (m = "pop") && K.visC i x && (p2.endLine == p3.line) | _ => false
  | .popAt i e, K, ex => match ex with | .Call (.Attribute (.Name x _) m p2) [y] [] p3 => decide (m = "pop") && K.visC i x && (p2.endLine == p3.line) && noStar y && ckE e K y | _ => false
  | .isin neg a l, K, ex => match ex with | .Compare x [op] [y] _ => decide (op = if neg = true then .NotIn else .In) && !isSet y && ckE a K x && ckL l K y | _ => false
  | .frD g, K, ex => ckG g K ex
  | .cmpV op i b, K, ex => match ex with | .Compare (.Name x _) [op'] [y] _ => decide (op' = op) && !isSet y && K.visC i x && ckE b K y | _ => false
  | .callMO k i j, K, ex => match ex with | .Call (.Name x _) [.Name y _, .Name z _] [] _ => K.fnC k 2 1 x && K.visC i y && K.visC j z | _ => false
def ckL : L → Ck → Expr → Bool
  | .lk i, K, ex => match ex with | .Name x _ => K.visC i x | _ => false
  | .vl e, K, ex => ckE e K ex
def ckVs : Vs → Ck → List Expr → Bool
  | .one e, K, es => match es with | [x] => ckE e K x | _ => false
  | .more e v, K, es => match es with | x :: y :: r => ckE e K x && ckVs v K (y :: r) | _ => false
def ckB : B → Ck → Expr → Bool
  | .cmp op a b, K, ex => match ex with | .Compare x [op'] [y] _ => decide (op' = op) && !isSet y && ckE a K x && ckE b K y | _ => false
  | .chn op op2 a b e, K, ex => match ex with | .Compare x [p, q] [y, z] _ => decide (p = op) && decide (q = op2) && !isSet z && ckE a K x && ckE b K y && ckE e K z | _ => false
  | .and w, K, ex => match ex with | .BoolOp op es _ => decide (op = .And) && ckWs w K es | _ => false
  | .or w, K, ex => match ex with | .BoolOp op es _ => decide (op = .Or) && ckWs w K es | _ => false
  | .not b, K, ex => match ex with | .UnaryOp op x _ => decide (op = .Not) && ckB b K x | _ => false
  | .tr a, K, ex => plainT ex && ckL a K ex
  | .cmpV op i b, K, ex => match ex with | .Compare (.Name x _) [op'] [y] _ => decide (op' = op) && !isSet y && K.visC i x && ckE b K y | _ => false
  | .isin neg a l, K, ex => match ex with | .Compare x [op] [y] _ => decide (op = if neg = true then .NotIn else .In) && !isSet y && ckE a K x && ckL l K y | _ => false
def ckWs : Ws → Ck → List Expr → Bool
  | .one b, K, es => match es with | [x] => ckB b K x | _ => false
  | .more b w, K, es => match es with | x :: y :: r => ckB b K x && ckWs w K (y :: r) | _ => false
def ckO : O → Ck → Option Expr → Bool
  | .no, K, o => match o with | none => true | _ => false
  | .so e, K, o => match o with | some x => ckE e K x | _ => false
def ckA : A → Ck → List Expr → Bool
  | .nil, K, es => match es with | [] => true | _ => false
  | .cons e r, K, es => match es with | x :: xs => noStar x && ckE e K x && ckA r K xs | _ => false
def ckF : F → Ck → Expr → Bool
  | .lst es, K, ex => match ex with | .List xs _ => decide (xs.length ≤ 1000) && ckA es K xs | _ => false
  | .listOf a, K, ex => match ex with | .Call (.Name x _) [y] [] _ => decide (x = "list") && K.glC x && noStar y && ckL a K y | _ => false
  | .listRev a, K, ex => match ex with | .Call (.Name x _) [.Call (.Name z _) [y] [] _] [] _ => decide (x = "list") && K.glC x && decide (z = "reversed") && K.glC z && noStar y && ckL a K y | _ => false
  | .rg1 a, K, ex => match ex with | .Call (.Name x _) [.Call (.Name z _) [y] [] _] [] _ => decide (x = "list") && K.glC x && decide (z = "range") && K.glC z && noStar y && ckE a K y | _ => false
  | .rg2 a b, K, ex => match ex with | .Call (.Name x _) [.Call (.Name z _) [y, u] [] _] [] _ => decide (x = "list") && K.glC x && decide (z = "range") && K.glC z && noStar y && noStar u && ckE a K y && ckE b K u | _ => false
  | .sorted a, K, ex => match ex with | .Call (.Name x _) [y] [] _ => decide (x = "sorted") && K.glC x && noStar y && ckL a K y | _ => false
  | .cat a b, K, ex => match ex with | .BinOp x op y _ => decide (op = .Add) && ckE a K x && ckE b K y | _ => false
  | .rep a b, K, ex => match ex with | .BinOp x op y _ => decide (op = .Mult) && ckE a K x && ckE b K y | _ => false
  | .comp tg it t e vs, K, ex => match ex with
    | .ListComp elt [⟨tgx, iter, ifs, asy⟩] scope _ => decide (asy = 0) && blkC K.N K.sc scope (ownOf K.N vs) && tg.slots.all (fun i => vs.contains i) && !isSet iter && ckI it K tgx iter && tgC (K.loB scope) tg tgx && ckC t (K.blk scope) ifs && ckE e (K.blk scope) elt
    | _ => false
  | .call k n es, K, ex => match ex with | .Call (.Name x _) (y :: ys) [] _ => K.fnC k n 2 x && (y :: ys).all noStar && ckA es K (y :: ys) | _ => false
  | .mov i, K, ex => match ex with | .Name x _ => K.visC i x | _ => false
  | .lstS es, K, ex => match ex with | .List xs _ => ckAs es K xs | _ => false
def ckAs : As → Ck → List Expr → Bool
  | .nil, K, es => match es with | [] => true | _ => false
  | .cons e r, K, es => match es with | x :: xs => noStar x && ckE e K x && ckAs r K xs | _ => false
  | .star e r, K, es => match es with | .Starred x _ :: xs => ckE e K x && ckAs r K xs | _ => false
def ckG : Gm → Ck → Expr → Bool
  | .new t, K, ex => match ex with | .Dict [] [] _ => true | _ => false
  | .comp t tg it cd k v vs, K, ex => match ex with
    | .DictComp kx vx [⟨tgx, iter, ifs, asy⟩] scope _ => decide (asy = 0) && blkC K.N K.sc scope (ownOf K.N vs) && tg.slots.all (fun i => vs.contains i) && !isSet iter && ckI it K tgx iter && tgC (K.loB scope) tg tgx && ckC cd (K.blk scope) ifs && ckE k (K.blk scope) kx && ckE v (K.blk scope) vx
    | _ => false
def ckC : Cd → Ck → List Expr → Bool
  | .no, K, es => match es with | [] => true | _ => false
  | .one b, K, es => match es with | [x] => ckB b K x | _ => false
def ckI : I → Ck → Expr → Expr → Bool
  | .sq a, K, _, ex => ckE a K ex
  | .r1 a, K, _, ex => match ex with | .Call (.Name x _) [y] [] _ => decide (x = "range") && K.glC x && noStar y && ckE a K y | _ => false
  | .r2 a b, K, _, ex => match ex with | .Call (.Name x _) [y, z] [] _ => decide (x = "range") && K.glC x && noStar y && noStar z && ckE a K y && ckE b K z | _ => false
  | .r3 a b e, K, _, ex => match ex with | .Call (.Name x _) [y, z, u] [] _ => decide (x = "range") && K.glC x && noStar y && noStar z && noStar u && ckE a K y && ckE b K z && ckE e K u | _ => false
  | .zip a b, K, tg, ex => match tg, ex with | .Tuple .., .Call (.Name x _) [y, z] [] _ => decide (x = "zip") && K.glC x && noStar y && noStar z && ckE a K y && ckE b K z | _, _ => false
  | .enum a, K, tg, ex => match tg, ex with | .Tuple .., .Call (.Name x _) [y] [] _ => decide (x = "enumerate") && K.glC x && noStar y && ckE a K y | _, _ => false
  | .rev a, K, _, ex => match ex with | .Call (.Name x _) [y] [] _ => decide (x = "reversed") && K.glC x && noStar y && ckE a K y | _ => false
end
end Ev

end
section
set_option maxHeartbeats 4000000
namespace Ev
open PySem PySem.Spec PyProof.Rows L2

def bN : List Str := ["len", "abs", "int", "bool", "str", "all", "any", "sum", "max", "min", "tuple", "list", "reversed", "range", "sorted", "zip", "enumerate", "isinstance", "dict"]
structure GoodG (tb : Tb) (c : Cn) (G : Gs) (n : Nat) (P : Program) (w : World) (KK : PySem.W.Frag) (mg : Str → Option Value) (base : Heap) : Prop where
  free : ∀ x ∈ bN, mg x = none
  exc : ExcF KK c.C tb.cls.length
  dA : ∀ k x ar kind, tb.fns[k]? = some (x, ar, kind) → mg x = some (.ref (c.A k))
  glo : ∀ x k, tb.glo.lookup x = some k → ∃ u, mg x = some u ∧ RelV k.v u
  dD : ∀ k x ar, tb.fns[k]? = some (x, ar, 0) → ∃ f fd ps, ps.length = ar ∧ FnOk P w KK mg base (L2.CX P w) n f fd ps (spD c ps.length (G.dD k)) ∧ mg x = some (.ref f) ∧ PySem.W.keepIn KK (.ref f) = true ∧ Binds KK fd ps []
  dM : ∀ k x ar, tb.fns[k]? = some (x, ar, 1) → ∃ f fd ps, ps.length = ar ∧ FnOk P w KK mg base (L2.CX P w) n f fd ps (spM c ps.length (G.dM k)) ∧ mg x = some (.ref f) ∧ PySem.W.keepIn KK (.ref f) = true ∧ Binds KK fd ps []
  dF : ∀ k x ar, tb.fns[k]? = some (x, ar, 2) → ∃ f fd ps, ps.length = ar ∧ FnOk P w KK mg base (L2.CX P w) n f fd ps (spF c ps.length (G.dF k)) ∧ mg x = some (.ref f) ∧ PySem.W.keepIn KK (.ref f) = true ∧ Binds KK fd ps []
  cls : ∀ k x, tb.cls[k]? = some x → mg x = some (.ref (c.C k)) ∧ PySem.W.excIn KK (c.C k) He.veBase "ValueError.__new__" = true ∧ PySem.W.keepIn KK (.ref (c.C k)) = true ∧ PySem.W.subIn KK (.ref (c.C k)) (.type "BaseException") = some true ∧ PySem.W.typeIn KK (.ref (c.C k)) = some (.type "type")
structure Good (K : Ck) (c : Cn) (G : Gs) (n : Nat) (X : Cx) (W : WX) : Prop where
  k : X.K = c.K
  calm : X.calm = true
  nd : X.N.Nodup
  N : X.N = K.N
  sc : X.env.scope = K.sc
  rm : Room n X.A
  tk : Takes X W
  gl : GoodG K.tb c G n X.prog X.w X.K X.mg X.base
section
variable {K : Ck} {c : Cn} {G : Gs} {n : Nat} {X : Cx} {W : WX}
theorem Good.un (g : Good K c G n X W) : X.A.units + 65 < cLine := by have := g.rm.un; omega
theorem Good.glob (g : Good K c G n X W) {x : Str} (h : K.glC x = true) : Gl X x := by
  unfold Ck.glC at h
  show X.env.scope.names.lookup x = _
  rw [g.sc]
  exact of_decide_eq_true h
theorem Good.freeB (g : Good K c G n X W) {x : Str} (h : x ∈ bN) : X.mg x = none := g.gl.free x h
theorem Good.vis (g : Good K c G n X W) {i : Nat} {x : Str} {p : Pos} (h : K.visC i x = true) : PE X (.Name x p) (tVar i) := by
  unfold Ck.visC at h
  simp only [Bool.and_eq_true, decide_eq_true_eq, Bool.not_eq_true'] at h
  obtain ⟨⟨⟨h1, h2⟩, h3⟩, h4⟩ := h
  refine pe_var (by rw [g.N]; exact h1) ?_ h2 h3
  unfold Vis
  rw [g.sc]
  split at h4 <;> first | (rename_i e; simp [e]; done) | cases h4
theorem Good.loc (g : Good K c G n X W) {i : Nat} {x : Str} (h : K.locC i x = true) : X.N[i]? = some x ∧ L2.Loc X.env.scope x := by
  unfold Ck.locC at h
  simp only [Bool.and_eq_true, decide_eq_true_eq] at h
  refine ⟨by rw [g.N]; exact h.1, ?_⟩
  unfold L2.Loc
  rw [g.sc]
  have h2 := h.2
  split at h2 <;> first | (rename_i e; simp [e]; done) | cases h2
theorem Good.lo1 (g : Good K c G n X W) {i : Nat} {x : Str} (h : K.loc1 i x = true) : X.N[i]? = some x ∧ X.env.scope.names.lookup x = some .local := by
  unfold Ck.loc1 at h
  simp only [Bool.and_eq_true, decide_eq_true_eq] at h
  exact ⟨by rw [g.N]; exact h.1, by rw [g.sc]; exact h.2⟩
theorem Good.blk (g : Good K c G n X W) (s : Shared) (H : Hp) (scope : Scope) (C : Addr) (cl : List (Str × Addr)) (fp : List Addr) : Good (K.blk scope) c G n (X.blk s H scope (compEnvC scope cl C X.env) fp) W0 :=
  ⟨g.k, g.calm, g.nd, g.N, by show relS scope X.env.scope = relS scope K.sc; rw [g.sc], g.rm, takes0, g.gl⟩
theorem Good.loB (g : Good K c G n X W) {s : Shared} {H : Hp} {scope : Scope} {C : Addr} {cl : List (Str × Addr)} {fp : List Addr} {i : Nat} {x : Str} (h : K.loB scope i x = true) :
    (X.blk s H scope (compEnvC scope cl C X.env) fp).N[i]? = some x ∧ L2.Loc (X.blk s H scope (compEnvC scope cl C X.env) fp).env.scope x ∧ ((X.blk s H scope (compEnvC scope cl C X.env) fp).fn x = true ∨ (X.blk s H scope (compEnvC scope cl C X.env) fp).env.scope.names.lookup x = some .local) := by
  have e : (X.blk s H scope (compEnvC scope cl C X.env) fp).env.scope = relS scope K.sc := by show relS scope X.env.scope = _; rw [g.sc]
  unfold Ck.loB at h
  simp only [Bool.and_eq_true, Bool.or_eq_true, decide_eq_true_eq] at h
  refine ⟨by show X.N[i]? = _; rw [g.N]; exact h.1, ?_⟩
  rw [e]
  rcases h.2 with h2 | ⟨h2, h3⟩
  · exact ⟨.inl h2, .inr h2⟩
  · exact ⟨.inr h2, .inl (by show (scope.names.lookup x == some .cell) = true; rw [h3]; rfl)⟩
theorem con_pe {k : Con} {j : Nat} {p : Pos} : PE X (.Constant k.cst j p) (tC k.v) := by
  cases k
  · exact pe_non
  · exact pe_bl
  · exact pe_int
  · exact pe_str
theorem con_rep (k : Con) (H : Hp) : Rep c H k.v k.d := by
  cases k
  · exact .non
  · exact .bl _
  · exact .int _
  · exact .str _
theorem con_inj {k k' : Con} (h : k.cst = k'.cst) : k = k' := by
  cases k <;> cases k' <;> simp_all [Con.cst]
theorem b1_mem (f : B1) : f.nm ∈ bN := by cases f <;> decide
theorem b2_mem (f : B2) : f.nm ∈ bN := by cases f <;> decide
theorem ty_mem (t : Ty) : t.nm ∈ bN := by cases t <;> decide
theorem evA_len : ∀ (es : A) (K : Ck) (xs : List Expr) (ρ : En) (ds : List D) (ρ' : En), ckA es K xs = true → evA G es ρ = .ok ds ρ' → ds.length = xs.length
  | .nil, K, xs, ρ, ds, ρ', h, e => by
    simp only [ckA] at h
    split at h
    · simp only [evA] at e; cases e; rfl
    · cases h
  | .cons a r, K, xs, ρ, ds, ρ', h, e => by
    simp only [ckA] at h
    split at h
    · simp only [Bool.and_eq_true] at h
      simp only [evA] at e
      cases h1 : evE G a ρ with
      | ok d ρ1 =>
        rw [h1] at e
        simp only [R.bind] at e
        cases h2 : evA G r ρ1 with
        | ok es ρ2 =>
          rw [h2] at e
          cases e
          rw [List.length_cons, List.length_cons, evA_len r K _ _ _ _ h.2 h2]
        | err => rw [h2] at e; cases e
        | bad => rw [h2] at e; cases e
      | err => rw [h1] at e; cases e
      | bad => rw [h1] at e; cases e
    · cases h
theorem compD_nb {g : D → En → Option En} {ft : En → R Bool} {fk fv : En → R D} {vs : List Nat} : ∀ (items : List D) (b : Ob) (ρ : En) (b' : Ob) (ρ' : En), (∀ xs, b ≠ .lst xs) → compD g ft fk fv vs items b ρ = .ok b' ρ' → ∀ xs, b' ≠ .lst xs
  | [], b, ρ, b', ρ', nb, h => by simp only [compD] at h; cases h; exact nb
  | d :: ds, b, ρ, b', ρ', nb, h => by
    simp only [compD] at h
    split at h
    · cases h
    · rename_i ρ1 _
      cases h1 : (ft ρ1).ne with
      | bad => rw [h1] at h; cases h
      | err => rw [h1] at h; cases h
      | ok k ρ2 =>
        rw [h1] at h
        simp only [R.bind_ok] at h
        split at h
        · cases h2 : (fk ρ2).ne with
          | bad => rw [h2] at h; cases h
          | err => rw [h2] at h; cases h
          | ok y ρ3 =>
            rw [h2] at h
            simp only [R.bind_ok] at h
            cases h3 : (fv ρ3).ne with
            | bad => rw [h3] at h; cases h
            | err => rw [h3] at h; cases h
            | ok z ρ4 =>
              rw [h3] at h
              simp only [R.bind_ok] at h
              cases h4 : putB b y z with
              | none => rw [h4] at h; cases h
              | some b1 =>
                rw [h4] at h
                simp only [R.lift, R.bind_ok] at h
                refine compD_nb ds b1 _ b' ρ' (fun xs e => ?_) h
                subst e
                cases b with
                | lst => exact nb _ rfl
                | dK ks us => simp only [putB, Option.bind_eq_some_iff] at h4; obtain ⟨j, _, h5⟩ := h4; split at h5 <;> cases h5
                | dT ks us => simp only [putB, Option.bind_eq_some_iff] at h4; obtain ⟨j, _, h5⟩ := h4; split at h5 <;> cases h5
        · exact compD_nb ds b _ b' ρ' nb h
theorem evG_nb (g : Gm) (ρ : En) (b : Ob) (ρ' : En) (h : evG G g ρ = .ok b ρ') : ∀ xs, b ≠ .lst xs := by
  cases g with
  | new t => simp only [evG] at h; cases h; intro xs; cases t <;> exact fun z => by cases z
  | comp t tg it cd k v vs =>
    simp only [evG, compDR] at h
    cases h1 : evI G it ρ with
    | bad => rw [h1] at h; cases h
    | err => rw [h1] at h; cases h
    | ok items ρ1 =>
      rw [h1] at h
      simp only [R.bind_ok] at h
      cases h2 : compD (asgT tg) (evC G cd) (evE G k) (evE G v) vs items (newD t) (wipeR ρ1 vs) with
      | bad => rw [h2] at h; cases h
      | err => rw [h2] at h; cases h
      | ok b1 ρ2 =>
        rw [h2] at h
        simp only [R.bind_ok] at h
        cases h
        exact compD_nb _ _ _ _ _ (fun xs => by cases t <;> exact fun z => by cases z) h2
theorem plainT_ok {e : Expr} (h : plainT e = true) (env : Env) : ∀ whole, isTrue e env whole = (do let v ← whole; standAt e.pos; holding [v] (truthy v)) := by
  intro whole
  cases e with
  | UnaryOp op x p => cases op <;> first | rfl | cases h
  | BoolOp => cases h
  | IfExp => cases h
  | Compare => cases h
  | _ => rfl
theorem noFold {e : Expr} {env : Env} (h : isSet e = false) : ∀ x, foldedSetIterable e env x = pure x := by
  intro x
  cases e <;> first | rfl | cases h
theorem tgs_sound {K : Ck} {X : Cx} {ok : Nat → Str → Bool} (hok : ∀ i x pos, ok i x = true → PG X (.Name x pos) (gName i)) : ∀ {is : List Nat} {es : List Expr}, tgsC ok is es = true → PGs X es (gL is) ∧ es.length = is.length ∧ es.all noStar = true
  | [], [], _ => ⟨pgs_nil, rfl, rfl⟩
  | i :: is, e :: es, h => by
    cases e <;> try (cases h; done)
    simp only [tgsC, Bool.and_eq_true] at h
    obtain ⟨h1, h2, h3⟩ := tgs_sound (K := K) hok h.2
    exact ⟨g_cons (hok _ _ _ h.1) h1, congrArg Nat.succ h2, by rw [List.all_cons, h3]; rfl⟩
  | [], _ :: _, h => by cases h
  | _ :: _, [], h => by cases h
theorem tg_sound {K : Ck} {X : Cx} {ok : Nat → Str → Bool} (hK : X.K = c.K) (hc : X.calm = true) (hok : ∀ i x pos, ok i x = true → PG X (.Name x pos) (gName i)) {T : Tg} {ex : Expr} (h : tgC ok T ex = true) : PG X ex (tgT c T) := by
  cases T with
  | nm i =>
    simp only [tgC] at h
    split at h
    · exact hok _ _ _ h
    · cases h
  | tup is =>
    simp only [tgC] at h
    split at h
    · obtain ⟨h1, h2, h3⟩ := tgs_sound (K := K) hok h
      exact g_tup hK hc h3 h2 h1
    · cases h
theorem s_andE1 {a : Expr} {pos : Pos} {t : TE} (h : PE X a t) : PE X (.BoolOp .And [a] pos) t := ⟨fun pins s σ H Q I q => h.run pins s σ H Q I q⟩
theorem s_orE1 {a : Expr} {pos : Pos} {t : TE} (h : PE X a t) : PE X (.BoolOp .Or [a] pos) t := ⟨fun pins s σ H Q I q => h.run pins s σ H Q I q⟩
theorem ownOf_snd (N : List Str) (vs : List Nat) : (ownOf N vs).map (·.2) = vs := by
  unfold ownOf
  rw [List.map_map]
  exact List.map_id' vs
theorem fns_sound (g : Good K c G n X W) {m : Nat} : ∀ {ks : List Nat} {es : List Expr}, K.fnsC m ks es = true → PA X es (fun σ H Q => Q (ks.map fun k => V.ref (c.A k)) H) ∧ ∀ k ∈ ks, FnAt X c n m k (G.dD k)
  | [], [], _ => ⟨pa_nil, fun k hk => by cases hk⟩
  | k :: ks, e :: es, h => by
    cases e <;> try (cases h; done)
    rename_i x p
    simp only [Ck.fnsC, Bool.and_eq_true] at h
    obtain ⟨h0, h⟩ := h
    unfold Ck.fnC at h0
    simp only [Bool.and_eq_true, decide_eq_true_eq, Bool.not_eq_true'] at h0
    obtain ⟨⟨f1, f2⟩, f3⟩ := h0
    have m1 := g.gl.dA _ _ _ _ f1
    obtain ⟨f, fd, ps, e1, F, m2, kp, bd⟩ := g.gl.dD _ _ _ f1
    rw [m1] at m2
    cases m2
    obtain ⟨i1, i2⟩ := fns_sound g h
    refine ⟨pa_cons (pe_glob (v := V.ref (c.A k)) (g.glob f2) m1 rfl f3) i1 (star_cons rfl), fun j hj => ?_⟩
    rcases List.mem_cons.mp hj with rfl | hj
    · exact ⟨fd, ps, e1, F, kp, bd⟩
    · exact i2 j hj
  | [], _ :: _, h => by cases h
  | _ :: _, [], h => by cases h
end

end Ev

end
section
set_option maxHeartbeats 4000000
namespace Ev
open PySem PySem.Spec PyProof.Rows L2
section
variable {c : Cn} {G : Gs} {n : Nat}
mutual
theorem soE : ∀ (e : E) {K : Ck} {X : Cx} {W : WX} {ex : Expr} (g : Good K c G n X W), ckE e K ex = true → PE X ex (tE c W (evE G e))
  | .con k, K, X, W, ex, g, h => by
    simp only [ckE] at h
    split at h
    · try simp only [Bool.and_eq_true, decide_eq_true_eq, Bool.not_eq_true'] at h
      have h1 := h
      subst h1
      exact s_con (con_rep k) con_pe
    · cases h
  | .glo k, K, X, W, ex, g, h => by
    simp only [ckE] at h
    split at h
    · try simp only [Bool.and_eq_true, decide_eq_true_eq, Bool.not_eq_true'] at h
      obtain ⟨⟨h1, h2⟩, h3⟩ := h
      obtain ⟨k', e1, e2⟩ := Option.map_eq_some_iff.mp h1
      cases con_inj e2
      obtain ⟨u, m1, m2⟩ := g.gl.glo _ _ e1
      exact s_con (con_rep k) (pe_glob (g.glob h2) m1 m2 h3)
    · cases h
  | .var i, K, X, W, ex, g, h => by
    simp only [ckE] at h
    split at h
    · try simp only [Bool.and_eq_true, decide_eq_true_eq, Bool.not_eq_true'] at h
      have h1 := h
      exact s_var (g.vis h1)
    · cases h
  | .bin op a b, K, X, W, ex, g, h => by
    simp only [ckE] at h
    split at h
    · try simp only [Bool.and_eq_true, decide_eq_true_eq, Bool.not_eq_true'] at h
      obtain ⟨⟨h1, h2⟩, h3⟩ := h
      subst h1
      exact s_bin g.k (soE a g h2) (soE b g h3)
    · cases h
  | .neg a, K, X, W, ex, g, h => by
    simp only [ckE] at h
    split at h
    · try simp only [Bool.and_eq_true, decide_eq_true_eq, Bool.not_eq_true'] at h
      obtain ⟨h1, h2⟩ := h
      subst h1
      exact s_neg (soE a g h2)
    · cases h
  | .not a, K, X, W, ex, g, h => by
    simp only [ckE] at h
    split at h
    · try simp only [Bool.and_eq_true, decide_eq_true_eq, Bool.not_eq_true'] at h
      obtain ⟨h1, h2⟩ := h
      subst h1
      exact s_not g.k (soE a g h2)
    · cases h
  | .cmp op a b, K, X, W, ex, g, h => by
    simp only [ckE] at h
    split at h
    · try simp only [Bool.and_eq_true, decide_eq_true_eq, Bool.not_eq_true'] at h
      obtain ⟨⟨⟨h1, h2⟩, h3⟩, h4⟩ := h
      subst h1
      exact s_cmp g.k g.un h2 (soE a g h3) (soE b g h4)
    · cases h
  | .chn op op2 a b e, K, X, W, ex, g, h => by
    simp only [ckE] at h
    split at h
    · try simp only [Bool.and_eq_true, decide_eq_true_eq, Bool.not_eq_true'] at h
      obtain ⟨⟨⟨⟨⟨h1, h2⟩, h3⟩, h4⟩, h5⟩, h6⟩ := h
      subst h1
      subst h2
      exact s_chain g.k g.un h3 (soE a g h4) (soE b g h5) (soE e g h6)
    · cases h
  | .ife t a b, K, X, W, ex, g, h => by
    simp only [ckE] at h
    split at h
    · try simp only [Bool.and_eq_true, decide_eq_true_eq, Bool.not_eq_true'] at h
      obtain ⟨⟨h1, h2⟩, h3⟩ := h
      exact s_ife (soB t g h1) (soE a g h2) (soE b g h3)
    · cases h
  | .and v, K, X, W, ex, g, h => by
    simp only [ckE] at h
    split at h
    · try simp only [Bool.and_eq_true, decide_eq_true_eq, Bool.not_eq_true'] at h
      obtain ⟨⟨h1, h2⟩, h3⟩ := h
      subst h1
      exact (soAnd v g h3).2 h2
    · cases h
  | .or v, K, X, W, ex, g, h => by
    simp only [ckE] at h
    split at h
    · try simp only [Bool.and_eq_true, decide_eq_true_eq, Bool.not_eq_true'] at h
      obtain ⟨⟨h1, h2⟩, h3⟩ := h
      subst h1
      exact (soOr v g h3).2 h2
    · cases h
  | .tup es, K, X, W, ex, g, h => by
    simp only [ckE] at h
    split at h
    · try simp only [Bool.and_eq_true, decide_eq_true_eq, Bool.not_eq_true'] at h
      obtain ⟨h1, h2⟩ := h
      exact s_tup (fun ρ ds ρ' q => by rw [evA_len es _ _ _ _ _ h2 q]; have : LN = 16777216 := rfl; omega) (soA es g h2)
    · cases h
  | .fr f, K, X, W, ex, g, h => by
    simp only [ckE] at h
    exact s_fr (soF f g h)
  | .ix a b, K, X, W, ex, g, h => by
    simp only [ckE] at h
    split at h
    · try simp only [Bool.and_eq_true, decide_eq_true_eq, Bool.not_eq_true'] at h
      obtain ⟨⟨h1, h2⟩, h3⟩ := h
      exact s_ix g.k g.un h1 (soE a g h2) (soE b g h3)
    · cases h
  | .ixV i b, K, X, W, ex, g, h => by
    simp only [ckE] at h
    split at h
    · try simp only [Bool.and_eq_true, decide_eq_true_eq, Bool.not_eq_true'] at h
      obtain ⟨⟨h1, h2⟩, h3⟩ := h
      exact s_ixV g.k g.un h1 (g.vis h2) (soE b g h3)
    · cases h
  | .sl a lo hi, K, X, W, ex, g, h => by
    simp only [ckE] at h
    split at h
    · try simp only [Bool.and_eq_true, decide_eq_true_eq, Bool.not_eq_true'] at h
      obtain ⟨⟨h1, h2⟩, h3⟩ := h
      exact s_slice g.k (soE a g h1) (soO lo g h2) (soO hi g h3)
    · cases h
  | .slV i lo hi, K, X, W, ex, g, h => by
    simp only [ckE] at h
    split at h
    · try simp only [Bool.and_eq_true, decide_eq_true_eq, Bool.not_eq_true'] at h
      obtain ⟨⟨h1, h2⟩, h3⟩ := h
      exact s_sliceV g.k (g.vis h1) (soO lo g h2) (soO hi g h3)
    · cases h
  | .b1 f a, K, X, W, ex, g, h => by
    simp only [ckE] at h
    split at h
    · try simp only [Bool.and_eq_true, decide_eq_true_eq, Bool.not_eq_true'] at h
      obtain ⟨⟨⟨h1, h2⟩, h3⟩, h4⟩ := h
      subst h1
      exact s_b1 f g.k g.calm (g.glob h2) (g.freeB (b1_mem f)) h3 (soL a g h4)
    · cases h
  | .b2 f a b, K, X, W, ex, g, h => by
    simp only [ckE] at h
    split at h
    · try simp only [Bool.and_eq_true, decide_eq_true_eq, Bool.not_eq_true'] at h
      obtain ⟨⟨⟨⟨⟨h1, h2⟩, h3⟩, h4⟩, h5⟩, h6⟩ := h
      subst h1
      exact s_b2 f g.calm (g.glob h2) (g.freeB (b2_mem f)) h3 h4 (soE a g h5) (soE b g h6)
    · cases h
  | .isi t a, K, X, W, ex, g, h => by
    simp only [ckE] at h
    split at h
    · try simp only [Bool.and_eq_true, decide_eq_true_eq, Bool.not_eq_true'] at h
      obtain ⟨⟨⟨⟨⟨h1, h2⟩, h3⟩, h4⟩, h5⟩, h6⟩ := h
      subst h1
      subst h3
      exact s_isi t g.k (g.glob h2) (g.freeB (by decide)) (g.glob h4) (g.freeB (ty_mem t)) h5 (soL a g h6)
    · cases h
  | .call k n' es, K, X, W, ex, g, h => by
    simp only [ckE] at h
    split at h
    · try simp only [Bool.and_eq_true, decide_eq_true_eq, Bool.not_eq_true'] at h
      obtain ⟨⟨h1, h2⟩, h3⟩ := h
      unfold Ck.fnC at h1
      simp only [Bool.and_eq_true, decide_eq_true_eq, Bool.not_eq_true'] at h1
      obtain ⟨⟨f1, f2⟩, f3⟩ := h1
      obtain ⟨f, fd, ps, rfl, F, m, kp, bd⟩ := g.gl.dD _ _ _ f1
      exact s_call F g.rm (g.glob f2) m kp bd g.tk f3 h2 (soA es g h3)
    · cases h
  | .callM k n' i es, K, X, W, ex, g, h => by
    simp only [ckE] at h
    split at h
    · try simp only [Bool.and_eq_true, decide_eq_true_eq, Bool.not_eq_true'] at h
      obtain ⟨⟨⟨h1, h2⟩, h3⟩, h4⟩ := h
      unfold Ck.fnC at h1
      simp only [Bool.and_eq_true, decide_eq_true_eq, Bool.not_eq_true'] at h1
      obtain ⟨⟨f1, f2⟩, f3⟩ := h1
      obtain ⟨f, fd, ps, rfl, F, m, kp, bd⟩ := g.gl.dM _ _ _ f1
      exact s_callM F g.rm (g.glob f2) m kp bd g.tk f3 h3 (g.vis h2) (soA es g h4)
    · cases h
  | .callX ks m ix es, K, X, W, ex, g, h => by
    simp only [ckE] at h
    split at h
    · try simp only [Bool.and_eq_true, decide_eq_true_eq, Bool.not_eq_true'] at h
      obtain ⟨⟨⟨⟨⟨h1, h2⟩, h3⟩, h4⟩, h5⟩, h6⟩ := h
      obtain ⟨q1, q2⟩ := fns_sound g h3
      exact s_callX g.k q2 g.rm g.un g.tk h1 h2 q1 (soE ix g h4) h5 (soA es g h6)
    · cases h
  | .pop i, K, X, W, ex, g, h => by
    simp only [ckE] at h
    split at h
    · try simp only [Bool.and_eq_true, decide_eq_true_eq, Bool.not_eq_true'] at h
      obtain ⟨⟨h1, h2⟩, h3⟩ := h
      subst h1
      exact s_pop (g.vis h2) h3
    · cases h
  | .popAt i e, K, X, W, ex, g, h => by
    simp only [ckE] at h
    split at h
    · try simp only [Bool.and_eq_true, decide_eq_true_eq, Bool.not_eq_true'] at h
      obtain ⟨⟨⟨⟨h1, h2⟩, h3⟩, h4⟩, h5⟩ := h
      subst h1
      exact s_popAt (g.vis h2) h3 h4 (soE e g h5)
    · cases h
  | .isin neg a l, K, X, W, ex, g, h => by
    simp only [ckE] at h
    split at h
    · try simp only [Bool.and_eq_true, decide_eq_true_eq, Bool.not_eq_true'] at h
      obtain ⟨⟨⟨h1, h2⟩, h3⟩, h4⟩ := h
      exact s_isin h1 g.k g.un h2 (soE a g h3) (soL l g h4)
    · cases h
  | .cmpV op i b, K, X, W, ex, g, h => by
    simp only [ckE] at h
    split at h
    · try simp only [Bool.and_eq_true, decide_eq_true_eq, Bool.not_eq_true'] at h
      obtain ⟨⟨⟨h1, h2⟩, h3⟩, h4⟩ := h
      subst h1
      exact s_cmpV g.k g.un h2 (g.vis h3) (soE b g h4)
    · cases h
  | .callMO k i j, K, X, W, ex, g, h => by
    simp only [ckE] at h
    split at h
    · try simp only [Bool.and_eq_true, decide_eq_true_eq, Bool.not_eq_true'] at h
      obtain ⟨⟨h1, h2⟩, h3⟩ := h
      unfold Ck.fnC at h1
      simp only [Bool.and_eq_true, decide_eq_true_eq, Bool.not_eq_true'] at h1
      obtain ⟨⟨f1, f2⟩, f3⟩ := h1
      obtain ⟨f, fd, ps, hp, F, m, kp, bd⟩ := g.gl.dM _ _ _ f1
      exact s_callMO F g.rm (g.glob f2) m kp bd g.tk f3 hp (g.vis h2) (g.vis h3)
    · cases h
  | .frD gm, K, X, W, ex, g, h => by
    simp only [ckE] at h
    exact s_frD (fun ρ b ρ' q => evG_nb gm ρ b ρ' q) (soG gm g h)
theorem soL : ∀ (e : L) {K : Ck} {X : Cx} {W : WX} {ex : Expr} (g : Good K c G n X W), ckL e K ex = true → PE X ex (tL c W (evL G e))
  | .lk i, K, X, W, ex, g, h => by
    simp only [ckL] at h
    split at h
    · try simp only [Bool.and_eq_true, decide_eq_true_eq, Bool.not_eq_true'] at h
      have h1 := h
      exact s_varL (g.vis h1)
    · cases h
  | .vl e, K, X, W, ex, g, h => by
    simp only [ckL] at h
    exact s_toL (soE e g h)
theorem soAnd : ∀ (v : Vs) {K : Ck} {X : Cx} {W : WX} {es : List Expr} {pos : Pos} (g : Good K c G n X W), ckVs v K es = true → (∀ x, es = [x] → PE X x (tE c W (evAnd G v))) ∧ (2 ≤ es.length → PE X (.BoolOp .And es pos) (tE c W (evAnd G v)))
  | .one e, K, X, W, es, pos, g, h => by
    simp only [ckVs] at h
    split at h
    · exact ⟨fun x q => by cases q; exact soE e g h, fun q => by simp at q⟩
    · cases h
  | .more e v, K, X, W, es, pos, g, h => by
    simp only [ckVs] at h
    split at h
    · rename_i x y r
      simp only [Bool.and_eq_true] at h
      refine ⟨fun x q => by simp at q, fun _ => s_and g.k (soE e g h.1) ?_⟩
      have q := soAnd v (pos := pos) g h.2
      cases r with
      | nil => exact s_andE1 (q.1 y rfl)
      | cons z r => exact q.2 (by simp)
    · cases h
theorem soOr : ∀ (v : Vs) {K : Ck} {X : Cx} {W : WX} {es : List Expr} {pos : Pos} (g : Good K c G n X W), ckVs v K es = true → (∀ x, es = [x] → PE X x (tE c W (evOr G v))) ∧ (2 ≤ es.length → PE X (.BoolOp .Or es pos) (tE c W (evOr G v)))
  | .one e, K, X, W, es, pos, g, h => by
    simp only [ckVs] at h
    split at h
    · exact ⟨fun x q => by cases q; exact soE e g h, fun q => by simp at q⟩
    · cases h
  | .more e v, K, X, W, es, pos, g, h => by
    simp only [ckVs] at h
    split at h
    · rename_i x y r
      simp only [Bool.and_eq_true] at h
      refine ⟨fun x q => by simp at q, fun _ => s_or g.k (soE e g h.1) ?_⟩
      have q := soOr v (pos := pos) g h.2
      cases r with
      | nil => exact s_orE1 (q.1 y rfl)
      | cons z r => exact q.2 (by simp)
    · cases h
theorem soB : ∀ (e : B) {K : Ck} {X : Cx} {W : WX} {ex : Expr} (g : Good K c G n X W), ckB e K ex = true → PT X ex (tT c W (evB G e))
  | .cmp op a b, K, X, W, ex, g, h => by
    simp only [ckB] at h
    split at h
    · try simp only [Bool.and_eq_true, decide_eq_true_eq, Bool.not_eq_true'] at h
      obtain ⟨⟨⟨h1, h2⟩, h3⟩, h4⟩ := h
      subst h1
      exact s_cmpT g.k g.un h2 (soE a g h3) (soE b g h4)
    · cases h
  | .chn op op2 a b e, K, X, W, ex, g, h => by
    simp only [ckB] at h
    split at h
    · try simp only [Bool.and_eq_true, decide_eq_true_eq, Bool.not_eq_true'] at h
      obtain ⟨⟨⟨⟨⟨h1, h2⟩, h3⟩, h4⟩, h5⟩, h6⟩ := h
      subst h1
      subst h2
      exact s_chainT g.k g.un h3 (soE a g h4) (soE b g h5) (soE e g h6)
    · cases h
  | .and w, K, X, W, ex, g, h => by
    simp only [ckB] at h
    split at h
    · try simp only [Bool.and_eq_true, decide_eq_true_eq, Bool.not_eq_true'] at h
      obtain ⟨h1, h2⟩ := h
      subst h1
      exact (soWA w g h2).pt
    · cases h
  | .or w, K, X, W, ex, g, h => by
    simp only [ckB] at h
    split at h
    · try simp only [Bool.and_eq_true, decide_eq_true_eq, Bool.not_eq_true'] at h
      obtain ⟨h1, h2⟩ := h
      subst h1
      exact (soWO w g h2).pt
    · cases h
  | .not b, K, X, W, ex, g, h => by
    simp only [ckB] at h
    split at h
    · try simp only [Bool.and_eq_true, decide_eq_true_eq, Bool.not_eq_true'] at h
      obtain ⟨h1, h2⟩ := h
      subst h1
      exact s_notT (soB b g h2)
    · cases h
  | .tr a, K, X, W, ex, g, h => by
    simp only [ckB, Bool.and_eq_true] at h
    exact s_truth g.k (plainT_ok h.1 _) (soL a g h.2)
  | .isin neg a l, K, X, W, ex, g, h => by
    simp only [ckB] at h
    split at h
    · try simp only [Bool.and_eq_true, decide_eq_true_eq, Bool.not_eq_true'] at h
      obtain ⟨⟨⟨h1, h2⟩, h3⟩, h4⟩ := h
      exact s_isinT h1 g.k g.un h2 (soE a g h3) (soL l g h4)
    · cases h
  | .cmpV op i b, K, X, W, ex, g, h => by
    simp only [ckB] at h
    split at h
    · try simp only [Bool.and_eq_true, decide_eq_true_eq, Bool.not_eq_true'] at h
      obtain ⟨⟨⟨h1, h2⟩, h3⟩, h4⟩ := h
      subst h1
      exact s_cmpVT g.k g.un h2 (g.vis h3) (soE b g h4)
    · cases h
theorem soWA : ∀ (v : Ws) {K : Ck} {X : Cx} {W : WX} {es : List Expr} {pos : Pos} (g : Good K c G n X W), ckWs v K es = true → PW X (.BoolOp .And es pos) (tT c W (evWA G v))
  | .one e, K, X, W, es, pos, g, h => by
    simp only [ckWs] at h
    split at h
    · exact s_and1 (soB e g h)
    · cases h
  | .more e v, K, X, W, es, pos, g, h => by
    simp only [ckWs] at h
    split at h
    · simp only [Bool.and_eq_true] at h
      exact s_andT (soB e g h.1) (soWA v g h.2)
    · cases h
theorem soWO : ∀ (v : Ws) {K : Ck} {X : Cx} {W : WX} {es : List Expr} {pos : Pos} (g : Good K c G n X W), ckWs v K es = true → PW X (.BoolOp .Or es pos) (tT c W (evWO G v))
  | .one e, K, X, W, es, pos, g, h => by
    simp only [ckWs] at h
    split at h
    · exact s_or1 (soB e g h)
    · cases h
  | .more e v, K, X, W, es, pos, g, h => by
    simp only [ckWs] at h
    split at h
    · simp only [Bool.and_eq_true] at h
      exact s_orT (soB e g h.1) (soWO v g h.2)
    · cases h
theorem soO : ∀ (e : O) {K : Ck} {X : Cx} {W : WX} {o : Option Expr} (g : Good K c G n X W), ckO e K o = true → PPart X c W o (evO G e)
  | .no, K, X, W, o, g, h => by
    simp only [ckO] at h
    split at h
    · exact s_pnone
    · cases h
  | .so e, K, X, W, o, g, h => by
    simp only [ckO] at h
    split at h
    · exact s_psome (soE e g h)
    · cases h
theorem soA : ∀ (e : A) {K : Ck} {X : Cx} {W : WX} {es : List Expr} (g : Good K c G n X W), ckA e K es = true → PA X es (tA c W (evA G e))
  | .nil, K, X, W, es, g, h => by
    simp only [ckA] at h
    split at h
    · exact s_nil
    · cases h
  | .cons e r, K, X, W, es, g, h => by
    simp only [ckA] at h
    split at h
    · simp only [Bool.and_eq_true] at h
      exact s_cons h.1.1 (soE e g h.1.2) (soA r g h.2)
    · cases h
theorem soF : ∀ (e : F) {K : Ck} {X : Cx} {W : WX} {ex : Expr} (g : Good K c G n X W), ckF e K ex = true → PE X ex (tF c W (evF G e))
  | .lst es, K, X, W, ex, g, h => by
    simp only [ckF] at h
    split at h
    · try simp only [Bool.and_eq_true, decide_eq_true_eq, Bool.not_eq_true'] at h
      obtain ⟨h1, h2⟩ := h
      exact s_lst (fun ρ ds ρ' q => by rw [evA_len es _ _ _ _ _ h2 q]; have : LN = 16777216 := rfl; omega) (soA es g h2)
    · cases h
  | .listOf a, K, X, W, ex, g, h => by
    simp only [ckF] at h
    split at h
    · try simp only [Bool.and_eq_true, decide_eq_true_eq, Bool.not_eq_true'] at h
      obtain ⟨⟨⟨h1, h2⟩, h3⟩, h4⟩ := h
      subst h1
      exact s_listOf g.k (g.glob h2) (g.freeB (by decide)) h3 (soL a g h4)
    · cases h
  | .listRev a, K, X, W, ex, g, h => by
    simp only [ckF] at h
    split at h
    · try simp only [Bool.and_eq_true, decide_eq_true_eq, Bool.not_eq_true'] at h
      obtain ⟨⟨⟨⟨⟨h1, h2⟩, h3⟩, h4⟩, h5⟩, h6⟩ := h
      subst h1
      subst h3
      exact s_listRev g.k g.calm (g.glob h2) (g.freeB (by decide)) (g.glob h4) (g.freeB (by decide)) h5 (soL a g h6)
    · cases h
  | .rg1 a, K, X, W, ex, g, h => by
    simp only [ckF] at h
    split at h
    · try simp only [Bool.and_eq_true, decide_eq_true_eq, Bool.not_eq_true'] at h
      obtain ⟨⟨⟨⟨⟨h1, h2⟩, h3⟩, h4⟩, h5⟩, h6⟩ := h
      subst h1
      subst h3
      exact s_listRg1 g.calm (g.glob h2) (g.freeB (by decide)) (g.glob h4) (g.freeB (by decide)) h5 (soE a g h6)
    · cases h
  | .rg2 a b, K, X, W, ex, g, h => by
    simp only [ckF] at h
    split at h
    · try simp only [Bool.and_eq_true, decide_eq_true_eq, Bool.not_eq_true'] at h
      obtain ⟨⟨⟨⟨⟨⟨⟨h1, h2⟩, h3⟩, h4⟩, h5⟩, h6⟩, h7⟩, h8⟩ := h
      subst h1
      subst h3
      exact s_listRg2 g.calm (g.glob h2) (g.freeB (by decide)) (g.glob h4) (g.freeB (by decide)) h5 h6 (soE a g h7) (soE b g h8)
    · cases h
  | .sorted a, K, X, W, ex, g, h => by
    simp only [ckF] at h
    split at h
    · try simp only [Bool.and_eq_true, decide_eq_true_eq, Bool.not_eq_true'] at h
      obtain ⟨⟨⟨h1, h2⟩, h3⟩, h4⟩ := h
      subst h1
      exact s_sorted g.k g.calm (g.glob h2) (g.freeB (by decide)) h3 (soL a g h4)
    · cases h
  | .cat a b, K, X, W, ex, g, h => by
    simp only [ckF] at h
    split at h
    · try simp only [Bool.and_eq_true, decide_eq_true_eq, Bool.not_eq_true'] at h
      obtain ⟨⟨h1, h2⟩, h3⟩ := h
      subst h1
      exact s_cat (soE a g h2) (soE b g h3)
    · cases h
  | .rep a b, K, X, W, ex, g, h => by
    simp only [ckF] at h
    split at h
    · try simp only [Bool.and_eq_true, decide_eq_true_eq, Bool.not_eq_true'] at h
      obtain ⟨⟨h1, h2⟩, h3⟩ := h
      subst h1
      exact s_rep (soE a g h2) (soE b g h3)
    · cases h
  | .comp tg it t e vs, K, X, W, ex, g, h => by
    simp only [ckF] at h
    split at h
    · rename_i elt tgx iter ifs asy scope pos
      simp only [Bool.and_eq_true, decide_eq_true_eq, Bool.not_eq_true'] at h
      obtain ⟨⟨⟨⟨⟨⟨⟨h1, h2⟩, h3⟩, h4⟩, h5⟩, h6⟩, h7⟩, h8⟩ := h
      subst h1
      have ok := blkOk_by h2
      have e0 : (ownOf K.N vs).map (·.2) = vs := ownOf_snd _ _
      have q := s_comp (X := X) (pos := pos) (c := c) (W := W) (T := tg) (fi := fun ρ => (evI G it ρ).bind few) (ft := evC G t) (fe := evE G e) (own := ownOf K.N vs) g.calm g.nd (i_few (soI it g h5)) (by rw [g.N, g.sc]; exact ok) (by
        rw [e0]
        intro i hi
        have := List.all_eq_true.mp h3 i hi
        simpa using this)
        (fun s H C cl fp => tg_sound (c := c) (K := K) (X := X.blk s H _ (compEnvC _ cl C X.env) fp) g.k g.calm (fun i x pos hx => by
          have hb := g.loB (s := s) (H := H) (C := C) (cl := cl) (fp := fp) hx
          exact pg_name (X := X.blk s H _ (compEnvC _ cl C X.env) fp) g.nd hb.1 hb.2.1 hb.2.2) h6)
        (fun s H C cl fp => soC t (g.blk s H _ C cl fp) h7) (fun s H C cl fp => soE e (g.blk s H _ C cl fp) h8) (noFold h4)
      rw [e0] at q
      exact q
    · cases h
  | .call k n' es, K, X, W, ex, g, h => by
    simp only [ckF] at h
    split at h
    · try simp only [Bool.and_eq_true, decide_eq_true_eq, Bool.not_eq_true'] at h
      obtain ⟨⟨h1, h2⟩, h3⟩ := h
      unfold Ck.fnC at h1
      simp only [Bool.and_eq_true, decide_eq_true_eq, Bool.not_eq_true'] at h1
      obtain ⟨⟨f1, f2⟩, f3⟩ := h1
      obtain ⟨f, fd, ps, rfl, F, m, kp, bd⟩ := g.gl.dF _ _ _ f1
      exact s_callF F g.rm (g.glob f2) m kp bd g.tk f3 h2 (soA es g h3)
    · cases h
  | .mov i, K, X, W, ex, g, h => by
    simp only [ckF] at h
    split at h
    · try simp only [Bool.and_eq_true, decide_eq_true_eq, Bool.not_eq_true'] at h
      have h1 := h
      exact s_mov (g.vis h1)
    · cases h
  | .lstS es, K, X, W, ex, g, h => by
    simp only [ckF] at h
    split at h
    · skip
      exact s_lstS (soAs es g h)
    · cases h
theorem soAs : ∀ (e : As) {K : Ck} {X : Cx} {W : WX} {es : List Expr} (g : Good K c G n X W), ckAs e K es = true → PA X es (tA c W (evAs G e))
  | .nil, K, X, W, es, g, h => by
    simp only [ckAs] at h
    split at h
    · exact s_nil
    · cases h
  | .cons e r, K, X, W, es, g, h => by
    simp only [ckAs] at h
    split at h
    · simp only [Bool.and_eq_true] at h
      exact s_cons h.1.1 (soE e g h.1.2) (soAs r g h.2)
    · cases h
  | .star e r, K, X, W, es, g, h => by
    simp only [ckAs] at h
    split at h
    · simp only [Bool.and_eq_true] at h
      exact s_starP g.k (soE e g h.1) (soAs r g h.2)
    · cases h
theorem soG : ∀ (e : Gm) {K : Ck} {X : Cx} {W : WX} {ex : Expr} (g : Good K c G n X W), ckG e K ex = true → PE X ex (tO c W (evG G e))
  | .new t, K, X, W, ex, g, h => by
    simp only [ckG] at h
    split at h
    · exact s_newD
    · cases h
  | .comp isT tg it t ek ev vs, K, X, W, ex, g, h => by
    simp only [ckG] at h
    split at h
    · rename_i kx vx tgx iter ifs asy scope pos
      simp only [Bool.and_eq_true, decide_eq_true_eq, Bool.not_eq_true'] at h
      obtain ⟨⟨⟨⟨⟨⟨⟨⟨h1, h2⟩, h3⟩, h4⟩, h5⟩, h6⟩, h7⟩, h8⟩, h9⟩ := h
      subst h1
      have ok := blkOk_by h2
      have e0 : (ownOf K.N vs).map (·.2) = vs := ownOf_snd _ _
      have q := s_dcomp (X := X) (pos := pos) (c := c) (W := W) (T := tg) (isT := isT) (fi := evI G it) (ft := evC G t) (fk := evE G ek) (fv := evE G ev) (own := ownOf K.N vs) g.calm g.un g.nd (soI it g h5) (by rw [g.N, g.sc]; exact ok) (by
        rw [e0]
        intro i hi
        have := List.all_eq_true.mp h3 i hi
        simpa using this)
        (fun s H C cl fp => tg_sound (c := c) (K := K) (X := X.blk s H _ (compEnvC _ cl C X.env) fp) g.k g.calm (fun i x pos hx => by
          have hb := g.loB (s := s) (H := H) (C := C) (cl := cl) (fp := fp) hx
          exact pg_name (X := X.blk s H _ (compEnvC _ cl C X.env) fp) g.nd hb.1 hb.2.1 hb.2.2) h6)
        (fun s H C cl fp => soC t (g.blk s H _ C cl fp) h7) (fun s H C cl fp => soE ek (g.blk s H _ C cl fp) h8) (fun s H C cl fp => soE ev (g.blk s H _ C cl fp) h9) (noFold h4)
      rw [e0] at q
      exact q
    · cases h
theorem soC : ∀ (e : Cd) {K : Ck} {X : Cx} {W : WX} {es : List Expr} (g : Good K c G n X W), ckC e K es = true → PTs X es (tT c W (evC G e))
  | .no, K, X, W, es, g, h => by
    simp only [ckC] at h
    split at h
    · exact s_noifs
    · cases h
  | .one e, K, X, W, es, g, h => by
    simp only [ckC] at h
    split at h
    · exact s_oneif (soB e g h)
    · cases h
theorem soI : ∀ (e : I) {K : Ck} {X : Cx} {W : WX} {tg ex : Expr} (g : Good K c G n X W), ckI e K tg ex = true → PI X tg ex (tI c W (evI G e))
  | .sq a, K, X, W, tg, ex, g, h => by
    simp only [ckI] at h
    exact i_ofJ (i_seq g.k (soE a g h))
  | .r1 a, K, X, W, tg, ex, g, h => by
    simp only [ckI] at h
    split at h
    · try simp only [Bool.and_eq_true, decide_eq_true_eq, Bool.not_eq_true'] at h
      obtain ⟨⟨⟨h1, h2⟩, h3⟩, h4⟩ := h
      subst h1
      exact i_range1 (g.glob h2) (g.freeB (by decide)) h3 (soE a g h4)
    · cases h
  | .r2 a b, K, X, W, tg, ex, g, h => by
    simp only [ckI] at h
    split at h
    · try simp only [Bool.and_eq_true, decide_eq_true_eq, Bool.not_eq_true'] at h
      obtain ⟨⟨⟨⟨⟨h1, h2⟩, h3⟩, h4⟩, h5⟩, h6⟩ := h
      subst h1
      exact i_range2 (g.glob h2) (g.freeB (by decide)) h3 h4 (soE a g h5) (soE b g h6)
    · cases h
  | .r3 a b e, K, X, W, tg, ex, g, h => by
    simp only [ckI] at h
    split at h
    · try simp only [Bool.and_eq_true, decide_eq_true_eq, Bool.not_eq_true'] at h
      obtain ⟨⟨⟨⟨⟨⟨⟨h1, h2⟩, h3⟩, h4⟩, h5⟩, h6⟩, h7⟩, h8⟩ := h
      subst h1
      exact i_range3 (g.glob h2) (g.freeB (by decide)) h3 h4 h5 (soE a g h6) (soE b g h7) (soE e g h8)
    · cases h
  | .zip a b, K, X, W, tg, ex, g, h => by
    simp only [ckI] at h
    split at h
    · try simp only [Bool.and_eq_true, decide_eq_true_eq, Bool.not_eq_true'] at h
      obtain ⟨⟨⟨⟨⟨h1, h2⟩, h3⟩, h4⟩, h5⟩, h6⟩ := h
      subst h1
      exact i_ofJ (i_zip g.k (g.glob h2) (g.freeB (by decide)) h3 h4 (soE a g h5) (soE b g h6))
    · cases h
  | .enum a, K, X, W, tg, ex, g, h => by
    simp only [ckI] at h
    split at h
    · try simp only [Bool.and_eq_true, decide_eq_true_eq, Bool.not_eq_true'] at h
      obtain ⟨⟨⟨h1, h2⟩, h3⟩, h4⟩ := h
      subst h1
      exact i_ofJ (i_enum (g.glob h2) (g.freeB (by decide)) h3 (soE a g h4))
    · cases h
  | .rev a, K, X, W, tg, ex, g, h => by
    simp only [ckI] at h
    split at h
    · try simp only [Bool.and_eq_true, decide_eq_true_eq, Bool.not_eq_true'] at h
      obtain ⟨⟨⟨h1, h2⟩, h3⟩, h4⟩ := h
      subst h1
      exact i_ofJ (i_rev (g.glob h2) (g.freeB (by decide)) h3 (soE a g h4))
    · cases h
end
end
end Ev

end
section
set_option maxHeartbeats 4000000
namespace Ev
open PySem PySem.Spec PyProof.Rows L2

/-! ### stores that are swapped, or not -/
def isTupE : Expr → Bool
  | .Tuple .. => true
  | _ => false
theorem kindFn {env : Env} (h : env.scope.kind = .function) : env.blockKind = .function := by
  unfold Env.blockKind
  rw [h]; rfl
theorem sw_noTup {ts : List Expr} {kt : Nat} {pt : Pos} {e : Expr} {env : Env} (h : isTupE e = false) : swappedStores [.Tuple ts kt pt] e env = pure none := by
  cases e <;> first | rfl | (cases h; done)
def fold8 (vs : List Expr) : Bool := vs.all (foldedForSure 8)
def cons8 (vs : List Expr) : Bool := vs.all (constantsAlone 8)
theorem sw_two {x y : Str} {px py : Pos} {a b : Expr} {kt k2 : Nat} {pt pt2 : Pos} {env : Env} (hk : env.scope.kind = .function) (hx : env.scope.names.lookup x = some .local) (hy : env.scope.names.lookup y = some .local) (hl : (py.line == px.line) = true) (hxy : x ≠ y) (ha : noStar a = true) (hb : noStar b = true) (hf : fold8 [a, b] = false) (hc : cons8 [a, b] = false) :
    swappedStores [.Tuple [.Name x px, .Name y py] kt pt] (.Tuple [a, b] k2 pt2) env = pure (some [x, y]) := by
  have e1 : env.kindOf x = some .local := hx
  have e2 : env.kindOf y = some .local := hy
  have ed : [x, y].eraseDups = [x, y] := by
    have : (y == x) = false := by simpa using Ne.symm hxy
    simp [List.eraseDups_cons, this]
  unfold fold8 at hf
  unfold cons8 at hc
  unfold swappedStores
  simp only [List.length_cons, List.length_nil, kindFn hk, List.any_cons, List.any_nil, List.head?_cons, Option.map_some, Option.getD_some, List.filterMap_cons, List.filterMap_nil, e1, e2, Expr.pos, hl, hf, hc, ed]
  simp [ed]
  rintro (h | h)
  · cases a <;> first | (cases h; done) | cases ha
  · cases b <;> first | (cases h; done) | cases hb
theorem sw_three {x y z : Str} {px py pz : Pos} {a b c : Expr} {kt k2 : Nat} {pt pt2 : Pos} {env : Env} (hk : env.scope.kind = .function) (hx : env.scope.names.lookup x = some .local) (hy : env.scope.names.lookup y = some .local) (hz : env.scope.names.lookup z = some .local) (hl : (py.line == px.line) = true) (hl2 : (pz.line == px.line) = true)
    (hxy : x ≠ y) (hxz : x ≠ z) (hyz : y ≠ z) (ha : noStar a = true) (hb : noStar b = true) (hcs : noStar c = true) (hf : fold8 [a, b, c] = false) (hc : cons8 [a, b, c] = false) :
    swappedStores [.Tuple [.Name x px, .Name y py, .Name z pz] kt pt] (.Tuple [a, b, c] k2 pt2) env = pure (some [x, y, z]) := by
  have e1 : env.kindOf x = some .local := hx
  have e2 : env.kindOf y = some .local := hy
  have e3 : env.kindOf z = some .local := hz
  have ed : [x, y, z].eraseDups = [x, y, z] := by
    have h1 : (y == x) = false := by simpa using Ne.symm hxy
    have h2 : (z == x) = false := by simpa using Ne.symm hxz
    have h3 : (z == y) = false := by simpa using Ne.symm hyz
    simp [List.eraseDups_cons, h1, h2, h3]
  unfold fold8 at hf
  unfold cons8 at hc
  unfold swappedStores
  simp only [List.length_cons, List.length_nil, kindFn hk, List.any_cons, List.any_nil, List.head?_cons, Option.map_some, Option.getD_some, List.filterMap_cons, List.filterMap_nil, e1, e2, e3, Expr.pos, hl, hl2, hf, hc, ed]
  simp [ed]
  rintro (h | h | h)
  · cases a <;> first | (cases h; done) | cases ha
  · cases b <;> first | (cases h; done) | cases hb
  · cases c <;> first | (cases h; done) | cases hcs
/-- none are swapped: not two or three, or all folded, or a cell among the names -/
theorem sw_len {ts vs : List Expr} {kt k2 : Nat} {pt pt2 : Pos} {env : Env} (h : (ts.length == 2 || ts.length == 3) = false) : swappedStores [.Tuple ts kt pt] (.Tuple vs k2 pt2) env = pure none := by
  unfold swappedStores
  simp only [h]
  rfl
theorem sw_fold {ts vs : List Expr} {kt k2 : Nat} {pt pt2 : Pos} {env : Env} (h : fold8 vs = true) : swappedStores [.Tuple ts kt pt] (.Tuple vs k2 pt2) env = pure none := by
  unfold fold8 at h
  unfold swappedStores
  simp only [h]
  split
  · rfl
  · split
    · rfl
    · split <;> rfl
def cellAmong (sc : Scope) (ts : List Expr) : Bool := ts.any fun t => match t with | .Name x _ => !(decide (sc.names.lookup x = some .local)) | _ => true
def nmF (env : Env) (l : Nat) : Expr → Option Str
  | .Name id pos => if (env.kindOf id == some .local && pos.line == l) = true then some id else none
  | _ => none
theorem nmF_bad {env : Env} {l : Nat} {t : Expr} (h : (match t with | .Name x _ => !(decide (env.scope.names.lookup x = some .local)) | _ => true) = true) : nmF env l t = none := by
  cases t <;> try rfl
  rename_i x p
  simp only [Bool.not_eq_true', decide_eq_false_iff_not] at h
  have : (env.kindOf x == some NameKind.local) = false := by
    simp only [beq_eq_false_iff_ne]; exact h
  simp [nmF, this]
theorem nmF_len {env : Env} {l : Nat} {ts : List Expr} (h : cellAmong env.scope ts = true) : (ts.filterMap (nmF env l)).length ≠ ts.length := by
  unfold cellAmong at h
  have le : ∀ (us : List Expr), (us.filterMap (nmF env l)).length ≤ us.length := fun us => List.length_filterMap_le _ _
  induction ts with
  | nil => cases h
  | cons t ts ih =>
    rw [List.any_cons, Bool.or_eq_true] at h
    rw [List.filterMap_cons]
    have l1 := le ts
    rcases h with h | h
    · rw [nmF_bad h]
      simp only [List.length_cons]
      omega
    · have l2 := ih h
      split <;> simp only [List.length_cons] <;> omega
theorem sw_cell {ts vs : List Expr} {kt k2 : Nat} {pt pt2 : Pos} {env : Env} (h : cellAmong env.scope ts = true) : swappedStores [.Tuple ts kt pt] (.Tuple vs k2 pt2) env = pure none := by
  have hl := fun l => nmF_len (l := l) h
  unfold swappedStores
  dsimp only
  split
  · rfl
  · split
    · rfl
    · refine if_pos ?_
      rw [Bool.or_eq_true]
      refine .inl ?_
      rw [bne_iff_ne]
      exact hl _
def swapB (K : Ck) (scope : Scope) (x : Str) (l1 l2 : Nat) : Bool :=
  decide (K.sc.names.lookup x = some .local) && (l1 == l2) && !(scope.names.any fun q => q.1 == x && (q.2 == .local || q.2 == .cell))
theorem swapB_eq {K : Ck} {e : Expr} {g : List Comprehension} {scope : Scope} {x : Str} {cpos px : Pos} {l : Nat} {env : Env} (hk : env.scope.kind = .function) (hs : env.scope = K.sc) : swapsWith (.ListComp e g scope cpos) (some (.Name x px)) l env = pure (swapB K scope x px.line cpos.line) := by
  unfold swapsWith swapB
  simp only [kindFn hk]
  have : (env.kindOf x == some NameKind.local) = decide (K.sc.names.lookup x = some .local) := by
    unfold Env.kindOf
    rw [hs]
    rw [Bool.eq_iff_iff]; simp
  rw [this]
  rfl

theorem swapB_eqD {K : Ck} {kx vx : Expr} {g : List Comprehension} {scope : Scope} {x : Str} {cpos px : Pos} {l : Nat} {env : Env} (hk : env.scope.kind = .function) (hs : env.scope = K.sc) : swapsWith (.DictComp kx vx g scope cpos) (some (.Name x px)) l env = pure (swapB K scope x px.line cpos.line) := by
  unfold swapsWith swapB
  simp only [kindFn hk]
  have : (env.kindOf x == some NameKind.local) = decide (K.sc.names.lookup x = some .local) := by
    unfold Env.kindOf
    rw [hs]
    rw [Bool.eq_iff_iff]; simp
  rw [this]
  rfl

/-! ### statements -/
def isCompF : F → Bool
  | .comp .. => true
  | _ => false
def isCompG : Gm → Bool
  | .comp .. => true
  | _ => false
def ckP : P → Ck → List Expr → Bool
  | .nil, K, es => match es with | [] => true | _ => false
  | .cE e r, K, es => match es with | x :: xs => noStar x && ckE e K x && ckP r K xs | _ => false
  | .cF f r, K, es => match es with | x :: xs => noStar x && ckF f K x && ckP r K xs | _ => false
  | .cD g r, K, es => match es with | x :: xs => noStar x && ckG g K x && ckP r K xs | _ => false
def nameIs (x : Str) : Expr → Bool
  | .Name y _ => decide (y = x)
  | _ => false
def ckH : List (Nat × Con) → Ck → List ExceptHandler → Bool
  | [], _, hs => match hs with | [] => true | _ => false
  | q :: l, K, hs => match hs with
    | .ExceptHandler (some (.Name x _)) none [.Return (some (.Constant w _ _)) _] _ :: hds => decide (K.tb.cls[q.1]? = some x) && K.glC x && !(x == ("__debug__" : Str)) && decide (w = q.2.cst) && ckH l K hds
    | _ => false
mutual
def ckS : S → Ck → Stmt → Bool
  | .pass, K, st => match st with | .Pass _ => true | _ => false
  | .brk, K, st => match st with | .Break _ => true | _ => false
  | .cnt, K, st => match st with | .Continue _ => true | _ => false
  | .ret e, K, st => match st with | .Return (some x) _ => ckE e K x | _ => false
  | .retF f, K, st => match st with | .Return (some x) _ => ckF f K x | _ => false
  | .retN, K, st => match st with | .Return none _ => true | _ => false
  | .ife t a b, K, st => match st with | .If x p q _ => ckB t K x && ckSs a K p && ckSs b K q | _ => false
  | .asg i e, K, st => match st with | .Assign [.Name x _] y _ => K.locC i x && !isComp y && ckE e K y | _ => false
  | .asgF i f, K, st => match st with | .Assign [.Name x _] y _ => K.locC i x && (isComp y == isCompF f) && ckF f K y | _ => false
  | .own i f, K, st => match st with | .Assign [.Name x _] y _ => K.locC i x && (isComp y == isCompF f) && ckF f K y | _ => false
  | .asgT tg e, K, st => match st with | .Assign [x] y _ => tgC K.locC tg x && isTupE x && !isTupE y && ckE e K y | _ => false
  | .aug op i e, K, st => match st with | .AugAssign (.Name x _) op' y _ => decide (op' = op) && K.locC i x && ckE e K y | _ => false
  | .app i e, K, st => match st with | .Expr (.Call (.Attribute (.Name x _) m p2) [y] [] p3) _ => decide (m = "append") && K.visC i x && (p2.endLine == p3.line) && noStar y && ckE e K y | _ => false
  | .ext i e, K, st => match st with | .Expr (.Call (.Attribute (.Name x _) m p2) [y] [] p3) _ => decide (m = "extend") && K.visC i x && (p2.endLine == p3.line) && noStar y && ckE e K y | _ => false
  | .setI i b e, K, st => match st with | .Assign [.Subscript (.Name x _) z _] y _ => K.visC i x && plainSl z && !isComp y && !isTupE y && ckE b K z && ckE e K y | _ => false
  | .putI i b e, K, st => match st with | .Assign [.Subscript (.Name x _) z _] y _ => K.visC i x && !isComp y && ckE b K z && ckE e K y | _ => false
  | .ownD i g, K, st => match st with | .Assign [.Name x _] y _ => K.locC i x && (isComp y == isCompG g) && ckG g K y | _ => false
  | .for tg it b, K, st => match st with | .For x y p [] _ => !isSet y && ckI it K x y && tgC K.locC tg x && ckSs b K p | _ => false
  | .whl n t b, K, st => match st with | .While x p [] _ => ckB t K x && ckSs b K p | _ => false
  | .expr e, K, st => match st with | .Expr x _ => !isComp x && ckE e K x | _ => false
  | .doc, K, st => match st with | .Expr (.Constant (.str _) _ _) _ => true | _ => false
  | .rse k, K, st => match st with | .Raise (some (.Call (.Name x _) [.Constant (.str _) _ _] [] _)) none _ => decide (K.tb.cls[k]? = some x) && K.glC x && !(x == ("__debug__" : Str)) | _ => false
  | .par is p, K, st => match st with
    | .Assign [.Tuple ts _ _] (.Tuple vs _ _) _ => ckP p K vs && (match ts, vs, is with
      | [.Name x px, .Name y py], [a, b], [i, j] => (K.loc1 i x && K.loc1 j y && (py.line == px.line) && !(decide (x = y)) && noStar a && noStar b && !fold8 [a, b] && !cons8 [a, b])
      | [.Name x px, .Name y py, .Name z pz], [a, b, d], [i, j, l] => (K.loc1 i x && K.loc1 j y && K.loc1 l z && (py.line == px.line) && (pz.line == px.line) && !(decide (x = y)) && !(decide (x = z)) && !(decide (y = z)) && noStar a && noStar b && noStar d && !fold8 [a, b, d] && !cons8 [a, b, d])
      | _, _, _ => false)
      || ckP p K vs && tgsC K.locC is ts && decide (ts.length ≤ 1000) && (!(ts.length == 2 || ts.length == 3) || fold8 vs || cellAmong K.sc ts)
    | _ => false
  | .tri nC b hs, K, st => match st with | .Try body hds [] [] _ => decide (nC = K.tb.cls.length) && !hds.isEmpty && ckH hs K hds && ckSs b K body | _ => false
  | .trn nC i k j s0 s1 b, K, st => match st with
    | .Try body [.ExceptHandler (some (.Name x _)) (some n) [.Return (some (.Subscript (.List [.Constant (.str t0) _ _, .Constant (.str t1) _ _] _) (.Call (.Name z1 _) [.Call (.Name z2 _) [.Name n2 _, .Name y _] [] _] [] _) _)) _] _] [] [] _ =>
      decide (nC = K.tb.cls.length) && K.loc1 i n && decide (n2 = n) && !(n == ("__debug__" : Str)) && !(n == ("__classdict__" : Str)) && decide (z1 = "int") && K.glC z1 && decide (z2 = "isinstance") && K.glC z2 &&
        decide (K.tb.cls[k]? = some x) && K.glC x && !(x == ("__debug__" : Str)) && decide (K.tb.cls[j]? = some y) && K.glC y && !(y == ("__debug__" : Str)) && decide (t0 = s0) && decide (t1 = s1) && ckSs b K body
    | _ => false
def ckSs : Ss → Ck → List Stmt → Bool
  | .nil, K, st => match st with | [] => true | _ => false
  | .cons s r, K, st => match st with | x :: xs => ckS s K x && ckSs r K xs | _ => false
end
structure GoodS (K : Ck) (c : Cn) (G : Gs) (n : Nat) (X : Cx) (W : WX) : Prop extends Good K c G n X W where
  fn : ∀ x, X.fn x = true
  pass : PassesOwn (model X.prog X.w) X.A X.env X.xe
  kind : X.env.scope.kind = .function
  stk : X.stack = X.env :: X.outer
  frm : X.env.frame = some X.env.locals
section
variable {c : Cn} {G : Gs} {n : Nat} {K : Ck} {X : Cx} {W : WX}
theorem soP : ∀ (p : P) {es : List Expr} (g : Good K c G n X W), ckP p K es = true → PA X es (tP c W (evP G p))
  | .nil, es, g, h => by
    simp only [ckP] at h
    split at h
    · exact s_pnil
    · cases h
  | .cE e r, es, g, h => by
    simp only [ckP] at h
    split at h
    · simp only [Bool.and_eq_true] at h
      exact s_pcE h.1.1 (soE e g h.1.2) (soP r g h.2)
    · cases h
  | .cF f r, es, g, h => by
    simp only [ckP] at h
    split at h
    · simp only [Bool.and_eq_true] at h
      exact s_pcF h.1.1 (soF f g h.1.2) (soP r g h.2)
    · cases h
  | .cD f r, es, g, h => by
    simp only [ckP] at h
    split at h
    · simp only [Bool.and_eq_true] at h
      exact s_pcO h.1.1 (soG f g h.1.2) (soP r g h.2)
    · cases h
/-- y = {..} -/
theorem compG {i : Nat} {y : Str} {py p : Pos} {e : Expr} {f : Gm} (g : GoodS K c G n X W) (hl : K.locC i y = true) (hc : isComp e = true) (hf : isCompG f = true) (h : ckG f K e = true) :
    PS X (.Assign [.Name y py] e p) (tS c W fun ρ => (evG G f ρ).bind fun ds ρ1 => (R.lift (setO i ds ρ1) ρ1).bind fun ρ2 _ => .ok .nx ρ2) := by
  obtain ⟨hi, hx⟩ := g.loc hl
  have h0 := h
  cases f <;> try (cases hf; done)
  rename_i isT tg it t ek ev vs
  simp only [ckG] at h
  split at h
  · rename_i kx vx tgx iter ifs asy scope pos
    simp only [Bool.and_eq_true, decide_eq_true_eq, Bool.not_eq_true'] at h
    obtain ⟨⟨⟨⟨⟨⟨⟨⟨h1, h2⟩, h3⟩, h4⟩, h5⟩, h6⟩, h7⟩, h8⟩, h9⟩ := h
    subst h1
    have ok := blkOk_by h2
    have e0 : (ownOf K.N vs).map (·.2) = vs := ownOf_snd _ _
    have eq := swapB_eqD (kx := kx) (vx := vx) (g := [⟨tgx, iter, ifs, 0⟩]) (scope := scope) (x := y) (cpos := pos) (px := py) (l := p.line) g.kind g.sc
    cases hb : swapB K scope y py.line pos.line with
    | true =>
      rw [hb] at eq
      have hyl : X.env.scope.names.lookup y = some .local := by
        unfold swapB at hb
        simp only [Bool.and_eq_true, decide_eq_true_eq] at hb
        rw [g.sc]; exact hb.1.1
      have a1 : BlkOk X.N X.env.scope scope (ownOf K.N vs) := by rw [g.N, g.sc]; exact ok
      have a2 : ∀ i ∈ tg.slots, i ∈ (ownOf K.N vs).map (·.2) := by
        rw [e0]
        intro i hi
        have := List.all_eq_true.mp h3 i hi
        simpa using this
      have a3 : ∀ (s : Shared) (H : Hp) (C : Addr) (cl : List (Str × Addr)) (fp : List Addr), PG (X.blk s H scope (compEnvC scope cl C X.env) fp) tgx (tgT c tg) :=
        fun s H C cl fp => tg_sound (c := c) (K := K) (X := X.blk s H _ (compEnvC _ cl C X.env) fp) g.k g.calm (fun i x pos hx => by
          have hb := g.toGood.loB (s := s) (H := H) (C := C) (cl := cl) (fp := fp) hx
          exact pg_name (X := X.blk s H _ (compEnvC _ cl C X.env) fp) g.nd hb.1 hb.2.1 hb.2.2) h6
      have q1 := t_ownDc (isT := isT) (X := X) (c := c) (W := W) (pos := pos) (spos := p) (py := py) (T := tg) (fi := evI G it) (ft := evC G t) (fk := evE G ek) (fv := evE G ev) (own := ownOf K.N vs) g.calm g.un g.nd hi hyl eq (soI it g.toGood h5) a1 a2 a3
        (fun s H C cl fp => soC t (g.toGood.blk s H _ C cl fp) h7) (fun s H C cl fp => soE ek (g.toGood.blk s H _ C cl fp) h8) (fun s H C cl fp => soE ev (g.toGood.blk s H _ C cl fp) h9) (noFold h4)
      rw [e0] at q1
      exact q1
    | false =>
      rw [hb] at eq
      exact t_ownD g.nd hi hx (.inl (g.fn _)) eq (soG _ g.toGood h0)
  · cases h
/-- y = [..]: both ways -/
theorem compS {i : Nat} {y : Str} {py p : Pos} {e : Expr} {f : F} (g : GoodS K c G n X W) (hl : K.locC i y = true) (hc : isComp e = true) (hf : isCompF f = true) (h : ckF f K e = true) :
    PS X (.Assign [.Name y py] e p) (tS c W fun ρ => (evF G f ρ).bind fun ds ρ1 => (R.lift (setO i ds ρ1) ρ1).bind fun ρ2 _ => .ok .nx ρ2) ∧
    PS X (.Assign [.Name y py] e p) (tS c W fun ρ => (evF G f ρ).bind fun ds ρ1 => (R.lift (setV i (.lst ds) ρ1) ρ1).bind fun ρ2 _ => .ok .nx ρ2) := by
  obtain ⟨hi, hx⟩ := g.loc hl
  have h0 := h
  cases f <;> try (cases hf; done)
  rename_i tg it t ee vs
  simp only [ckF] at h
  split at h
  · rename_i elt tgx iter ifs asy scope pos
    simp only [Bool.and_eq_true, decide_eq_true_eq, Bool.not_eq_true'] at h
    obtain ⟨⟨⟨⟨⟨⟨⟨h1, h2⟩, h3⟩, h4⟩, h5⟩, h6⟩, h7⟩, h8⟩ := h
    subst h1
    have ok := blkOk_by h2
    have e0 : (ownOf K.N vs).map (·.2) = vs := ownOf_snd _ _
    have eq := swapB_eq (e := elt) (g := [⟨tgx, iter, ifs, 0⟩]) (scope := scope) (x := y) (cpos := pos) (px := py) (l := p.line) g.kind g.sc
    cases hb : swapB K scope y py.line pos.line with
    | true =>
      rw [hb] at eq
      have hyl : X.env.scope.names.lookup y = some .local := by
        unfold swapB at hb
        simp only [Bool.and_eq_true, decide_eq_true_eq] at hb
        rw [g.sc]; exact hb.1.1
      have a1 : BlkOk X.N X.env.scope scope (ownOf K.N vs) := by rw [g.N, g.sc]; exact ok
      have a2 : ∀ i ∈ tg.slots, i ∈ (ownOf K.N vs).map (·.2) := by
        rw [e0]
        intro i hi
        have := List.all_eq_true.mp h3 i hi
        simpa using this
      have a3 : ∀ (s : Shared) (H : Hp) (C : Addr) (cl : List (Str × Addr)) (fp : List Addr), PG (X.blk s H scope (compEnvC scope cl C X.env) fp) tgx (tgT c tg) :=
        fun s H C cl fp => tg_sound (c := c) (K := K) (X := X.blk s H _ (compEnvC _ cl C X.env) fp) g.k g.calm (fun i x pos hx => by
          have hb := g.toGood.loB (s := s) (H := H) (C := C) (cl := cl) (fp := fp) hx
          exact pg_name (X := X.blk s H _ (compEnvC _ cl C X.env) fp) g.nd hb.1 hb.2.1 hb.2.2) h6
      have q1 := t_ownLc (X := X) (c := c) (W := W) (pos := pos) (spos := p) (py := py) (T := tg) (fi := fun ρ => (evI G it ρ).bind few) (ft := evC G t) (fe := evE G ee) (own := ownOf K.N vs) g.calm g.nd hi hyl eq (i_few (soI it g.toGood h5)) a1 a2 a3
        (fun s H C cl fp => soC t (g.toGood.blk s H _ C cl fp) h7) (fun s H C cl fp => soE ee (g.toGood.blk s H _ C cl fp) h8) (noFold h4)
      have q2 := t_asgLc (X := X) (c := c) (W := W) (pos := pos) (spos := p) (py := py) (T := tg) (fi := fun ρ => (evI G it ρ).bind few) (ft := evC G t) (fe := evE G ee) (own := ownOf K.N vs) g.calm g.nd hi hyl eq (i_few (soI it g.toGood h5)) a1 a2 a3
        (fun s H C cl fp => soC t (g.toGood.blk s H _ C cl fp) h7) (fun s H C cl fp => soE ee (g.toGood.blk s H _ C cl fp) h8) (noFold h4)
      rw [e0] at q1 q2
      exact ⟨q1, q2⟩
    | false =>
      rw [hb] at eq
      have q0 := soF _ g.toGood h0
      refine ⟨t_own g.nd hi hx (.inl (g.fn _)) eq q0, ?_⟩
      refine ps_of (t_asgF g.nd hi hx (.inl (g.fn _)) eq (s_fr q0)) fun E σ H ⟨pin, Z, ρ, Hf, S, gg⟩ => ⟨pin, Z, ρ, Hf, S, ?_⟩
      dsimp only at gg ⊢
      cases hr : evF G (.comp tg it t ee vs) ρ <;> rw [hr] at gg <;> exact gg
  · cases h
theorem GoodS.tr (g : GoodS K c G n X W) {W' : WX} {pn : List (Addr × Obj)} {xe : Value → Shared → Prop} (tk : Takes (X.tr pn xe) W') (ps : PassesOwn (model X.prog X.w) X.A X.env xe) : GoodS K c G n (X.tr pn xe) W' :=
  ⟨⟨g.k, g.calm, g.nd, g.N, g.sc, g.rm, tk, g.gl⟩, g.fn, ps, g.kind, g.stk, g.frm⟩
theorem cls_lt {k : Nat} {x : Str} (h : K.tb.cls[k]? = some x) : k < K.tb.cls.length := (List.getElem?_eq_some_iff.mp h).1
theorem hds_sound (g : GoodS K c G n X W) : ∀ {l : List (Nat × Con)} {hds : List ExceptHandler}, ckH l K hds = true → Hds X c hds (l.map fun q => (q.1, q.2.v, q.2.d)) ∧ ∀ q ∈ l.map (fun q : Nat × Con => (q.1, q.2.v, q.2.d)), q.1 < K.tb.cls.length
  | [], hds, h => by
    simp only [ckH] at h
    split at h
    · exact ⟨.nil, fun q hq => by cases hq⟩
    · cases h
  | q :: l, hds, h => by
    simp only [ckH] at h
    split at h
    · simp only [Bool.and_eq_true, decide_eq_true_eq, Bool.not_eq_true'] at h
      obtain ⟨⟨⟨⟨h1, h2⟩, h3⟩, h4⟩, h5⟩ := h
      obtain ⟨i1, i2⟩ := hds_sound g h5
      obtain ⟨f1, _⟩ := g.gl.cls _ _ h1
      subst h4
      refine ⟨.cons ⟨g.glob h2, h3, .inl f1⟩ (fun Y => con_pe) (con_rep q.2) i1, fun r hr => ?_⟩
      rcases List.mem_cons.mp hr with rfl | hr
      · exact cls_lt h1
      · exact i2 r hr
    · cases h

mutual
theorem soS : ∀ (s : S) {X : Cx} {W : WX} {st : Stmt} (g : GoodS K c G n X W), ckS s K st = true → PS X st (tS c W (evS G s))
  | .pass, X, W, st, g, h => by
    simp only [ckS] at h
    split at h
    · skip
      exact t_pass
    · cases h
  | .brk, X, W, st, g, h => by
    simp only [ckS] at h
    split at h
    · skip
      exact t_break
    · cases h
  | .cnt, X, W, st, g, h => by
    simp only [ckS] at h
    split at h
    · skip
      exact t_cont
    · cases h
  | .ret e, X, W, st, g, h => by
    simp only [ckS] at h
    split at h
    · try simp only [Bool.and_eq_true, decide_eq_true_eq, Bool.not_eq_true'] at h
      have h1 := h
      exact t_ret (soE e g.toGood h1)
    · cases h
  | .retF f, X, W, st, g, h => by
    simp only [ckS] at h
    split at h
    · try simp only [Bool.and_eq_true, decide_eq_true_eq, Bool.not_eq_true'] at h
      have h1 := h
      exact t_retF (soF f g.toGood h1)
    · cases h
  | .retN, X, W, st, g, h => by
    simp only [ckS] at h
    split at h
    · skip
      exact t_retN
    · cases h
  | .ife t a b, X, W, st, g, h => by
    simp only [ckS] at h
    split at h
    · try simp only [Bool.and_eq_true, decide_eq_true_eq, Bool.not_eq_true'] at h
      obtain ⟨⟨h1, h2⟩, h3⟩ := h
      exact t_if (soB t g.toGood h1) (soSs a g h2) (soSs b g h3)
    · cases h
  | .asg i e, X, W, st, g, h => by
    simp only [ckS] at h
    split at h
    · try simp only [Bool.and_eq_true, decide_eq_true_eq, Bool.not_eq_true'] at h
      obtain ⟨⟨h1, h2⟩, h3⟩ := h
      obtain ⟨hi, hx⟩ := g.loc h1
      exact t_asg g.nd hi hx (.inl (g.fn _)) h2 (soE e g.toGood h3)
    · cases h
  | .asgF i f, X, W, st, g, h => by
    simp only [ckS] at h
    split at h
    · try simp only [Bool.and_eq_true, decide_eq_true_eq, Bool.not_eq_true'] at h
      obtain ⟨⟨h1, h2⟩, h3⟩ := h
      obtain ⟨hi, hx⟩ := g.loc h1
      rename_i x px y p
      cases hc : isComp y with
      | true => rw [hc] at h2; exact (compS g h1 hc (by simpa using h2) h3).2
      | false =>
        refine ps_of (t_asgF g.nd hi hx (.inl (g.fn _)) (noSwap hc) (s_fr (soF f g.toGood h3))) fun E σ H ⟨pin, Z, ρ, Hf, S, gg⟩ => ⟨pin, Z, ρ, Hf, S, ?_⟩
        simp only [evS] at gg
        dsimp only at gg ⊢
        cases hr : evF G f ρ <;> rw [hr] at gg <;> exact gg
    · cases h
  | .own i f, X, W, st, g, h => by
    simp only [ckS] at h
    split at h
    · try simp only [Bool.and_eq_true, decide_eq_true_eq, Bool.not_eq_true'] at h
      obtain ⟨⟨h1, h2⟩, h3⟩ := h
      obtain ⟨hi, hx⟩ := g.loc h1
      rename_i x px y p
      cases hc : isComp y with
      | true => rw [hc] at h2; exact (compS g h1 hc (by simpa using h2) h3).1
      | false => exact t_own g.nd hi hx (.inl (g.fn _)) (noSwap hc) (soF f g.toGood h3)
    · cases h
  | .asgT tg e, X, W, st, g, h => by
    simp only [ckS] at h
    split at h
    · try simp only [Bool.and_eq_true, decide_eq_true_eq, Bool.not_eq_true'] at h
      obtain ⟨⟨⟨h1, h2⟩, h3⟩, h4⟩ := h
      rename_i x y p
      cases x <;> try (cases h2; done)
      refine t_asgT (tg_sound (c := c) (K := K) g.k g.calm (fun i x pos hx => pg_name g.nd (g.loc hx).1 (g.loc hx).2 (.inl (g.fn _))) h1) ?_ (sw_noTup h3) rfl (soE e g.toGood h4)
      unfold swapsWithSole
      cases y <;> rfl
    · cases h
  | .aug op i e, X, W, st, g, h => by
    simp only [ckS] at h
    split at h
    · try simp only [Bool.and_eq_true, decide_eq_true_eq, Bool.not_eq_true'] at h
      obtain ⟨⟨h1, h2⟩, h3⟩ := h
      subst h1
      obtain ⟨hi, hx⟩ := g.loc h2
      exact t_aug g.nd hi hx (.inl (g.fn _)) (soE e g.toGood h3)
    · cases h
  | .app i e, X, W, st, g, h => by
    simp only [ckS] at h
    split at h
    · try simp only [Bool.and_eq_true, decide_eq_true_eq, Bool.not_eq_true'] at h
      obtain ⟨⟨⟨⟨h1, h2⟩, h3⟩, h4⟩, h5⟩ := h
      subst h1
      exact t_app (g.vis h2) h3 h4 (soE e g.toGood h5)
    · cases h
  | .ext i e, X, W, st, g, h => by
    simp only [ckS] at h
    split at h
    · try simp only [Bool.and_eq_true, decide_eq_true_eq, Bool.not_eq_true'] at h
      obtain ⟨⟨⟨⟨h1, h2⟩, h3⟩, h4⟩, h5⟩ := h
      subst h1
      exact t_ext (g.vis h2) h3 h4 (soE e g.toGood h5)
    · cases h
  | .setI i b e, X, W, st, g, h => by
    simp only [ckS] at h
    split at h
    · try simp only [Bool.and_eq_true, decide_eq_true_eq, Bool.not_eq_true'] at h
      obtain ⟨⟨⟨⟨⟨h1, h2⟩, h3⟩, h4⟩, h5⟩, h6⟩ := h
      rename_i x _ z _ y _
      refine t_setI (g.vis h1) h2 h3 ?_ (soE e g.toGood h6) (soE b g.toGood h5)
      cases y <;> first | rfl | (cases h4; done)
    · cases h
  | .putI i b e, X, W, st, g, h => by
    simp only [ckS] at h
    split at h
    · try simp only [Bool.and_eq_true, decide_eq_true_eq, Bool.not_eq_true'] at h
      obtain ⟨⟨⟨h1, h2⟩, h3⟩, h4⟩ := h
      exact t_put g.un (g.vis h1) (soE e g.toGood h4) (soE b g.toGood h3) (noSwap h2)
    · cases h
  | .ownD i f, X, W, st, g, h => by
    simp only [ckS] at h
    split at h
    · try simp only [Bool.and_eq_true, decide_eq_true_eq, Bool.not_eq_true'] at h
      obtain ⟨⟨h1, h2⟩, h3⟩ := h
      obtain ⟨hi, hx⟩ := g.loc h1
      rename_i x px y p
      cases hc : isComp y with
      | true => rw [hc] at h2; exact compG g h1 hc (by simpa using h2) h3
      | false => exact t_ownD g.nd hi hx (.inl (g.fn _)) (noSwap hc) (soG f g.toGood h3)
    · cases h
  | .for tg it b, X, W, st, g, h => by
    simp only [ckS] at h
    split at h
    · try simp only [Bool.and_eq_true, decide_eq_true_eq, Bool.not_eq_true'] at h
      obtain ⟨⟨⟨h1, h2⟩, h3⟩, h4⟩ := h
      exact t_for g.pass g.calm (soI it g.toGood h2) (tg_sound (c := c) (K := K) g.k g.calm (fun i x pos hx => pg_name g.nd (g.loc hx).1 (g.loc hx).2 (.inl (g.fn _))) h3) (soSs b g h4) (noFold h1)
    · cases h
  | .whl n t b, X, W, st, g, h => by
    simp only [ckS] at h
    split at h
    · try simp only [Bool.and_eq_true, decide_eq_true_eq, Bool.not_eq_true'] at h
      obtain ⟨h1, h2⟩ := h
      exact t_while g.pass (soB t g.toGood h1) (soSs b g h2)
    · cases h
  | .expr e, X, W, st, g, h => by
    simp only [ckS] at h
    split at h
    · try simp only [Bool.and_eq_true, decide_eq_true_eq, Bool.not_eq_true'] at h
      obtain ⟨h1, h2⟩ := h
      exact t_expr h1 (soE e g.toGood h2)
    · cases h
  | .doc, X, W, st, g, h => by
    simp only [ckS] at h
    split at h
    · skip
      exact t_doc
    · cases h
  | .rse k, X, W, st, g, h => by
    simp only [ckS] at h
    split at h
    · try simp only [Bool.and_eq_true, decide_eq_true_eq, Bool.not_eq_true'] at h
      obtain ⟨⟨h1, h2⟩, h3⟩ := h
      obtain ⟨f1, f2, f3, f4, f5⟩ := g.gl.cls _ _ h1
      exact t_raise g.calm g.tk f2 f1 f3 (raises_own f4 f5) (g.glob h2) h3
    · cases h
  | .par is p, X, W, st, g, h => by
    simp only [ckS] at h
    split at h
    · rename_i ts kt pt vs k2 pt2 pos
      rw [Bool.or_eq_true] at h
      rcases h with h | h
      · rw [Bool.and_eq_true] at h
        obtain ⟨hp, h⟩ := h
        split at h
        · simp only [Bool.and_eq_true, decide_eq_true_eq, decide_eq_false_iff_not, Bool.not_eq_true'] at h
          obtain ⟨⟨⟨⟨⟨⟨⟨h1, h2⟩, h3⟩, h4⟩, h5⟩, h6⟩, h7⟩, h8⟩ := h
          rename_i x px y py a b i j
          obtain ⟨i1, i2⟩ := g.lo1 h1
          obtain ⟨j1, j2⟩ := g.lo1 h2
          have hij : i ≠ j := fun z => by subst z; rw [i1] at j1; cases j1; exact h4 rfl
          exact t_par2 g.calm g.nd i1 j1 hij i2 j2 (soP p g.toGood hp) (sw_two g.kind i2 j2 h3 h4 h5 h6 h7 h8)
        · simp only [Bool.and_eq_true, decide_eq_true_eq, decide_eq_false_iff_not, Bool.not_eq_true'] at h
          obtain ⟨⟨⟨⟨⟨⟨⟨⟨⟨⟨⟨⟨h1, h2⟩, h3⟩, h4⟩, h5⟩, h6⟩, h7⟩, h8⟩, h9⟩, h10⟩, h11⟩, h12⟩, h13⟩ := h
          rename_i x px y py z pz a b d i j l
          obtain ⟨i1, i2⟩ := g.lo1 h1
          obtain ⟨j1, j2⟩ := g.lo1 h2
          obtain ⟨l1, l2⟩ := g.lo1 h3
          have hij : i ≠ j := fun q => by subst q; rw [i1] at j1; cases j1; exact h6 rfl
          have hil : i ≠ l := fun q => by subst q; rw [i1] at l1; cases l1; exact h7 rfl
          have hjl : j ≠ l := fun q => by subst q; rw [j1] at l1; cases l1; exact h8 rfl
          exact t_par3 g.calm g.nd i1 j1 l1 hij hil hjl i2 j2 l2 (soP p g.toGood hp) (sw_three g.kind i2 j2 l2 h4 h5 h6 h7 h8 h9 h10 h11 h12 h13)
        · cases h
      · simp only [Bool.and_eq_true, decide_eq_true_eq, Bool.or_eq_true] at h
        obtain ⟨⟨⟨hp, h1⟩, h2⟩, h3⟩ := h
        obtain ⟨p1, p2, p3⟩ := tgs_sound (K := K) (X := X) (fun i x pos hx => pg_name g.nd (g.loc hx).1 (g.loc hx).2 (.inl (g.fn _))) h1
        refine t_parG g.k h2 (g_tup g.k g.calm p3 p2 p1) (soP p g.toGood hp) (by rw [← p2]; exact h2) rfl ?_
        rcases h3 with (h3 | h3) | h3
        · exact sw_len (by simpa using h3)
        · exact sw_fold h3
        · exact sw_cell (by rw [g.sc]; exact h3)
    · cases h
  | .tri nC b hs, X, W, st, g, h => by
    simp only [ckS] at h
    split at h
    · rename_i body hds pos
      simp only [Bool.and_eq_true, decide_eq_true_eq, Bool.not_eq_true'] at h
      obtain ⟨⟨⟨h1, h2⟩, h3⟩, h4⟩ := h
      subst h1
      obtain ⟨i1, i2⟩ := hds_sound g h3
      cases hds with
      | nil => cases h2
      | cons h₀ hds =>
        have q := t_tri (pos := pos) g.k (by rw [← g.k]; exact g.gl.exc) g.stk g.frm g.tk (fun W' pn xe tk ps => soSs b (g.tr (W' := W') (pn := pn) (xe := xe) tk ps) h4) i1 i2
        rw [List.map_map] at q
        exact q
    · cases h
  | .trn nC i k j s0 s1 b, X, W, st, g, h => by
    simp only [ckS] at h
    split at h
    · simp only [Bool.and_eq_true, decide_eq_true_eq, Bool.not_eq_true'] at h
      obtain ⟨⟨⟨⟨⟨⟨⟨⟨⟨⟨⟨⟨⟨⟨⟨⟨⟨h1, h2⟩, h3⟩, h4⟩, h5⟩, h6⟩, h7⟩, h8⟩, h9⟩, h10⟩, h11⟩, h12⟩, h13⟩, h14⟩, h15⟩, h16⟩, h17⟩, h18⟩ := h
      subst h1 h3 h6 h8 h16 h17
      obtain ⟨i1, i2⟩ := g.lo1 h2
      obtain ⟨f1, _⟩ := g.gl.cls _ _ h10
      obtain ⟨f2, _⟩ := g.gl.cls _ _ h13
      exact t_trn g.k (by rw [← g.k]; exact g.gl.exc) (cls_lt h10) (cls_lt h13) g.stk g.frm g.nd i1 i2 h4 h5 (g.glob h7) (g.freeB (by decide)) (g.glob h9) (g.freeB (by decide)) (g.glob h14) f2 h15 (g.glob h11) f1 h12 g.tk (fun W' pn xe tk ps => soSs b (g.tr (W' := W') (pn := pn) (xe := xe) tk ps) h18)
    · cases h
theorem soSs : ∀ (s : Ss) {X : Cx} {W : WX} {st : List Stmt} (g : GoodS K c G n X W), ckSs s K st = true → PSs X st (tS c W (evSs G s))
  | .nil, X, W, st, g, h => by
    simp only [ckSs] at h
    split at h
    · exact t_nil
    · cases h
  | .cons s r, X, W, st, g, h => by
    simp only [ckSs] at h
    split at h
    · simp only [Bool.and_eq_true] at h
      exact t_cons (soS s g h.1) (soSs r g h.2)
    · cases h
end
end
end Ev

end
section
set_option maxHeartbeats 4000000
namespace Ev
open PySem PySem.Spec PyProof.Rows L2

/-! ### all defs of a text -/
structure Df where
  nm : Str
  kind : Nat
  N : List Str
  ar : Nat
  body : Ss
def gs (ds : List Df) : Nat → Gs
  | 0 => ⟨fun _ _ => .bad, fun _ _ _ => .bad, fun _ _ => .bad⟩
  | n + 1 => { dD := fun k xs => match ds[k]? with | some d => endD (evSs (gs ds n) d.body (startR false d.N.length xs)) | none => .bad
               dM := fun k xs ys => match ds[k]? with | some d => endM (evSs (gs ds n) d.body (startR true d.N.length (.lst xs :: ys))) | none => .bad
               dF := fun k xs => match ds[k]? with | some d => endF (evSs (gs ds n) d.body (startR false d.N.length xs)) | none => .bad }
def tbOf (ds : List Df) (cls : List Str) (glo : List (Str × Con)) : Tb := ⟨ds.map fun d => (d.nm, d.ar, d.kind), cls, glo⟩
def cnOf (K : PySem.W.Frag) (ds : List Df) (cls : List Str) : Cn := ⟨K, fun k => He.ga K ((ds[k]?.map Df.nm).getD ""), fun k => He.ga K (cls.getD k "")⟩
def gloFa (q : Str × Con) : He.Fa := match q.2 with
  | .int i => .int q.1 i
  | .str z => .str q.1 z
  | _ => .glo q.1
/-- the facts of the classes, as a test -/
def excB (cls : List Str) (K : PySem.W.Frag) : Bool :=
  (List.range cls.length).all fun x =>
    (decide (PySem.W.findIn K (.ref (He.ga K (cls.getD x ""))) "__getattribute__" = some (some (.builtin "BaseException.__getattribute__"))) && decide (PySem.W.findIn K (.ref (He.ga K (cls.getD x ""))) "__getattr__" = some none) &&
    decide (PySem.W.subIn K (.ref (He.ga K (cls.getD x ""))) (.type "BaseException") = some true) && PySem.W.hasDictIn K (He.ga K (cls.getD x "")) && decide (PySem.W.findIn K (.ref (He.ga K (cls.getD x ""))) "__class__" = some (some (.builtin "object.__class__"))) &&
    decide (PySem.W.specialIn K (.builtin "object.__class__") "__get__" = some (some (.builtin "getset_descriptor.__get__"))) && decide (PySem.W.takesIn K (.builtin "object.__class__") = some true) && decide (PySem.W.mroIn K (He.ga K (cls.getD x "")) (.type "object") = some true)) &&
    (List.range cls.length).all fun k => decide (PySem.W.exmOne K (.ref (He.ga K (cls.getD x ""))) (.ref (He.ga K (cls.getD k ""))) = some (subC x k)) && decide (PySem.W.kitOne K (.ref (He.ga K (cls.getD x ""))) (.ref (He.ga K (cls.getD k ""))) = some (subC x k))
theorem excF_of {K : PySem.W.Frag} {ds : List Df} {cls : List Str} (h : excB cls K = true) : ExcF K (cnOf K ds cls).C cls.length := by
  unfold excB at h
  rw [List.all_eq_true] at h
  have h1 : ∀ x, x < cls.length → _ := fun x hx => h x (List.mem_range.mpr hx)
  simp only [Bool.and_eq_true, decide_eq_true_eq, List.all_eq_true, List.mem_range] at h1
  refine ⟨fun x k hx hk => ((h1 x hx).2 k hk).1, fun x hx => ?_, fun x k hx hk => ((h1 x hx).2 k hk).2⟩
  obtain ⟨⟨⟨⟨⟨⟨⟨⟨a1, a2⟩, a3⟩, a4⟩, a5⟩, a6⟩, a7⟩, a8⟩, _⟩ := h1 x hx
  exact ⟨a1, a2, a3, a4, a5, a6, a7, a8⟩
/-! ### the hook: the facts, and a test more -/
def obsP (fa : List He.Fa) (fn : List He.DefD) (p : PySem.W.Frag → Bool) (K : PySem.W.Frag) : He.AlD × Bool := (He.obsD fa fn K, p K)
def obsPG (n : Nat) (fa : List He.Fa) (fn : List He.DefD) (p : PySem.W.Frag → Bool) (g : Addr → Option Obj) : He.AlD × Bool := obsP fa fn p (He.frG g (He.asD g n))
def hookP (n : Nat) (fa : List He.Fa) (fn : List He.DefD) (p : PySem.W.Frag → Bool) : PySem.W.Hook where
  α := He.AlD × Bool
  obs := fun s => obsPG n fa fn p s.heap.get?
  val := fun _ => (He.valD fn, true)
  says := fun _ h => ∃ K : PySem.W.Frag, K.In h ∧ He.SaysD fa fn K ∧ p K = true
  of := fun _ _ e => ⟨_, He.frG_in, congrArg (fun z : He.AlD × Bool => z.1) e, congrArg (fun z : He.AlD × Bool => z.2) e⟩
  keeps := fun _ _ _ ⟨K, hK, c⟩ k => ⟨K, PySem.W.Frag.In.keeps hK k, c⟩
theorem obsPG_eq {n : Nat} {fa : List He.Fa} {fn : List He.DefD} {p : PySem.W.Frag → Bool} {g : Addr → Option Obj} {s : Shared} (h : ∀ a, g a = s.heap.get? a) : obsPG n fa fn p g = (hookP n fa fn p).obs s := by
  have e : g = s.heap.get? := funext h
  rw [e] <;> rfl
def isIS : Con → Bool
  | .int _ => true
  | .str _ => true
  | _ => false
def faOf (ds : List Df) (cls : List Str) (glo : List (Str × Con)) : List He.Fa :=
  bN.map .free ++ (ds.map (fun d => .glo d.nm) ++ (cls.map .glo ++ (cls.map .exc ++ glo.map gloFa)))
def fsC (N P : List Str) (sc : Scope) : Bool :=
  decide (sc.kind = .function) && !sc.isCoroutine && !sc.isGenerator && decide N.Nodup && decide (N.take P.length = P) &&
    (P.all fun x => match sc.names.lookup x with | some .local => true | some .cell => true | _ => false) && sc.names.all fun y => match y.2 with | .free => false | _ => true
theorem fs_by {N P : List Str} {sc : Scope} (h : fsC N P sc = true) : FnScope N P sc := by
  unfold fsC at h
  simp only [Bool.and_eq_true, decide_eq_true_eq, Bool.not_eq_true', List.all_eq_true] at h
  obtain ⟨⟨⟨⟨⟨⟨h1, h2⟩, h3⟩, h4⟩, h5⟩, h6⟩, h7⟩ := h
  refine ⟨h1, h2, h3, h4, h5, fun x hx => ?_, fun y hy e => ?_⟩
  · have := h6 x hx
    split at this <;> first | exact .inl (by assumption) | exact .inr (by assumption) | cases this
  · have := h7 y hy
    rw [e] at this
    cases this
def dfC (tb : Tb) (q : He.DefD) (d : Df) : Bool :=
  decide (q.at_ = (d.nm, none)) && q.dfl.isEmpty && q.kwd.isEmpty && fsC d.N (d.N.take d.ar) q.scope && decide (d.ar ≤ d.N.length) && ckSs d.body ⟨tb, d.N, q.scope⟩ q.body
def BdOk (q : He.DefD) (d : Df) : Prop := ∀ (kV doc pm : Value) (an : Option Addr) (cdv ct : Value) (us : List Value), us.length = (d.N.take d.ar).length →
  bindArgs (PySem.W.fnOf q.name q.qual q.params q.body q.scope .none kV doc pm an cdv ct) ⟨us, []⟩ = pure ((d.N.take d.ar).zip us)
def AllOk (tb : Tb) : List He.DefD → List Df → Prop
  | [], [] => True
  | q :: qs, d :: ds => (dfC tb q d = true ∧ BdOk q d) ∧ AllOk tb qs ds
  | _, _ => False
theorem AllOk.get {tb : Tb} : ∀ {qs : List He.DefD} {ds : List Df} {k : Nat} {d : Df}, AllOk tb qs ds → ds[k]? = some d → ∃ q, qs[k]? = some q ∧ dfC tb q d = true ∧ BdOk q d
  | [], [], k, d, _, e => by simp at e
  | q :: qs, x :: ds, 0, d, h, e => by cases e; exact ⟨q, rfl, h.1.1, h.1.2⟩
  | q :: qs, x :: ds, k + 1, d, h, e => AllOk.get (k := k) h.2 (by simpa using e)
  | [], _ :: _, _, _, h, _ => h.elim
  | _ :: _, [], _, _, h, _ => h.elim
theorem fact_mem {fa : List He.Fa} {fn : List He.DefD} {K : PySem.W.Frag} (c : He.SaysD fa fn K) {f : He.Fa} (h : f ∈ fa) : f.ok K = true := by
  obtain ⟨i, hi⟩ := List.getElem?_of_mem h
  exact c.fact i hi
section
variable {ds : List Df} {cls : List Str} {glo : List (Str × Con)} {fn : List He.DefD} {K : PySem.W.Frag} {h : Heap} {mg : Str → Option Value}
theorem goodAll (KX : K.In h) (Gn : h.Ns mainGlobals mg) (c : He.SaysD (faOf ds cls glo) fn K) (ok : AllOk (tbOf ds cls glo) fn ds) (hg : (glo.all fun q => isIS q.2) = true) (hE : excB cls K = true) (P : Program) (w : World) (base : Heap) :
    ∀ n, GoodG (tbOf ds cls glo) (cnOf K ds cls) (gs ds n) n P w K mg base := by
  have fFree : ∀ x ∈ bN, mg x = none := fun x hx => He.free_ok KX Gn (fact_mem c (List.mem_append_left _ (List.mem_map_of_mem hx)))
  have fGlo : ∀ x k, (tbOf ds cls glo).glo.lookup x = some k → ∃ u, mg x = some u ∧ RelV k.v u := fun x k hl => by
    have hm : (x, k) ∈ glo := PySem.mem_of_lookup hl
    have hf := fact_mem c (f := gloFa (x, k)) (List.mem_append_right _ (List.mem_append_right _ (List.mem_append_right _ (List.mem_append_right _ (List.mem_map_of_mem hm)))))
    have hk := List.all_eq_true.mp hg _ hm
    cases k with
    | int i => obtain ⟨t, e⟩ := He.int_ok KX Gn hf; exact ⟨_, e, ⟨_, rfl⟩⟩
    | str z => obtain ⟨t, e⟩ := He.str_ok KX Gn hf; exact ⟨_, e, ⟨_, rfl⟩⟩
    | non => cases hk
    | bl => cases hk
  have fDef : ∀ (k : Nat) (x : Str) (ar kind : Nat), (tbOf ds cls glo).fns[k]? = some (x, ar, kind) → ∃ (d : Df) (q : He.DefD) (fd : FuncData), ds[k]? = some d ∧ d.nm = x ∧ d.ar = ar ∧ d.kind = kind ∧ FunD K q.name q.qual q.params q.body q.scope [] [] (He.ga K x) fd ∧ mg x = some (.ref (He.ga K x)) ∧
      PySem.W.keepIn K (.ref (He.ga K x)) = true ∧ Binds K fd (d.N.take d.ar) [] ∧ FnScope d.N (d.N.take d.ar) q.scope ∧ d.ar ≤ d.N.length ∧ ckSs d.body ⟨tbOf ds cls glo, d.N, q.scope⟩ q.body = true := fun k x ar kind hk => by
    have hk : (ds.map fun d => (d.nm, d.ar, d.kind))[k]? = some (x, ar, kind) := hk
    rw [List.getElem?_map, Option.map_eq_some_iff] at hk
    obtain ⟨d, hd, e⟩ := hk
    cases e
    obtain ⟨q, hq, o1, o2⟩ := ok.get hd
    obtain ⟨fd, F⟩ := c.def_ k hq
    unfold dfC at o1
    simp only [Bool.and_eq_true, decide_eq_true_eq, List.isEmpty_iff] at o1
    obtain ⟨⟨⟨⟨⟨e2, e3⟩, e4⟩, e5⟩, e6⟩, e7⟩ := o1
    have ea : He.fAd K q.at_ = He.ga K d.nm := by rw [e2]; rfl
    have e8 : q.dvs K = [] := by unfold He.DefD.dvs; rw [e3]; rfl
    have e9 : q.kws K = [] := by unfold He.DefD.kws; rw [e4]; rfl
    rw [ea, e8, e9] at F
    have hm : mg d.nm = some (.ref (He.ga K d.nm)) := He.glo_ok KX Gn (fact_mem c (List.mem_append_right _ (List.mem_append_left _ (List.mem_map.mpr ⟨d, List.mem_of_getElem? hd, rfl⟩))))
    exact ⟨d, q, fd, hd, rfl, rfl, rfl, F, hm, F.kp, FunD.bindsN F fun kV doc pm an cdv ct us hl => o2 kV doc pm an cdv ct us hl, fs_by e5, e6, e7⟩
  have fCls : ∀ k x, (tbOf ds cls glo).cls[k]? = some x → mg x = some (.ref ((cnOf K ds cls).C k)) ∧ PySem.W.excIn K ((cnOf K ds cls).C k) He.veBase "ValueError.__new__" = true ∧ PySem.W.keepIn K (.ref ((cnOf K ds cls).C k)) = true ∧ PySem.W.subIn K (.ref ((cnOf K ds cls).C k)) (.type "BaseException") = some true ∧ PySem.W.typeIn K (.ref ((cnOf K ds cls).C k)) = some (.type "type") := fun k x hk => by
    have hk : cls[k]? = some x := hk
    have hC : (cnOf K ds cls).C k = He.ga K x := by
      show He.ga K (cls.getD k "") = _
      rw [List.getD_eq_getElem?_getD, hk]; rfl
    rw [hC]
    have hm := List.mem_of_getElem? hk
    have h1 := He.glo_ok KX Gn (fact_mem c (f := .glo x) (List.mem_append_right _ (List.mem_append_right _ (List.mem_append_left _ (List.mem_map_of_mem hm)))))
    obtain ⟨h2, h3, h4, h5⟩ := He.exc_ok (fact_mem c (f := .exc x) (List.mem_append_right _ (List.mem_append_right _ (List.mem_append_right _ (List.mem_append_left _ (List.mem_map_of_mem hm))))))
    exact ⟨h1, h2, h3, h4, h5⟩
  have tl : ∀ (d : Df), d.ar ≤ d.N.length → (d.N.take d.ar).length = d.ar := fun d hd => by rw [List.length_take]; omega
  have fA : ∀ (k : Nat) (x : Str) (ar kind : Nat), (tbOf ds cls glo).fns[k]? = some (x, ar, kind) → mg x = some (.ref ((cnOf K ds cls).A k)) := fun k x ar kind hk => by
    obtain ⟨d, q, fd, hd, e1, _, _, _, hm, _⟩ := fDef k x ar kind hk
    rw [hm, ← e1]
    show _ = some (Value.ref (He.ga K ((ds[k]?.map Df.nm).getD "")))
    rw [hd]
    rfl
  intro n
  induction n with
  | zero =>
    refine ⟨fFree, excF_of hE, fA, fGlo, fun k x ar hk => ?_, fun k x ar hk => ?_, fun k x ar hk => ?_, fCls⟩
    · obtain ⟨d, q, fd, _, _, rfl, _, F, m, kp, bd, S, le, _⟩ := fDef k x ar 0 hk
      refine ⟨_, fd, _, tl d le, ⟨fun vs H Q E z => ?_, fun A outer s H args us vs Q E _ _ _ _ z => ?_⟩, m, kp, bd⟩
      · obtain ⟨_, _, _, _, _, f⟩ := z; exact f.elim
      · obtain ⟨_, _, _, _, _, f⟩ := z; exact f.elim
    · obtain ⟨d, q, fd, _, _, rfl, _, F, m, kp, bd, S, le, _⟩ := fDef k x ar 1 hk
      refine ⟨_, fd, _, tl d le, ⟨fun vs H Q E z => ?_, fun A outer s H args us vs Q E _ _ _ _ z => ?_⟩, m, kp, bd⟩
      · obtain ⟨_, _, _, _, _, _, _, _, _, _, _, _, _, f⟩ := z; exact f.elim
      · obtain ⟨_, _, _, _, _, _, _, _, _, _, _, _, _, f⟩ := z; exact f.elim
    · obtain ⟨d, q, fd, _, _, rfl, _, F, m, kp, bd, S, le, _⟩ := fDef k x ar 2 hk
      refine ⟨_, fd, _, tl d le, ⟨fun vs H Q E z => ?_, fun A outer s H args us vs Q E _ _ _ _ z => ?_⟩, m, kp, bd⟩
      · obtain ⟨_, _, _, _, _, f⟩ := z; exact f.elim
      · obtain ⟨_, _, _, _, _, f⟩ := z; exact f.elim
  | succ n ih =>
    have good : ∀ (d : Df) (q : He.DefD) (f : Addr) (S : FnScope d.N (d.N.take d.ar) q.scope) (cdv : Value) (A : Around) (outer : List Env) (s : Shared) (H : Hp) (E : XK), Room n (A.deeper (envOfC q.qual q.scope s.heap.objs.size f cdv)) →
        GoodS ⟨tbOf ds cls glo, d.N, q.scope⟩ (cnOf K ds cls) (gs ds n) n (cxOf (L2.CX P w) P w K mg base d.N q.qual q.scope f cdv A outer s H E) (fun cls d _ H' => E cls d H') := fun d q f S cdv A outer s H E hr =>
      ⟨⟨rfl, rfl, S.nd, rfl, rfl, hr, takes_of rfl rfl rfl rfl, ih⟩, fun _ => rfl, passes_of rfl, S.kind, rfl, rfl⟩
    refine ⟨fFree, excF_of hE, fA, fGlo, fun k x ar hk => ?_, fun k x ar hk => ?_, fun k x ar hk => ?_, fCls⟩
    · obtain ⟨d, q, fd, hd, _, rfl, _, F, m, kp, bd, S, le, ck⟩ := fDef k x ar 0 hk
      refine ⟨_, fd, _, tl d le, F.ok S (fun vs H Q E z => by obtain ⟨_, _, e, _⟩ := z; exact e) (fun cdv A outer s H vs Q E hr hsp => ⟨_, soSs d.body (good d q _ S cdv A outer s H E hr) ck, ?_⟩), m, kp, bd⟩
      refine body_D (ar := (d.N.take d.ar).length) (by rw [tl d le]; exact le) ?_
      have e : (gs ds (n + 1)).dD k = fun xs => endD (evSs (gs ds n) d.body (startR false d.N.length xs)) := by
        funext xs
        show (match ds[k]? with | some d => endD (evSs (gs ds n) d.body (startR false d.N.length xs)) | none => .bad) = _
        rw [hd]
      rw [e] at hsp
      exact hsp
    · obtain ⟨d, q, fd, hd, _, rfl, _, F, m, kp, bd, S, le, ck⟩ := fDef k x ar 1 hk
      refine ⟨_, fd, _, tl d le, F.ok S (fun vs H Q E z => by obtain ⟨_, _, _, _, _, _, _, e, _⟩ := z; exact e) (fun cdv A outer s H vs Q E hr hsp => ⟨_, soSs d.body (good d q _ S cdv A outer s H E hr) ck, ?_⟩), m, kp, bd⟩
      refine body_M (ar := (d.N.take d.ar).length) (by rw [tl d le]; exact le) ?_
      have e : (gs ds (n + 1)).dM k = fun xs ys => endM (evSs (gs ds n) d.body (startR true d.N.length (.lst xs :: ys))) := by
        funext xs ys
        show (match ds[k]? with | some d => endM (evSs (gs ds n) d.body (startR true d.N.length (.lst xs :: ys))) | none => .bad) = _
        rw [hd]
      rw [e] at hsp
      exact hsp
    · obtain ⟨d, q, fd, hd, _, rfl, _, F, m, kp, bd, S, le, ck⟩ := fDef k x ar 2 hk
      refine ⟨_, fd, _, tl d le, F.ok S (fun vs H Q E z => by obtain ⟨_, _, e, _⟩ := z; exact e) (fun cdv A outer s H vs Q E hr hsp => ⟨_, soSs d.body (good d q _ S cdv A outer s H E hr) ck, ?_⟩), m, kp, bd⟩
      refine body_F (ar := (d.N.take d.ar).length) (by rw [tl d le]; exact le) ?_
      have e : (gs ds (n + 1)).dF k = fun xs => endF (evSs (gs ds n) d.body (startR false d.N.length xs)) := by
        funext xs
        show (match ds[k]? with | some d => endF (evSs (gs ds n) d.body (startR false d.N.length xs)) | none => .bad) = _
        rw [hd]
      rw [e] at hsp
      exact hsp
theorem lawAt (KX : K.In h) (Gn : h.Ns mainGlobals mg) (c : He.SaysD (faOf ds cls glo) fn K) (ok : AllOk (tbOf ds cls glo) fn ds) (hg : (glo.all fun q => isIS q.2) = true) (hE : excB cls K = true) (P : Program) (w : World) (base : Heap) (n : Nat)
    {k : Nat} {d : Df} {q : He.DefD} {fd : FuncData} (hd : ds[k]? = some d) (hq : fn[k]? = some q) (F : FunD K q.name q.qual q.params q.body q.scope (q.dvs K) (q.kws K) (He.fAd K q.at_) fd) :
    FnOk P w K mg base (L2.CX P w) (n + 1) (He.fAd K q.at_) fd (d.N.take d.ar) (spD (cnOf K ds cls) (d.N.take d.ar).length ((gs ds (n + 1)).dD k)) := by
  obtain ⟨q', hq', o1, _⟩ := ok.get hd
  rw [hq] at hq'
  cases hq'
  unfold dfC at o1
  simp only [Bool.and_eq_true, decide_eq_true_eq, List.isEmpty_iff] at o1
  obtain ⟨⟨⟨⟨⟨e2, e3⟩, e4⟩, e5⟩, e6⟩, e7⟩ := o1
  have e8 : q.dvs K = [] := by unfold He.DefD.dvs; rw [e3]; rfl
  have e9 : q.kws K = [] := by unfold He.DefD.kws; rw [e4]; rfl
  rw [e8, e9] at F
  have S := fs_by e5
  refine F.ok S (fun vs H Q E z => by obtain ⟨_, _, e, _⟩ := z; exact e) (fun cdv A outer s H vs Q E hr hsp => ⟨_, soSs d.body (K := ⟨tbOf ds cls glo, d.N, q.scope⟩) (G := gs ds n) (n := n) (c := cnOf K ds cls) ⟨⟨rfl, rfl, S.nd, rfl, rfl, hr, takes_of rfl rfl rfl rfl, goodAll KX Gn c ok hg hE P w base n⟩, fun _ => rfl, passes_of rfl, S.kind, rfl, rfl⟩ e7, ?_⟩)
  refine body_D (ar := (d.N.take d.ar).length) (by rw [List.length_take]; omega) ?_
  have e : (gs ds (n + 1)).dD k = fun xs => endD (evSs (gs ds n) d.body (startR false d.N.length xs)) := by
    funext xs
    show (match ds[k]? with | some d => endD (evSs (gs ds n) d.body (startR false d.N.length xs)) | none => .bad) = _
    rw [hd]
  rw [e] at hsp
  exact hsp
/-- what the law's own reader wants -/
theorem lawSp {c : Cn} {r : List D → Cr D} {H : Hp} {a : Addr} {ns : List Int} (hS : SqL c.K H a (ns.map V.int)) (hr : r [.scr ns] = .ok (.bl true)) : spD c 1 r [.ref a] H (fun v _ => v = .bl true) fun _ _ _ => False := by
  refine ⟨H, [.scr ns], rfl, Same.refl _, .cons (.scr hS) .nil, ?_⟩
  rw [hr]
  intro v H' Hf' _ _ _ _ rv
  cases rv
  rfl
/-- exceptions, of any world -/
def CXu (P : Program) : CXT := fun outer H s E u s' => ∃ w, L2.CX P w outer H s E u s'
theorem wideCX {P : Program} {w : World} {base : Heap} {k : Nat} {f : Addr} {fd : FuncData} {ps : List Str} {sp : Sp} (F : FnOk P w K mg base (L2.CX P w) k f fd ps sp) : FnOk P w K mg base (CXu P) k f fd ps sp :=
  ⟨F.len, fun A outer s H args us vs Q E hr he hb hv hs => codeAny_mono (F.run A outer s H args us vs Q E hr he hb hv hs) fun r s' q => by
    cases r with
    | error e => exact ⟨w, q⟩
    | ok fl => cases fl <;> exact q⟩
theorem noCX {P : Program} (H : Hp) (s : Shared) (e : Value) (s' : Shared) (h : CXu P [] H s (fun _ _ _ => False) e s') : False := by
  obtain ⟨w, _, _, _, _, _, _, _, _, _, _, _, _, f⟩ := h
  exact f
end
end Ev

end
section
set_option maxHeartbeats 1000000
namespace Ev
open PySem PySem.Spec PyProof.Rows L2
def catR (x y : D) (ρ : En) : R (List D) := match x, y with
    | .lst xs, .lst ys => if xs.length + ys.length ≤ LN then .ok (xs ++ ys) ρ else .bad
    | _, _ => .bad
def repR (x y : D) (ρ : En) : R (List D) := match x, y with
    | .lst xs, .int k => if xs.length * k.toNat ≤ LN ∧ -(2 ^ 63) ≤ k ∧ k < 2 ^ 63 then .ok (List.replicate k.toNat xs).flatten ρ else .bad
    | _, _ => .bad
theorem catR_ok (xs ys : List D) (ρ : En) (h : xs.length + ys.length ≤ 16777216) : catR (.lst xs) (.lst ys) ρ = .ok (xs ++ ys) ρ := if_pos (show xs.length + ys.length ≤ LN from h)
theorem flat1 (d : D) (k : Nat) : (List.replicate k [d]).flatten = List.replicate k d := by
  induction k with
  | zero => rfl
  | succ k ih => rw [List.replicate_succ, List.replicate_succ, List.flatten_cons, ih]; rfl
theorem repR_ok (d : D) (k : Int) (ρ : En) (h : k < 16777216) (h0 : -1000 < k) : repR (.lst [d]) (.int k) ρ = .ok (List.replicate k.toNat d) ρ := by
  rw [← flat1]
  exact if_pos ⟨by show 1 * k.toNat ≤ 16777216; omega, by omega, by omega⟩
theorem op_rep1 (d : D) (k : Int) (h : k < 16777216) (h0 : -1000 < k) : op2 .Mult (.lst [d]) (.int k) = some (.lst (List.replicate k.toNat d)) := by
  rw [← flat1]
  exact if_pos ⟨by show 1 * k.toNat ≤ 16777216; omega, by omega, by omega⟩
theorem op_cat (xs ys : List D) (h : xs.length + ys.length ≤ 16777216) : op2 .Add (.lst xs) (.lst ys) = some (.lst (xs ++ ys)) := if_pos (show xs.length + ys.length ≤ LN from h)
def chnR (f : En → R D) (k : D) (ρ : En) : R D := match k with | .bl true => f ρ | _ => .ok (.bl false) ρ
@[simp] theorem chnR_bl (f : En → R D) (b : Bool) (ρ : En) : chnR f (.bl b) ρ = if b = true then f ρ else .ok (.bl false) ρ := by cases b <;> rfl
def evJ (G : Gs) (it : I) : En → R (List D) := fun ρ => (evI G it ρ).bind few
@[simp] theorem evE_1 {G : Gs} {k} (s : Sl) (ρ : En) : evE G (.con k) (s :: ρ) = .ok k.d (s :: ρ) := (rfl)
@[simp] theorem evE_2 {G : Gs} {k} (s : Sl) (ρ : En) : evE G (.glo k) (s :: ρ) = .ok k.d (s :: ρ) := (rfl)
@[simp] theorem evE_3 {G : Gs} {i} (s : Sl) (ρ : En) : evE G (.var i) (s :: ρ) = rdV (s :: ρ) i := (rfl)
@[simp] theorem evE_4 {G : Gs} {op a b} (s : Sl) (ρ : En) : evE G (.bin op a b) (s :: ρ) = (evE G a (s :: ρ)).bind fun x ρ1 => (evE G b ρ1).bind fun y ρ2 => R.lift (op2 op x y) ρ2 := (rfl)
@[simp] theorem evE_5 {G : Gs} {a} (s : Sl) (ρ : En) : evE G (.neg a) (s :: ρ) = (evE G a (s :: ρ)).bind fun x ρ1 => R.lift (neg1 x) ρ1 := (rfl)
@[simp] theorem evE_6 {G : Gs} {a} (s : Sl) (ρ : En) : evE G (.not a) (s :: ρ) = (evE G a (s :: ρ)).bind fun d ρ1 => R.lift (notV d) ρ1 := (rfl)
@[simp] theorem evE_7 {G : Gs} {op a b} (s : Sl) (ρ : En) : evE G (.cmp op a b) (s :: ρ) = (evE G a (s :: ρ)).bind fun x ρ1 => (evE G b ρ1).bind fun y ρ2 => liftB (cmpD op x y) ρ2 := (rfl)
@[simp] theorem evE_8 {G : Gs} {op op' a b e} (s : Sl) (ρ : En) : evE G (.chn op op' a b e) (s :: ρ) = (evE G a (s :: ρ)).bind fun x ρ1 => (evE G b ρ1).bind fun y ρ2 => (liftB (cmpD op x y) ρ2).bind (chnR fun ρ3 => (evE G e ρ3).bind fun z ρ4 => liftB (cmpD op' y z) ρ4) := (rfl)
@[simp] theorem evE_9 {G : Gs} {t a b} (s : Sl) (ρ : En) : evE G (.ife t a b) (s :: ρ) = (evB G t (s :: ρ)).bind fun k ρ1 => if k = true then evE G a ρ1 else evE G b ρ1 := (rfl)
@[simp] theorem evE_10 {G : Gs} {v} (s : Sl) (ρ : En) : evE G (.and v) (s :: ρ) = (evAnd G v) (s :: ρ) := (rfl)
@[simp] theorem evE_11 {G : Gs} {v} (s : Sl) (ρ : En) : evE G (.or v) (s :: ρ) = (evOr G v) (s :: ρ) := (rfl)
@[simp] theorem evE_12 {G : Gs} {es} (s : Sl) (ρ : En) : evE G (.tup es) (s :: ρ) = (evA G es (s :: ρ)).bind fun xs ρ1 => .ok (.tup xs) ρ1 := (rfl)
@[simp] theorem evE_13 {G : Gs} {f} (s : Sl) (ρ : En) : evE G (.fr f) (s :: ρ) = (evF G f (s :: ρ)).bind fun ds ρ1 => .ok (.lst ds) ρ1 := (rfl)
@[simp] theorem evE_14 {G : Gs} {a b} (s : Sl) (ρ : En) : evE G (.ix a b) (s :: ρ) = (evE G a (s :: ρ)).bind fun x ρ1 => (evE G b ρ1).bind fun k ρ2 => R.lift (ixD x k) ρ2 := (rfl)
@[simp] theorem evE_15 {G : Gs} {i b} (s : Sl) (ρ : En) : evE G (.ixV i b) (s :: ρ) = (rdL (s :: ρ) i).bind fun _ ρ0 => (evE G b ρ0).bind fun k ρ1 => (rdL ρ1 i).bind fun x ρ2 => R.lift (ixD x k) ρ2 := (rfl)
@[simp] theorem evE_16 {G : Gs} {a lo hi} (s : Sl) (ρ : En) : evE G (.sl a lo hi) (s :: ρ) = (evE G a (s :: ρ)).bind fun x ρ1 => (evO G lo ρ1).bind fun l ρ2 => (evO G hi ρ2).bind fun h ρ3 => R.lift (slD x l h) ρ3 := (rfl)
@[simp] theorem evE_17 {G : Gs} {i lo hi} (s : Sl) (ρ : En) : evE G (.slV i lo hi) (s :: ρ) = (rdL (s :: ρ) i).bind fun _ ρ0 => (evO G lo ρ0).bind fun l ρ1 => (evO G hi ρ1).bind fun h ρ2 => (rdL ρ2 i).bind fun x ρ3 => R.lift (slD x l h) ρ3 := (rfl)
@[simp] theorem evE_18 {G : Gs} {f a} (s : Sl) (ρ : En) : evE G (.b1 f a) (s :: ρ) = (evL G a (s :: ρ)).bind fun x ρ1 => R.lift (b1 f x) ρ1 := (rfl)
@[simp] theorem evE_19 {G : Gs} {f a b} (s : Sl) (ρ : En) : evE G (.b2 f a b) (s :: ρ) = (evE G a (s :: ρ)).bind fun x ρ1 => (evE G b ρ1).bind fun y ρ2 => R.lift (b2 f x y) ρ2 := (rfl)
@[simp] theorem evE_20 {G : Gs} {t a} (s : Sl) (ρ : En) : evE G (.isi t a) (s :: ρ) = (evL G a (s :: ρ)).bind fun x ρ1 => liftB (isiD t x) ρ1 := (rfl)
@[simp] theorem evE_21 {G : Gs} {k n es} (s : Sl) (ρ : En) : evE G (.call k n es) (s :: ρ) = (evA G es (s :: ρ)).bind fun ds ρ1 => if ds.length = n then (G.dD k ds).r ρ1 else .bad := (rfl)
@[simp] theorem evE_22 {G : Gs} {k n i es} (s : Sl) (ρ : En) : evE G (.callM k n i es) (s :: ρ) = (rdO (s :: ρ) i).bind fun _ ρ0 => (evA G es ρ0).bind fun ds ρ1 => if ds.length + 1 = n then Ev.callM i (G.dM k) ds ρ1 else .bad := (rfl)
@[simp] theorem evE_23 {G : Gs} {i} (s : Sl) (ρ : En) : evE G (.pop i) (s :: ρ) = (popR i) (s :: ρ) := (rfl)
@[simp] theorem evE_24 {G : Gs} {i e} (s : Sl) (ρ : En) : evE G (.popAt i e) (s :: ρ) = (rdO (s :: ρ) i).bind fun _ ρ0 => (evE G e ρ0).bind fun d ρ1 => Ev.popAt i d ρ1 := (rfl)
@[simp] theorem evL_25 {G : Gs} {i} (s : Sl) (ρ : En) : evL G (.lk i) (s :: ρ) = rdL (s :: ρ) i := (rfl)
@[simp] theorem evL_26 {G : Gs} {e} (s : Sl) (ρ : En) : evL G (.vl e) (s :: ρ) = (evE G e) (s :: ρ) := (rfl)
@[simp] theorem evAnd_27 {G : Gs} {e} (s : Sl) (ρ : En) : evAnd G (.one e) (s :: ρ) = (evE G e) (s :: ρ) := (rfl)
@[simp] theorem evAnd_28 {G : Gs} {e v} (s : Sl) (ρ : En) : evAnd G (.more e v) (s :: ρ) = (evE G e (s :: ρ)).bind (andV (evAnd G v)) := (rfl)
@[simp] theorem evOr_29 {G : Gs} {e} (s : Sl) (ρ : En) : evOr G (.one e) (s :: ρ) = (evE G e) (s :: ρ) := (rfl)
@[simp] theorem evOr_30 {G : Gs} {e v} (s : Sl) (ρ : En) : evOr G (.more e v) (s :: ρ) = (evE G e (s :: ρ)).bind (orV (evOr G v)) := (rfl)
@[simp] theorem evB_31 {G : Gs} {op a b} (s : Sl) (ρ : En) : evB G (.cmp op a b) (s :: ρ) = ((evE G a (s :: ρ)).bind fun x ρ1 => (evE G b ρ1).bind fun y ρ2 => liftB (cmpD op x y) ρ2).bind boolOf := (rfl)
@[simp] theorem evB_32 {G : Gs} {op op' a b e} (s : Sl) (ρ : En) : evB G (.chn op op' a b e) (s :: ρ) = ((evE G a (s :: ρ)).bind fun x ρ1 => (evE G b ρ1).bind fun y ρ2 => (liftB (cmpD op x y) ρ2).bind (chnR fun ρ3 => (evE G e ρ3).bind fun z ρ4 => liftB (cmpD op' y z) ρ4)).bind boolOf := (rfl)
@[simp] theorem evB_33 {G : Gs} {w} (s : Sl) (ρ : En) : evB G (.and w) (s :: ρ) = (evWA G w) (s :: ρ) := (rfl)
@[simp] theorem evB_34 {G : Gs} {w} (s : Sl) (ρ : En) : evB G (.or w) (s :: ρ) = (evWO G w) (s :: ρ) := (rfl)
@[simp] theorem evB_35 {G : Gs} {b} (s : Sl) (ρ : En) : evB G (.not b) (s :: ρ) = (evB G b (s :: ρ)).bind fun k ρ1 => .ok (!k) ρ1 := (rfl)
@[simp] theorem evB_36 {G : Gs} {a} (s : Sl) (ρ : En) : evB G (.tr a) (s :: ρ) = (evL G a (s :: ρ)).bind truB := (rfl)
@[simp] theorem evWA_37 {G : Gs} {b} (s : Sl) (ρ : En) : evWA G (.one b) (s :: ρ) = (evB G b) (s :: ρ) := (rfl)
@[simp] theorem evWA_38 {G : Gs} {b w} (s : Sl) (ρ : En) : evWA G (.more b w) (s :: ρ) = (evB G b (s :: ρ)).bind fun k ρ1 => if k = true then evWA G w ρ1 else .ok false ρ1 := (rfl)
@[simp] theorem evWO_39 {G : Gs} {b} (s : Sl) (ρ : En) : evWO G (.one b) (s :: ρ) = (evB G b) (s :: ρ) := (rfl)
@[simp] theorem evWO_40 {G : Gs} {b w} (s : Sl) (ρ : En) : evWO G (.more b w) (s :: ρ) = (evB G b (s :: ρ)).bind fun k ρ1 => if k = true then .ok true ρ1 else evWO G w ρ1 := (rfl)
@[simp] theorem evO_41 {G : Gs} (s : Sl) (ρ : En) : evO G .no (s :: ρ) = .ok none (s :: ρ) := (rfl)
@[simp] theorem evO_42 {G : Gs} {e} (s : Sl) (ρ : En) : evO G (.so e) (s :: ρ) = (evE G e (s :: ρ)).bind fun d ρ1 => R.lift (partD d) ρ1 := (rfl)
@[simp] theorem evA_43 {G : Gs} (s : Sl) (ρ : En) : evA G .nil (s :: ρ) = .ok [] (s :: ρ) := (rfl)
@[simp] theorem evA_44 {G : Gs} {e es} (s : Sl) (ρ : En) : evA G (.cons e es) (s :: ρ) = (evE G e (s :: ρ)).bind fun x ρ1 => (evA G es ρ1).bind fun xs ρ2 => .ok (x :: xs) ρ2 := (rfl)
@[simp] theorem evF_45 {G : Gs} {es} (s : Sl) (ρ : En) : evF G (.lst es) (s :: ρ) = (evA G es) (s :: ρ) := (rfl)
@[simp] theorem evF_46 {G : Gs} {a} (s : Sl) (ρ : En) : evF G (.listOf a) (s :: ρ) = (evL G a (s :: ρ)).bind fun x ρ1 => R.lift (seqD x) ρ1 := (rfl)
@[simp] theorem evF_47 {G : Gs} {a} (s : Sl) (ρ : En) : evF G (.listRev a) (s :: ρ) = (evL G a (s :: ρ)).bind fun x ρ1 => R.lift (revD x) ρ1 := (rfl)
@[simp] theorem evF_48 {G : Gs} {a} (s : Sl) (ρ : En) : evF G (.rg1 a) (s :: ρ) = (evE G a (s :: ρ)).bind fun x ρ1 => R.lift (rgL [x]) ρ1 := (rfl)
@[simp] theorem evF_49 {G : Gs} {a b} (s : Sl) (ρ : En) : evF G (.rg2 a b) (s :: ρ) = (evE G a (s :: ρ)).bind fun x ρ1 => (evE G b ρ1).bind fun y ρ2 => R.lift (rgL [x, y]) ρ2 := (rfl)
@[simp] theorem evF_50 {G : Gs} {a} (s : Sl) (ρ : En) : evF G (.sorted a) (s :: ρ) = (evL G a (s :: ρ)).bind fun x ρ1 => match x with | .lst _ => R.lift (sortD x) ρ1 | _ => .bad := (rfl)
@[simp] theorem evF_51 {G : Gs} {a b} (s : Sl) (ρ : En) : evF G (.cat a b) (s :: ρ) = (evE G a (s :: ρ)).bind fun x ρ1 => (evE G b ρ1).bind fun y ρ2 => catR x y ρ2 := (rfl)
@[simp] theorem evF_52 {G : Gs} {a b} (s : Sl) (ρ : En) : evF G (.rep a b) (s :: ρ) = (evE G a (s :: ρ)).bind fun x ρ1 => (evE G b ρ1).bind fun y ρ2 => repR x y ρ2 := (rfl)
@[simp] theorem evF_53 {G : Gs} {tg it t e vs} (s : Sl) (ρ : En) : evF G (.comp tg it t e vs) (s :: ρ) = (compR tg (evJ G it) (evC G t) (evE G e) vs) (s :: ρ) := (rfl)
@[simp] theorem evF_54 {G : Gs} {k n es} (s : Sl) (ρ : En) : evF G (.call k n es) (s :: ρ) = (evA G es (s :: ρ)).bind fun ds ρ1 => if ds.length = n then (G.dF k ds).f ρ1 else .bad := (rfl)
@[simp] theorem evC_55 {G : Gs} (s : Sl) (ρ : En) : evC G .no (s :: ρ) = .ok true (s :: ρ) := (rfl)
@[simp] theorem evC_56 {G : Gs} {b} (s : Sl) (ρ : En) : evC G (.one b) (s :: ρ) = (evB G b) (s :: ρ) := (rfl)
@[simp] theorem evI_57 {G : Gs} {a} (s : Sl) (ρ : En) : evI G (.sq a) (s :: ρ) = (evE G a (s :: ρ)).bind fun x ρ1 => (R.lift (itD x) ρ1).bind fun xs ρ2 => itN x xs ρ2 := (rfl)
@[simp] theorem evI_58 {G : Gs} {a} (s : Sl) (ρ : En) : evI G (.r1 a) (s :: ρ) = (evE G a (s :: ρ)).bind fun x ρ1 => R.lift (rng [x]) ρ1 := (rfl)
@[simp] theorem evI_59 {G : Gs} {a b} (s : Sl) (ρ : En) : evI G (.r2 a b) (s :: ρ) = (evE G a (s :: ρ)).bind fun x ρ1 => (evE G b ρ1).bind fun y ρ2 => R.lift (rng [x, y]) ρ2 := (rfl)
@[simp] theorem evI_60 {G : Gs} {a b e} (s : Sl) (ρ : En) : evI G (.r3 a b e) (s :: ρ) = (evE G a (s :: ρ)).bind fun x ρ1 => (evE G b ρ1).bind fun y ρ2 => (evE G e ρ2).bind fun z ρ3 => R.lift (rng [x, y, z]) ρ3 := (rfl)
@[simp] theorem evI_61 {G : Gs} {a b} (s : Sl) (ρ : En) : evI G (.zip a b) (s :: ρ) = (evE G a (s :: ρ)).bind fun x ρ1 => (evE G b ρ1).bind fun y ρ2 => R.lift (zipD x y) ρ2 := (rfl)
@[simp] theorem evI_62 {G : Gs} {a} (s : Sl) (ρ : En) : evI G (.enum a) (s :: ρ) = (evE G a (s :: ρ)).bind fun x ρ1 => R.lift (enumD x) ρ1 := (rfl)
@[simp] theorem evI_63 {G : Gs} {a} (s : Sl) (ρ : En) : evI G (.rev a) (s :: ρ) = (evE G a (s :: ρ)).bind fun x ρ1 => R.lift (revD x) ρ1 := (rfl)
@[simp] theorem evP_64 {G : Gs} (s : Sl) (ρ : En) : evP G .nil (s :: ρ) = .ok [] (s :: ρ) := (rfl)
@[simp] theorem evP_65 {G : Gs} {e p} (s : Sl) (ρ : En) : evP G (.cE e p) (s :: ρ) = (evE G e (s :: ρ)).bind fun d ρ1 => (evP G p ρ1).bind fun ss ρ2 => .ok (.va d :: ss) ρ2 := (rfl)
@[simp] theorem evP_66 {G : Gs} {f p} (s : Sl) (ρ : En) : evP G (.cF f p) (s :: ρ) = (evF G f (s :: ρ)).bind fun xs ρ1 => (evP G p ρ1).bind fun ss ρ2 => .ok (.ow false xs :: ss) ρ2 := (rfl)
@[simp] theorem evS_67 {G : Gs} (s : Sl) (ρ : En) : evS G .pass (s :: ρ) = .ok .nx (s :: ρ) := (rfl)
@[simp] theorem evS_68 {G : Gs} (s : Sl) (ρ : En) : evS G .brk (s :: ρ) = .ok .bk (s :: ρ) := (rfl)
@[simp] theorem evS_69 {G : Gs} (s : Sl) (ρ : En) : evS G .cnt (s :: ρ) = .ok .ct (s :: ρ) := (rfl)
@[simp] theorem evS_70 {G : Gs} {e} (s : Sl) (ρ : En) : evS G (.ret e) (s :: ρ) = (evE G e (s :: ρ)).bind fun d ρ1 => .ok (.rt d) ρ1 := (rfl)
@[simp] theorem evS_71 {G : Gs} {f} (s : Sl) (ρ : En) : evS G (.retF f) (s :: ρ) = (evF G f (s :: ρ)).bind fun xs ρ1 => .ok (.rf xs) ρ1 := (rfl)
@[simp] theorem evS_72 {G : Gs} (s : Sl) (ρ : En) : evS G .retN (s :: ρ) = .ok (.rt .non) (s :: ρ) := (rfl)
@[simp] theorem evS_73 {G : Gs} {t a b} (s : Sl) (ρ : En) : evS G (.ife t a b) (s :: ρ) = (evB G t (s :: ρ)).bind fun k ρ1 => if k = true then evSs G a ρ1 else evSs G b ρ1 := (rfl)
@[simp] theorem evS_74 {G : Gs} {i e} (s : Sl) (ρ : En) : evS G (.asg i e) (s :: ρ) = (evE G e (s :: ρ)).bind fun d ρ1 => (R.lift (setV i d ρ1) ρ1).bind fun ρ2 _ => .ok .nx ρ2 := (rfl)
@[simp] theorem evS_75 {G : Gs} {i f} (s : Sl) (ρ : En) : evS G (.asgF i f) (s :: ρ) = (evF G f (s :: ρ)).bind fun ds ρ1 => (R.lift (setV i (.lst ds) ρ1) ρ1).bind fun ρ2 _ => .ok .nx ρ2 := (rfl)
@[simp] theorem evS_76 {G : Gs} {tg e} (s : Sl) (ρ : En) : evS G (.asgT tg e) (s :: ρ) = (evE G e (s :: ρ)).bind fun d ρ1 => (R.lift (Ev.asgT tg d ρ1) ρ1).bind fun ρ2 _ => .ok .nx ρ2 := (rfl)
@[simp] theorem evS_77 {G : Gs} {i f} (s : Sl) (ρ : En) : evS G (.own i f) (s :: ρ) = (evF G f (s :: ρ)).bind fun ds ρ1 => (R.lift (setO i ds ρ1) ρ1).bind fun ρ2 _ => .ok .nx ρ2 := (rfl)
@[simp] theorem evS_78 {G : Gs} {op i e} (s : Sl) (ρ : En) : evS G (.aug op i e) (s :: ρ) = (rdL (s :: ρ) i).bind fun x0 ρ0 => (evE G e ρ0).bind fun d ρ1 => (R.lift ((aop2 op x0 d).bind fun z => setV i z ρ1) ρ1).bind fun ρ2 _ => .ok .nx ρ2 := (rfl)
@[simp] theorem evS_79 {G : Gs} {i e} (s : Sl) (ρ : En) : evS G (.app i e) (s :: ρ) = (rdO (s :: ρ) i).bind fun _ ρ0 => (evE G e ρ0).bind fun d ρ1 => (R.lift (modO i (appF d) ρ1) ρ1).bind fun ρ2 _ => .ok .nx ρ2 := (rfl)
@[simp] theorem evS_80 {G : Gs} {i e} (s : Sl) (ρ : En) : evS G (.ext i e) (s :: ρ) = (rdO (s :: ρ) i).bind fun _ ρ0 => (evE G e ρ0).bind fun d ρ1 => (R.lift (modO i (extF d) ρ1) ρ1).bind fun ρ2 _ => .ok .nx ρ2 := (rfl)
@[simp] theorem evS_81 {G : Gs} {i b e} (s : Sl) (ρ : En) : evS G (.setI i b e) (s :: ρ) = (evE G e (s :: ρ)).bind fun d ρ1 => (rdO ρ1 i).bind fun _ ρ2 => (evE G b ρ2).bind fun k ρ3 => (R.lift (modO i (setF k d) ρ3) ρ3).bind fun ρ4 _ => .ok .nx ρ4 := (rfl)
@[simp] theorem evS_82 {G : Gs} {tg it b} (s : Sl) (ρ : En) : evS G (.for tg it b) (s :: ρ) = (evI G it (s :: ρ)).bind fun items ρ1 => forL (Ev.asgT tg) (evSs G b) items ρ1 := (rfl)
@[simp] theorem evS_83 {G : Gs} {n t b} (s : Sl) (ρ : En) : evS G (.whl n t b) (s :: ρ) = (whileL (evB G t) (evSs G b) n) (s :: ρ) := (rfl)
@[simp] theorem evS_84 {G : Gs} {e} (s : Sl) (ρ : En) : evS G (.expr e) (s :: ρ) = (evE G e (s :: ρ)).bind fun _ ρ1 => .ok .nx ρ1 := (rfl)
@[simp] theorem evS_85 {G : Gs} (s : Sl) (ρ : En) : evS G .doc (s :: ρ) = .ok .nx (s :: ρ) := (rfl)
@[simp] theorem evS_86 {G : Gs} {k} (s : Sl) (ρ : En) : evS G (.rse k) (s :: ρ) = .err k (s :: ρ) := (rfl)
@[simp] theorem evS_87 {G : Gs} {is p} (s : Sl) (ρ : En) : evS G (.par is p) (s :: ρ) = (parR is (evP G p)) (s :: ρ) := (rfl)
@[simp] theorem evSs_88 {G : Gs} (s : Sl) (ρ : En) : evSs G .nil (s :: ρ) = .ok .nx (s :: ρ) := (rfl)
@[simp] theorem evSs_89 {G : Gs} {s r} (s0 : Sl) (ρ : En) : evSs G (.cons s r) (s0 :: ρ) = (evS G s (s0 :: ρ)).bind (thenS (evSs G r)) := (rfl)
@[simp] theorem evE_callX {G : Gs} {ks n ix es} (s : Sl) (ρ : En) : evE G (.callX ks n ix es) (s :: ρ) = (evE G ix (s :: ρ)).bind fun d ρ1 => (R.lift (fnIx ks d) ρ1).bind fun k ρ2 => (evA G es ρ2).bind fun ds ρ3 => if ds.length = n then (G.dD k ds).r ρ3 else .bad := (rfl)
@[simp] theorem evF_mov {G : Gs} {i} (s : Sl) (ρ : En) : evF G (.mov i) (s :: ρ) = movR i (s :: ρ) := (rfl)
@[simp] theorem evS_tri {G : Gs} {nC b hs} (s : Sl) (ρ : En) : evS G (.tri nC b hs) (s :: ρ) = triR nC (hs.map fun q => (q.1, q.2.d)) (evSs G b (s :: ρ)) := (rfl)
@[simp] theorem evS_trn {G : Gs} {nC i k j s0 s1 b} (s : Sl) (ρ : En) : evS G (.trn nC i k j s0 s1 b) (s :: ρ) = trnR nC i k j s0 s1 (evSs G b (s :: ρ)) := (rfl)
theorem fnIx_nat (ks : List Nat) (j k : Nat) (h : ks[j]? = some k) : fnIx ks (.int j) = some k := by
  obtain ⟨hl, _⟩ := List.getElem?_eq_some_iff.mp h
  have e : ixD (.lst (ks.map D.fn)) (.int j) = some (.fn k) := by
    show (L2.ixN (ks.map D.fn).length (j : Int)).bind (fun j => (ks.map D.fn)[j]?) = some (.fn k)
    unfold L2.ixN
    rw [List.length_map, if_pos (by omega), if_pos (by omega)]
    simp [h]
  unfold fnIx
  rw [e]
@[simp] theorem fnIx_0 (a : Nat) (ks : List Nat) : fnIx (a :: ks) (.int 0) = some a := fnIx_nat _ 0 _ rfl
@[simp] theorem fnIx_1 (a b : Nat) (ks : List Nat) : fnIx (a :: b :: ks) (.int 1) = some b := fnIx_nat _ 1 _ rfl
@[simp] theorem fnIx_2 (a b c : Nat) (ks : List Nat) : fnIx (a :: b :: c :: ks) (.int 2) = some c := fnIx_nat _ 2 _ rfl
@[simp] theorem fnIx_3 (a b c d : Nat) (ks : List Nat) : fnIx (a :: b :: c :: d :: ks) (.int 3) = some d := fnIx_nat _ 3 _ rfl
@[simp] theorem fnIx_4 (a b c d e : Nat) (ks : List Nat) : fnIx (a :: b :: c :: d :: e :: ks) (.int 4) = some e := fnIx_nat _ 4 _ rfl
@[simp] theorem fnIx_5 (a b c d e f : Nat) (ks : List Nat) : fnIx (a :: b :: c :: d :: e :: f :: ks) (.int 5) = some f := fnIx_nat _ 5 _ rfl
@[simp] theorem fnIx_6 (a b c d e f g : Nat) (ks : List Nat) : fnIx (a :: b :: c :: d :: e :: f :: g :: ks) (.int 6) = some g := fnIx_nat _ 6 _ rfl
@[simp] theorem movR_ok {ρ : En} {i : Nat} {xs : List D} (h : ρ[i]? = some (.ow false xs)) : movR i ρ = .ok xs (ρ.set i .un) := by unfold movR; rw [h]
@[simp] theorem trnR_err (nC i k j : Nat) (s0 s1 : Str) (x : Nat) (ρ : En) : trnR nC i k j s0 s1 (.err x ρ) = if x < nC then (if subC x k = true then (if i < ρ.length then .ok (.rt (.str (if subC x j = true then s1 else s0))) ρ else .bad) else .err x ρ) else .bad := (rfl)
theorem R.bind_congr {α β : Type} {r r' : R α} {f : α → En → R β} (h : r = r') : r.bind f = r'.bind f := by rw [h]
theorem forL_congr {g : D → En → Option En} {fb : En → R Fl} {xs ys : List D} {ρ ρ' : En} (h : xs = ys) (h2 : ρ = ρ') : forL g fb xs ρ = forL g fb ys ρ' := by rw [h, h2]
theorem whileL_congr {ft : En → R Bool} {fb : En → R Fl} {n : Nat} {ρ ρ' : En} (h2 : ρ = ρ') : whileL ft fb n ρ = whileL ft fb n ρ' := by rw [h2]
theorem compR_congr {T : Tg} {fi : En → R (List D)} {ft : En → R Bool} {fe : En → R D} {vs : List Nat} {ρ ρ' : En} (h2 : ρ = ρ') : compR T fi ft fe vs ρ = compR T fi ft fe vs ρ' := by rw [h2]
theorem compL_congr {g : D → En → Option En} {ft : En → R Bool} {fe : En → R D} {vs : List Nat} {xs ys : List D} {ρ ρ' : En} (h : xs = ys) (h2 : ρ = ρ') : compL g ft fe vs xs ρ = compL g ft fe vs ys ρ' := by rw [h, h2]
@[simp] theorem thenS_nx (k : En → R Fl) (ρ : En) : thenS k .nx ρ = k ρ := (rfl)
@[simp] theorem thenS_bk (k : En → R Fl) (ρ : En) : thenS k .bk ρ = .ok .bk ρ := (rfl)
@[simp] theorem thenS_ct (k : En → R Fl) (ρ : En) : thenS k .ct ρ = .ok .ct ρ := (rfl)
@[simp] theorem thenS_rt (k : En → R Fl) (d : D) (ρ : En) : thenS k (.rt d) ρ = .ok (.rt d) ρ := (rfl)
@[simp] theorem thenS_rf (k : En → R Fl) (d : List D) (ρ : En) : thenS k (.rf d) ρ = .ok (.rf d) ρ := (rfl)
@[simp] theorem endD_nx (ρ : En) : endD (.ok .nx ρ) = .ok .non := (rfl)
@[simp] theorem endD_rt (d : D) (ρ : En) : endD (.ok (.rt d) ρ) = .ok d := (rfl)
@[simp] theorem endD_err (x : Nat) (ρ : En) : endD (.err x ρ) = .err x := (rfl)
@[simp] theorem endD_bad : endD .bad = .bad := (rfl)
@[simp] theorem trnR_bad (nC i k j : Nat) (s0 s1 : Str) : trnR nC i k j s0 s1 .bad = .bad := (rfl)
@[simp] theorem triR_bad (nC : Nat) (hs : List (Nat × D)) : triR nC hs .bad = .bad := (rfl)
@[simp] theorem endF_rf (d : List D) (ρ : En) : endF (.ok (.rf d) ρ) = .ok d := (rfl)
@[simp] theorem endM_nx (ρ : En) (ys : List D) : endM (.ok .nx (.ow true ys :: ρ)) = .ok (.non, ys) := (rfl)
@[simp] theorem endM_rt (d : D) (ρ : En) (ys : List D) : endM (.ok (.rt d) (.ow true ys :: ρ)) = .ok (d, ys) := (rfl)
@[simp] theorem liftB_s (k : Bool) (ρ : En) : liftB (some k) ρ = .ok (.bl k) ρ := (rfl)
@[simp] theorem boolOf_bl (k : Bool) (ρ : En) : boolOf (.bl k) ρ = .ok k ρ := (rfl)
@[simp] theorem truB_bl (k : Bool) (ρ : En) : truB (.bl k) ρ = .ok k ρ := (rfl)
@[simp] theorem con_d1 : Con.d .non = .non := (rfl)
@[simp] theorem con_d2 (b : Bool) : Con.d (.bl b) = .bl b := (rfl)
@[simp] theorem con_d3 (i : Int) : Con.d (.int i) = .int i := (rfl)
@[simp] theorem con_d4 (x : Str) : Con.d (.str x) = .str x := (rfl)
@[simp] theorem andV_bl (f : En → R D) (b : Bool) (ρ : En) : andV f (.bl b) ρ = if b = true then f ρ else .ok (.bl b) ρ := by cases b <;> rfl
@[simp] theorem orV_bl (f : En → R D) (b : Bool) (ρ : En) : orV f (.bl b) ρ = if b = true then .ok (.bl b) ρ else f ρ := by cases b <;> rfl
@[simp] theorem notV_bl (b : Bool) : notV (.bl b) = some (.bl !b) := (rfl)
@[simp] theorem neg1_int (i : Int) : neg1 (.int i) = some (.int (-i)) := (rfl)
@[simp] theorem op_add (i j : Int) : op2 .Add (.int i) (.int j) = some (.int (i + j)) := (rfl)
@[simp] theorem op_sub (i j : Int) : op2 .Sub (.int i) (.int j) = some (.int (i - j)) := (rfl)
@[simp] theorem aop_add (i j : Int) : aop2 .Add (.int i) (.int j) = some (.int (i + j)) := (rfl)
@[simp] theorem aop_sub (i j : Int) : aop2 .Sub (.int i) (.int j) = some (.int (i - j)) := (rfl)
theorem aop_mul (i j : Int) (h : (-(2 ^ 64) < i ∧ i < 2 ^ 64) ∨ (-(2 ^ 64) < j ∧ j < 2 ^ 64)) : aop2 .Mult (.int i) (.int j) = some (.int (i * j)) := by
  show (if _ then _ else _) = _
  rw [if_pos h]
theorem op_mul (i j : Int) (h : mulOk i j = true) : op2 .Mult (.int i) (.int j) = some (.int (i * j)) := by
  show (if _ then _ else _) = _
  rw [if_pos h]
theorem mulOk_r (i j : Int) (h : -18446744073709551616 < j ∧ j < 18446744073709551616) : mulOk i j = true := by
  unfold mulOk
  rw [Bool.or_eq_true, Bool.or_eq_true]
  exact .inl (.inl (decide_eq_true (by omega)))
theorem mulOk_l (i j : Int) (h : -18446744073709551616 < i ∧ i < 18446744073709551616) : mulOk i j = true := by
  unfold mulOk
  rw [Bool.or_eq_true, Bool.or_eq_true]
  exact .inl (.inr (decide_eq_true (by omega)))
theorem divOk_s (j : Int) (h : 0 < j ∧ j < 18446744073709551616) : divOk j = true := by
  unfold divOk BIGD
  rw [Bool.and_eq_true]
  refine ⟨decide_eq_true h.1, decide_eq_true ?_⟩
  have : j.natAbs < 2 ^ 64 := by omega
  exact Nat.lt_of_lt_of_le this (Nat.pow_le_pow_right (by decide) (by decide))
theorem op_fdiv (i j : Int) (h : 0 < j ∧ j < 18446744073709551616) : op2 .FloorDiv (.int i) (.int j) = some (.int (i / j)) := by
  show (if _ then _ else _) = _
  rw [if_pos (divOk_s j h)]
theorem op_mod (i j : Int) (h : 0 < j) : op2 .Mod (.int i) (.int j) = some (.int (i % j)) := by
  show (if _ then _ else _) = _
  rw [if_pos h]
@[simp] theorem cmp_lt (i j : Int) : cmpD .Lt (.int i) (.int j) = some (decide (i < j)) := (rfl)
@[simp] theorem cmp_le (i j : Int) : cmpD .LtE (.int i) (.int j) = some (decide (i ≤ j)) := (rfl)
@[simp] theorem cmp_gt (i j : Int) : cmpD .Gt (.int i) (.int j) = some (decide (j < i)) := (rfl)
@[simp] theorem cmp_ge (i j : Int) : cmpD .GtE (.int i) (.int j) = some (decide (j ≤ i)) := (rfl)
@[simp] theorem cmp_eqI (i j : Int) : cmpD .Eq (.int i) (.int j) = some (i == j) := (rfl)
@[simp] theorem cmp_neI (i j : Int) : cmpD .NotEq (.int i) (.int j) = some (!(i == j)) := (rfl)
@[simp] theorem cmp_eqB (i j : Bool) : cmpD .Eq (.bl i) (.bl j) = some (i == j) := (rfl)
@[simp] theorem cmp_neB (i j : Bool) : cmpD .NotEq (.bl i) (.bl j) = some (!(i == j)) := (rfl)
@[simp] theorem cmp_isN (x : D) : cmpD .Is x .non = some (match x with | .non => true | _ => false) := by cases x <;> rfl
@[simp] theorem cmp_isnN (x : D) : cmpD .IsNot x .non = some (!(match x with | .non => true | _ => false)) := by cases x <;> rfl
theorem forL_nil (g : D → En → Option En) (fb : En → R Fl) (ρ : En) : forL g fb [] ρ = .ok .nx ρ := rfl
theorem forL_cons (g : D → En → Option En) (fb : En → R Fl) (d : D) (ds : List D) (ρ : En) : forL g fb (d :: ds) ρ = match g d ρ with
    | none => .bad
    | some ρ1 => (fb ρ1).bind fun fl ρ2 =>
      match fl with
      | .nx => forL g fb ds ρ2
      | .ct => forL g fb ds ρ2
      | .bk => .ok .nx ρ2
      | .rt d => .ok (.rt d) ρ2
      | .rf xs => .ok (.rf xs) ρ2 := rfl

theorem forL_one {g : D → En → Option En} {fb : En → R Fl} {d : D} {ds : List D} {ρ ρ1 ρ2 : En} (hg : g d ρ = some ρ1) (hb : fb ρ1 = .ok .nx ρ2) : forL g fb (d :: ds) ρ = forL g fb ds ρ2 := by
  rw [forL_cons, hg]
  simp [hb]
@[simp] theorem parR_e (is : List Nat) (fs : En → R (List Sl)) (ρ : En) : parR is fs ρ = (fs ρ).bind fun ss ρ1 => (R.lift (setPs is ss ρ1) ρ1).bind fun ρ2 _ => .ok .nx ρ2 := (rfl)
/-- no caller's list -/
def Nt : Sl → Prop
  | .ow true _ => False
  | _ => True
@[simp] theorem nt_un : Nt .un := trivial
@[simp] theorem nt_va (d : D) : Nt (.va d) := trivial
@[simp] theorem nt_ow (xs : Ob) : Nt (.ow false xs) := trivial
@[simp] theorem obd_lst (xs : List D) : Ob.d (.lst xs) = .lst xs := (rfl)
@[simp] theorem obd_dK (ks : List Key) (xs : List D) : Ob.d (.dK ks xs) = .dK ks xs := (rfl)
@[simp] theorem obd_dT (ks : List (List Key)) (xs : List D) : Ob.d (.dT ks xs) = .dT ks xs := (rfl)
theorem setV_z' {s : Sl} {ρ : En} {d : D} (h : Nt s) : setV 0 d (s :: ρ) = some (.va d :: ρ) := by
  cases s with
  | un => rfl
  | va e => rfl
  | ow io xs => cases io with
    | true => exact h.elim
    | false => rfl
@[simp] theorem setV_z {s : Sl} {ρ : En} {d : D} (h : Nt s) : setV 0 d (s :: ρ) = some (.va d :: ρ) := setV_z' h
@[simp] theorem setV_s {s : Sl} {ρ : En} {d : D} {i : Nat} : setV (i + 1) d (s :: ρ) = (setV i d ρ).map (s :: ·) := by
  unfold setV
  rw [List.getElem?_cons_succ]
  split <;> simp_all
@[simp] theorem setO_z {s : Sl} {ρ : En} {ds : Ob} (h : Nt s) : setO 0 ds (s :: ρ) = some (.ow false ds :: ρ) := by
  cases s with
  | un => rfl
  | va e => rfl
  | ow io xs => cases io with
    | true => exact h.elim
    | false => rfl
@[simp] theorem setO_s {s : Sl} {ρ : En} {ds : Ob} {i : Nat} : setO (i + 1) ds (s :: ρ) = (setO i ds ρ).map (s :: ·) := by
  unfold setO
  rw [List.getElem?_cons_succ]
  split <;> simp_all
@[simp] theorem modO_z {f : List D → Option (List D)} {io : Bool} {xs : List D} {ρ : En} : modO 0 f (.ow io xs :: ρ) = (f xs).map fun ys => .ow io ys :: ρ := (rfl)
@[simp] theorem modO_s {f : List D → Option (List D)} {s : Sl} {ρ : En} {i : Nat} : modO (i + 1) f (s :: ρ) = (modO i f ρ).map (s :: ·) := by
  unfold modO
  rw [List.getElem?_cons_succ]
  cases h : ρ[i]? with
  | none => rfl
  | some t =>
    cases t with
    | ow io xs =>
      cases xs with
      | lst xs => dsimp only; cases f xs <;> rfl
      | _ => rfl
    | _ => rfl
@[simp] theorem asgT_nm (i : Nat) (d : D) (ρ : En) : asgT (.nm i) d ρ = setV i d ρ := (rfl)
@[simp] theorem asgT_tup (is : List Nat) (ds : List D) (ρ : En) : asgT (.tup is) (.tup ds) ρ = setVs is ds ρ := (rfl)
@[simp] theorem setVs_n (ρ : En) : setVs [] [] ρ = some ρ := (rfl)
@[simp] theorem setVs_c (i : Nat) (is : List Nat) (d : D) (ds : List D) (ρ : En) : setVs (i :: is) (d :: ds) ρ = (setV i d ρ).bind (setVs is ds) := (rfl)
@[simp] theorem setPs_n (ρ : En) : setPs [] [] ρ = some ρ := (rfl)
@[simp] theorem setPs_c (i : Nat) (is : List Nat) (s : Sl) (ss : List Sl) (ρ : En) : setPs (i :: is) (s :: ss) ρ = (setP i s ρ).bind (setPs is ss) := (rfl)
@[simp] theorem setP_v (i : Nat) (d : D) (ρ : En) : setP i (.va d) ρ = setV i d ρ := (rfl)
@[simp] theorem setP_o (i : Nat) (ds : Ob) (ρ : En) : setP i (.ow false ds) ρ = setO i ds ρ := (rfl)
@[simp] theorem b2_min (i j : Int) : b2 .min (.int i) (.int j) = some (.int (min i j)) := by
  show some (D.int (if j < i then j else i)) = _
  congr 2
  split <;> omega
@[simp] theorem b2_max (i j : Int) : b2 .max (.int i) (.int j) = some (.int (max i j)) := by
  show some (D.int (if j > i then j else i)) = _
  congr 2
  split <;> omega
@[simp] theorem b1_len_l (xs : List D) : b1 .len (.lst xs) = some (.int xs.length) := (rfl)
@[simp] theorem b1_len_t (xs : List D) : b1 .len (.tup xs) = some (.int xs.length) := (rfl)
@[simp] theorem b1_abs (i : Int) : b1 .abs (.int i) = some (.int (if i < 0 then -i else i)) := (rfl)
@[simp] theorem b1_int (i : Int) : b1 .int (.int i) = some (.int i) := (rfl)
@[simp] theorem b1_intb (k : Bool) : b1 .int (.bl k) = some (.int (if k then 1 else 0)) := (rfl)
theorem appF_ok (d : D) (xs : List D) (h : xs.length < 16777216) : appF d xs = some (xs ++ [d]) := by
  unfold appF
  rw [if_pos (show xs.length < LN from h)]
/-- the numbers a .. b-1 -/
def nums (a : Int) (k : Nat) : List D := (List.range k).map fun (j : Nat) => D.int (a + (j : Int))
theorem nums_succ (a : Int) (k : Nat) : nums a (k + 1) = .int a :: nums (a + 1) k := by
  unfold nums
  rw [List.range_succ_eq_map, List.map_cons, List.map_map]
  congr 1
  · simp
  · apply List.map_congr_left
    intro j _
    show D.int _ = D.int _
    congr 1
    simp only [Nat.succ_eq_add_one]
    omega
@[simp] theorem nums_zero (a : Int) : nums a 0 = [] := (rfl)
theorem nums_len (a : Int) (k : Nat) : (nums a k).length = k := by unfold nums; rw [List.length_map, List.length_range]
theorem rng_1 (j : Int) (h : -(2 ^ 62) ≤ j ∧ j < 2 ^ 62) : rng [.int j] = some (nums 0 j.toNat) := by
  show (if _ then _ else _) = _
  rw [if_pos h]
  rfl
theorem rng_2 (i j : Int) (h : -(2 ^ 62) ≤ i ∧ i < 2 ^ 62 ∧ -(2 ^ 62) ≤ j ∧ j < 2 ^ 62) : rng [.int i, .int j] = some (nums i (j - i).toNat) := by
  show (if _ then _ else _) = _
  rw [if_pos h]
  rfl
/-- lists of whole numbers, of truths -/
def IL (ns : List Int) : D := .lst (ns.map .int)
def BL (bs : List Bool) : D := .lst (bs.map .bl)
theorem bls_map (bs : List Bool) : bls? (bs.map .bl) = some bs := by
  induction bs with
  | nil => rfl
  | cons b bs ih => simp [bls?, ih]
theorem ints_map (ns : List Int) : ints? (ns.map .int) = some ns := by
  induction ns with
  | nil => rfl
  | cons b bs ih => simp [ints?, ih]
theorem b1_all (bs : List Bool) : b1 .all (.lst (bs.map .bl)) = some (.bl (bs.all id)) := by
  show (bls? _).bind _ = _
  rw [bls_map]; rfl
theorem shp_ints (n : Nat) (ns : List Int) : shp (n + 1) (.lst (ns.map .int)) = true := by
  show (ns.map D.int).all (shp n) = true
  rw [List.all_map, List.all_eq_true]
  intro x _
  cases n <;> rfl
theorem shp_bls (n : Nat) (ns : List Bool) : shp (n + 1) (.lst (ns.map .bl)) = true := by
  show (ns.map D.bl).all (shp n) = true
  rw [List.all_map, List.all_eq_true]
  intro x _
  cases n <;> rfl
theorem eqDs_ints : ∀ (ns ms : List Int), eqDs (ns.map .int) (ms.map .int) = decide (ns = ms)
  | [], [] => rfl
  | [], _ :: _ => by simp [eqDs]
  | _ :: _, [] => by simp [eqDs]
  | n :: ns, m :: ms => by
    show (n == m && eqDs (ns.map .int) (ms.map .int)) = _
    rw [eqDs_ints ns ms, Bool.eq_iff_iff]
    simp
theorem eqDs_bls : ∀ (ns ms : List Bool), eqDs (ns.map .bl) (ms.map .bl) = decide (ns = ms)
  | [], [] => rfl
  | [], _ :: _ => by simp [eqDs]
  | _ :: _, [] => by simp [eqDs]
  | n :: ns, m :: ms => by
    show (n == m && eqDs (ns.map .bl) (ms.map .bl)) = _
    rw [eqDs_bls ns ms, Bool.eq_iff_iff]
    simp
theorem cmp_eqIL (ns ms : List Int) : cmpD .Eq (.lst (ns.map .int)) (.lst (ms.map .int)) = some (decide (ns = ms)) := by
  show (if _ then _ else _) = _
  rw [if_pos ⟨shp_ints _ _, shp_ints _ _⟩]
  exact congrArg some (eqDs_ints ns ms)
theorem cmp_neIL (ns ms : List Int) : cmpD .NotEq (.lst (ns.map .int)) (.lst (ms.map .int)) = some (!decide (ns = ms)) := by
  show (if _ then _ else _) = _
  rw [if_pos ⟨shp_ints _ _, shp_ints _ _⟩]
  exact congrArg (fun b => some (!b)) (eqDs_ints ns ms)
theorem cmp_neBL (ns ms : List Bool) : cmpD .NotEq (.lst (ns.map .bl)) (.lst (ms.map .bl)) = some (!decide (ns = ms)) := by
  show (if _ then _ else _) = _
  rw [if_pos ⟨shp_bls _ _, shp_bls _ _⟩]
  exact congrArg (fun b => some (!b)) (eqDs_bls ns ms)
/-- x[i] -/
theorem ixD_lst (xs : List D) (k : Nat) (d : D) (h : xs[k]? = some d) (hk : (k : Int) < 2 ^ 62) : ixD (.lst xs) (.int k) = some d := by
  show (ixN xs.length (k : Int)).bind (fun j => xs[j]?) = _
  obtain ⟨hl, _⟩ := List.getElem?_eq_some_iff.mp h
  unfold ixN
  rw [if_pos (by omega), if_pos (by omega)]
  simpa using h

theorem compL_ok {α : Type} {g : D → En → Option En} {ft : En → R Bool} {fe : En → R D} {vs : List Nat} {ρw : En} {f : α → D} (p : α → Bool) (h : α → D) : ∀ (xs : List α),
    (∀ x ∈ xs, ∃ ρ1, g (f x) ρw = some ρ1 ∧ ft ρ1 = .ok (p x) ρ1 ∧ (p x = true → ∃ ρ2, fe ρ1 = .ok (h x) ρ2 ∧ wipeR ρ2 vs = ρw) ∧ (p x = false → wipeR ρ1 vs = ρw)) →
    compL g ft fe vs (xs.map f) ρw = .ok ((xs.filter p).map h) ρw
  | [], _ => rfl
  | x :: xs, H => by
    obtain ⟨ρ1, h1, h2, h3, h4⟩ := H x List.mem_cons_self
    have ih := compL_ok p h xs fun y hy => H y (List.mem_cons_of_mem _ hy)
    rw [List.map_cons]
    unfold compL
    rw [h1]
    dsimp only
    rw [h2]
    cases hp : p x with
    | false =>
      rw [List.filter_cons_of_neg (by rw [hp]; decide)]
      simp [h4 hp, ih]
    | true =>
      obtain ⟨ρ2, h5, h6⟩ := h3 hp
      rw [List.filter_cons_of_pos hp]
      simp [h5, h6, ih]
/-- a comprehension whose turns leave the rest as it is -/
theorem compR_ok {α : Type} {T : Tg} {fi : En → R (List D)} {ft : En → R Bool} {fe : En → R D} {vs : List Nat} {ρ ρ1 ρw ρ' : En} {f : α → D} (p : α → Bool) (h : α → D) (xs : List α) (hi : fi ρ = .ok (xs.map f) ρ1) (hw : wipeR ρ1 vs = ρw) (hb : backR ρ1 ρw vs = ρ')
    (H : ∀ x ∈ xs, ∃ ρ1, asgT T (f x) ρw = some ρ1 ∧ ft ρ1 = .ok (p x) ρ1 ∧ (p x = true → ∃ ρ2, fe ρ1 = .ok (h x) ρ2 ∧ wipeR ρ2 vs = ρw) ∧ (p x = false → wipeR ρ1 vs = ρw)) :
    compR T fi ft fe vs ρ = .ok ((xs.filter p).map h) ρ' := by
  unfold compR
  rw [hi, R.bind_ok, hw, compL_ok p h xs H, R.bind_ok, hb]
/-- .. without a test -/
theorem compR_all {α : Type} {T : Tg} {fi : En → R (List D)} {ft : En → R Bool} {fe : En → R D} {vs : List Nat} {ρ ρ1 ρw ρ' : En} {f : α → D} (h : α → D) (xs : List α) (hi : fi ρ = .ok (xs.map f) ρ1) (hw : wipeR ρ1 vs = ρw) (hb : backR ρ1 ρw vs = ρ')
    (H : ∀ x ∈ xs, ∃ ρ1, asgT T (f x) ρw = some ρ1 ∧ ft ρ1 = .ok true ρ1 ∧ ∃ ρ2, fe ρ1 = .ok (h x) ρ2 ∧ wipeR ρ2 vs = ρw) :
    compR T fi ft fe vs ρ = .ok (xs.map h) ρ' := by
  have q := compR_ok (T := T) (fi := fi) (ft := ft) (fe := fe) (vs := vs) (f := f) (fun _ => true) h xs hi hw hb fun x hx => by
    obtain ⟨ρ1, h1, h2, h3⟩ := H x hx
    exact ⟨ρ1, h1, h2, fun _ => h3, fun z => by cases z⟩
  rw [List.filter_eq_self.mpr (fun _ _ => rfl)] at q
  exact q
@[simp] theorem few_ok (xs : List D) (ρ : En) (h : xs.length ≤ 16777216) : few xs ρ = .ok xs ρ := by
  unfold few
  rw [if_pos (show xs.length ≤ LN from h)]
@[simp] theorem itD_lst (xs : List D) : itD (.lst xs) = some xs := (rfl)
@[simp] theorem itN_lst (xs ys : List D) (ρ : En) : itN (.lst xs) ys ρ = .ok ys ρ := (rfl)
@[simp] theorem itD_scr (ns : List Int) : itD (.scr ns) = some (ns.map .int) := (rfl)
@[simp] theorem itN_scr (ns : List Int) (ys : List D) (ρ : En) : itN (.scr ns) ys ρ = .ok ys ρ := (rfl)
theorem sIx_k (n d k : Nat) : HT.sIx n d (some (k : Int)) = min k n := by
  show (if (k : Int) < 0 then ((k : Int) + (n : Int)).toNat else min (k : Int).toNat n) = min k n
  rw [if_neg (by omega), Int.toNat_natCast]
theorem sIx_n (n d : Nat) : HT.sIx n d none = d := rfl
theorem cutD_from (xs : List D) (k : Nat) : cutD xs (some (k : Int)) none = xs.drop k := by
  unfold cutD
  rw [sIx_k, sIx_n, List.take_of_length_le (by rw [List.length_drop]; omega)]
  by_cases h : k ≤ xs.length
  · rw [Nat.min_eq_left h]
  · rw [Nat.min_eq_right (by omega), List.drop_of_length_le (by omega), List.drop_of_length_le (by omega)]
theorem cutD_to (xs : List D) (k : Nat) : cutD xs none (some (k : Int)) = xs.take k := by
  unfold cutD
  rw [sIx_k, sIx_n, List.drop_zero, Nat.sub_zero]
  by_cases h : k ≤ xs.length
  · rw [Nat.min_eq_left h]
  · rw [Nat.min_eq_right (by omega), List.take_of_length_le (by omega), List.take_of_length_le (by omega)]
theorem atI_get {α : Type} (xs : List α) (k : Nat) (d : α) (h : xs[k]? = some d) : L2.atI xs (k : Int) = some d := by
  obtain ⟨hl, _⟩ := List.getElem?_eq_some_iff.mp h
  unfold L2.atI L2.ixN
  rw [if_pos (by omega), if_pos (by omega)]
  simpa using h
theorem ixD_tup (xs : List D) (k : Nat) (d : D) (h : xs[k]? = some d) : ixD (.tup xs) (.int k) = some d := atI_get xs k d h
theorem ixD_ls (xs : List D) (k : Nat) (d : D) (h : xs[k]? = some d) : ixD (.lst xs) (.int k) = some d := atI_get xs k d h
theorem cmp_eqS (x : Str) : cmpD .Eq (.str x) (.str x) = some true := by
  show (if (shp 60 (.str x) = true ∧ shp 60 (.str x) = true) then some (eqD (.str x) (.str x)) else none) = _
  rw [if_pos ⟨rfl, rfl⟩]
  show some (x == x) = _
  simp
theorem ixD_last (xs : List D) (d : D) : ixD (.lst (xs ++ [d])) (.int (-1)) = some d := by
  show (L2.ixN (xs ++ [d]).length (-1)).bind (fun j => (xs ++ [d])[j]?) = some d
  unfold L2.ixN
  rw [List.length_append, List.length_singleton, if_neg (by omega), if_pos (by omega)]
  have : (-1 + ((xs.length + 1 : Nat) : Int)).toNat = xs.length := by omega
  rw [this]
  simp
/-! ### dicts -/
@[simp] theorem evE_d1 {G : Gs} {neg a l} (s : Sl) (ρ : En) : evE G (.isin neg a l) (s :: ρ) = (evE G a (s :: ρ)).bind fun x ρ1 => (evL G l ρ1).bind fun y ρ2 => liftB (isinD neg x y) ρ2 := (rfl)
@[simp] theorem evE_d2 {G : Gs} {g} (s : Sl) (ρ : En) : evE G (.frD g) (s :: ρ) = (evG G g (s :: ρ)).bind fun b ρ1 => .ok b.d ρ1 := (rfl)
@[simp] theorem evE_d3 {G : Gs} {op i b} (s : Sl) (ρ : En) : evE G (.cmpV op i b) (s :: ρ) = (rdL (s :: ρ) i).bind fun _ ρ0 => (evE G b ρ0).bind fun y ρ1 => (rdL ρ1 i).bind fun x ρ2 => liftB (cmpL op x y) ρ2 := (rfl)
@[simp] theorem evE_d4 {G : Gs} {k i j} (s : Sl) (ρ : En) : evE G (.callMO k i j) (s :: ρ) = Ev.callMO i j (G.dM k) (s :: ρ) := (rfl)
@[simp] theorem evB_d2 {G : Gs} {op i b} (s : Sl) (ρ : En) : evB G (.cmpV op i b) (s :: ρ) = ((rdL (s :: ρ) i).bind fun _ ρ0 => (evE G b ρ0).bind fun y ρ1 => (rdL ρ1 i).bind fun x ρ2 => liftB (cmpL op x y) ρ2).bind boolOf := (rfl)
@[simp] theorem evB_d1 {G : Gs} {neg a l} (s : Sl) (ρ : En) : evB G (.isin neg a l) (s :: ρ) = ((evE G a (s :: ρ)).bind fun x ρ1 => (evL G l ρ1).bind fun y ρ2 => liftB (isinD neg x y) ρ2).bind boolOf := (rfl)
@[simp] theorem evF_d1 {G : Gs} {es} (s : Sl) (ρ : En) : evF G (.lstS es) (s :: ρ) = (evAs G es (s :: ρ)).bind few := (rfl)
@[simp] theorem evAs_1 {G : Gs} (s : Sl) (ρ : En) : evAs G .nil (s :: ρ) = .ok [] (s :: ρ) := (rfl)
@[simp] theorem evAs_2 {G : Gs} {e es} (s : Sl) (ρ : En) : evAs G (.cons e es) (s :: ρ) = (evE G e (s :: ρ)).bind fun x ρ1 => (evAs G es ρ1).bind fun xs ρ2 => .ok (x :: xs) ρ2 := (rfl)
@[simp] theorem evAs_3 {G : Gs} {e es} (s : Sl) (ρ : En) : evAs G (.star e es) (s :: ρ) = (evE G e (s :: ρ)).bind fun y ρ1 => (R.lift (seqD y) ρ1).bind fun ys ρ2 => (evAs G es ρ2).bind fun xs ρ3 => .ok (ys ++ xs) ρ3 := (rfl)
@[simp] theorem evG_1 {G : Gs} {t} (s : Sl) (ρ : En) : evG G (.new t) (s :: ρ) = .ok (newD t) (s :: ρ) := (rfl)
@[simp] theorem evG_2 {G : Gs} {t tg it cd k v vs} (s : Sl) (ρ : En) : evG G (.comp t tg it cd k v vs) (s :: ρ) = compDR t tg (evI G it) (evC G cd) (evE G k) (evE G v) vs (s :: ρ) := (rfl)
@[simp] theorem evP_d1 {G : Gs} {g p} (s : Sl) (ρ : En) : evP G (.cD g p) (s :: ρ) = (evG G g (s :: ρ)).bind fun b ρ1 => (evP G p ρ1).bind fun ss ρ2 => .ok (.ow false b :: ss) ρ2 := (rfl)
@[simp] theorem evS_d1 {G : Gs} {i b e} (s : Sl) (ρ : En) : evS G (.putI i b e) (s :: ρ) = (evE G e (s :: ρ)).bind fun d ρ1 => (rdB ρ1 i).bind fun _ ρ0 => (evE G b ρ0).bind fun k ρ2 => (R.lift (modD i k d ρ2) ρ2).bind fun ρ3 _ => .ok .nx ρ3 := (rfl)
@[simp] theorem evS_d2 {G : Gs} {i g} (s : Sl) (ρ : En) : evS G (.ownD i g) (s :: ρ) = (evG G g (s :: ρ)).bind fun b ρ1 => (R.lift (setO i b ρ1) ρ1).bind fun ρ2 _ => .ok .nx ρ2 := (rfl)
@[simp] theorem newD_t : newD true = .dT [] [] := (rfl)
@[simp] theorem newD_f : newD false = .dK [] [] := (rfl)
@[simp] theorem rdB_z {io : Bool} {b : Ob} {ρ : En} : rdB (.ow io b :: ρ) 0 = .ok b (.ow io b :: ρ) := (rfl)
theorem rdB_of {ρ : En} {i : Nat} {io : Bool} {b : Ob} (h : ρ[i]? = some (.ow io b)) : rdB ρ i = .ok b ρ := by unfold rdB; rw [h]
@[simp] theorem modD_z {k d : D} {io : Bool} {b : Ob} {ρ : En} : modD 0 k d (.ow io b :: ρ) = (putB b k d).map fun b' => .ow io b' :: ρ := by
  cases b with
  | lst xs => rfl
  | dK ks xs =>
    show (keyD k).bind _ = ((keyD k).bind _).map _
    cases keyD k with
    | none => rfl
    | some j => dsimp only [Option.bind_some]; split <;> rfl
  | dT ks xs =>
    show (keyT k).bind _ = ((keyT k).bind _).map _
    cases keyT k with
    | none => rfl
    | some j => dsimp only [Option.bind_some]; split <;> rfl
@[simp] theorem modD_s {k d : D} {s : Sl} {ρ : En} {i : Nat} : modD (i + 1) k d (s :: ρ) = (modD i k d ρ).map (s :: ·) := by
  unfold modD
  rw [List.getElem?_cons_succ]
  cases h : ρ[i]? with
  | none => rfl
  | some t =>
    cases t with
    | ow io b =>
      cases b with
      | dK ks xs => dsimp only; cases keyD k <;> dsimp only [Option.bind_none, Option.bind_some, Option.map] ; split <;> rfl
      | dT ks xs => dsimp only; cases keyT k <;> dsimp only [Option.bind_none, Option.bind_some, Option.map] ; split <;> rfl
      | lst xs => rfl
    | _ => rfl
theorem noLs_int (ns : List Int) : noLs (ns.map D.int) = true := by
  induction ns with
  | nil => rfl
  | cons n ns ih => simp [noLs, noL, ih]
/-- a def that changes its first list looks at a thing of one's own -/
theorem callMO_ok {i j : Nat} {r : List D → List D → Cr (D × List D)} {ρ : En} {io io2 : Bool} {xs zs : List D} {d : D} {ys : List Int} (h1 : ρ[i]? = some (.ow io (.lst xs))) (h2 : ρ[j]? = some (.ow io2 (.lst zs))) (hij : i ≠ j) (hr : r xs [.lst zs] = .ok (d, ys.map D.int)) (hn : noL d = true) :
    Ev.callMO i j r ρ = .ok d (ρ.set i (.ow io (.lst (ys.map D.int)))) := by
  unfold Ev.callMO
  rw [h1, h2]
  simp only [hij, if_false, hr]
  rw [if_pos ⟨hn, noLs_int ys⟩]
theorem putB_T (ks : List (List Key)) (xs : List D) (k : D) (j : List Key) (d : D) (h : keyT k = some j) (hl : ks.length < 16777216) : putB (.dT ks xs) k d = some (.dT (putL ks xs j d).1 (putL ks xs j d).2) := by
  show (keyT k).bind _ = _
  rw [h, Option.bind_some, if_pos (show ks.length < LN from hl)]
theorem putB_K (ks : List Key) (xs : List D) (k : D) (j : Key) (d : D) (h : keyD k = some j) (hl : ks.length < 16777216) : putB (.dK ks xs) k d = some (.dK (putL ks xs j d).1 (putL ks xs j d).2) := by
  show (keyD k).bind _ = _
  rw [h, Option.bind_some, if_pos (show ks.length < LN from hl)]
@[simp] theorem itD_tup (xs : List D) : itD (.tup xs) = some xs := (rfl)
@[simp] theorem itN_tup (xs ys : List D) (ρ : En) : itN (.tup xs) ys ρ = .ok ys ρ := (rfl)
@[simp] theorem itD_dK (ks : List Key) (xs : List D) : itD (.dK ks xs) = some (ks.map kD) := (rfl)
@[simp] theorem itN_dK (ks : List Key) (xs : List D) (ys : List D) (ρ : En) : itN (.dK ks xs) ys ρ = few ys ρ := (rfl)
@[simp] theorem itD_dT (ks : List (List Key)) (xs : List D) : itD (.dT ks xs) = some (ks.map fun k => .tup (k.map kD)) := (rfl)
@[simp] theorem itN_dT (ks : List (List Key)) (xs : List D) (ys : List D) (ρ : En) : itN (.dT ks xs) ys ρ = few ys ρ := (rfl)
@[simp] theorem seqD_l (xs : List D) : seqD (.lst xs) = some xs := (rfl)
@[simp] theorem seqD_t (xs : List D) : seqD (.tup xs) = some xs := (rfl)
end Ev

end
section
set_option maxHeartbeats 1000000
namespace Ev
open PySem PySem.Spec PyProof.Rows L2
/-! ### what holds behind -/
@[irreducible] def Wp {α : Type} (r : R α) (Q : α → En → Prop) : Prop :=
  match r with
  | .ok a ρ => Q a ρ
  | _ => False
@[simp] theorem Wp_ok {α : Type} (a : α) (ρ : En) (Q : α → En → Prop) : Wp (.ok a ρ) Q = Q a ρ := by unfold Wp; rfl
theorem Wp_err {α : Type} (x : Nat) (ρ : En) (Q : α → En → Prop) : Wp (.err x ρ) Q = False := by unfold Wp; rfl
theorem Wp_bad {α : Type} (Q : α → En → Prop) : Wp .bad Q = False := by unfold Wp; rfl
@[simp] theorem Wp_bind {α β : Type} (r : R α) (k : α → En → R β) (Q : β → En → Prop) : Wp (r.bind k) Q = Wp r fun a ρ => Wp (k a ρ) Q := by
  cases r with
  | ok a ρ => rw [R.bind_ok, Wp_ok]
  | err x ρ => rw [R.bind_err, Wp_err, Wp_err]
  | bad => rw [R.bind_bad, Wp_bad, Wp_bad]
theorem Wp_of {α : Type} {r : R α} {a : α} {ρ : En} {Q : α → En → Prop} (h : r = .ok a ρ) (q : Q a ρ) : Wp r Q := by rw [h, Wp_ok]; exact q
theorem Wp.imp {α : Type} {r : R α} {Q Q' : α → En → Prop} (h : Wp r Q) (i : ∀ a ρ, Q a ρ → Q' a ρ) : Wp r Q' := by
  cases r with
  | ok a ρ => rw [Wp_ok] at h ⊢; exact i _ _ h
  | err => rw [Wp_err] at h; exact h.elim
  | bad => rw [Wp_bad] at h; exact h.elim
theorem Wp.ex {α : Type} {r : R α} {Q : α → En → Prop} (h : Wp r Q) : ∃ a ρ, r = .ok a ρ ∧ Q a ρ := by
  cases r with
  | ok a ρ => rw [Wp_ok] at h; exact ⟨a, ρ, rfl, h⟩
  | err => rw [Wp_err] at h; exact h.elim
  | bad => rw [Wp_bad] at h; exact h.elim
/-- behind a statement: on to the next, or the end -/
@[simp] theorem Wp_then_nx (k : En → R Fl) (ρ : En) (Q : Fl → En → Prop) : Wp (thenS k .nx ρ) Q = Wp (k ρ) Q := (rfl)
theorem endD_wp {r : R Fl} {d : D} (h : Wp r fun f _ => f = .rt d) : endD r = .ok d := by
  obtain ⟨f, ρ, rfl, rfl⟩ := h.ex; rfl
theorem endD_wpN {r : R Fl} (h : Wp r fun f _ => f = .nx) : endD r = .ok .non := by
  obtain ⟨f, ρ, rfl, rfl⟩ := h.ex; rfl
theorem endF_wp {r : R Fl} {d : List D} (h : Wp r fun f _ => f = .rf d) : endF r = .ok d := by
  obtain ⟨f, ρ, rfl, rfl⟩ := h.ex; rfl
theorem endM_wp {r : R Fl} {d : D} {ys : List D} (h : Wp r fun f ρ => f = .rt d ∧ ∃ ρ', ρ = .ow true ys :: ρ') : endM r = .ok (d, ys) := by
  obtain ⟨f, ρ, rfl, rfl, ρ', rfl⟩ := h.ex; rfl
theorem endD_wpx {r : R Fl} {P : D → Prop} (h : Wp r fun f _ => ∃ d, f = .rt d ∧ P d) : ∃ d, endD r = .ok d ∧ P d := by
  obtain ⟨f, ρ, rfl, d, rfl, p⟩ := h.ex; exact ⟨d, rfl, p⟩
theorem endF_wpx {r : R Fl} {P : List D → Prop} (h : Wp r fun f _ => ∃ d, f = .rf d ∧ P d) : ∃ d, endF r = .ok d ∧ P d := by
  obtain ⟨f, ρ, rfl, d, rfl, p⟩ := h.ex; exact ⟨d, rfl, p⟩
theorem endM_wpx {r : R Fl} {P : D → List D → Prop} (h : Wp r fun f ρ => ∃ (d : D) (ys : List D) (ρ' : En), f = .rt d ∧ ρ = .ow true ys :: ρ' ∧ P d ys) : ∃ d ys, endM r = .ok (d, ys) ∧ P d ys := by
  obtain ⟨f, ρ, rfl, d, ys, ρ', rfl, rfl, p⟩ := h.ex; exact ⟨d, ys, rfl, p⟩
/-- what a def ends with -/
def retD (J : D → Prop) (f : Fl) (_ : En) : Prop := match f with
  | .rt d => J d
  | .nx => J .non
  | _ => False
def retF (J : List D → Prop) (f : Fl) (_ : En) : Prop := match f with
  | .rf d => J d
  | _ => False
def retM (J : D → List D → Prop) (f : Fl) (ρ : En) : Prop := match f, ρ with
  | .rt d, .ow true (.lst ys) :: _ => J d ys
  | .nx, .ow true (.lst ys) :: _ => J .non ys
  | _, _ => False
@[simp] theorem retD_rt (J : D → Prop) (d : D) (ρ : En) : retD J (.rt d) ρ = J d := (rfl)
@[simp] theorem retD_nx (J : D → Prop) (ρ : En) : retD J .nx ρ = J .non := (rfl)
@[simp] theorem retF_rf (J : List D → Prop) (d : List D) (ρ : En) : retF J (.rf d) ρ = J d := (rfl)
@[simp] theorem retM_rt (J : D → List D → Prop) (d : D) (ys : List D) (ρ : En) : retM J (.rt d) (.ow true ys :: ρ) = J d ys := (rfl)
@[simp] theorem retM_nx (J : D → List D → Prop) (ys : List D) (ρ : En) : retM J .nx (.ow true ys :: ρ) = J .non ys := (rfl)
theorem endD_J {r : R Fl} {P : D → Prop} (h : ∀ J : D → Prop, (∀ d, P d → J d) → Wp r (retD J)) : ∃ d, endD r = .ok d ∧ P d := by
  obtain ⟨f, ρ, rfl, q⟩ := (h P fun _ z => z).ex
  cases f with
  | rt d => exact ⟨d, rfl, q⟩
  | nx => exact ⟨.non, rfl, q⟩
  | _ => exact q.elim
theorem endF_J {r : R Fl} {P : List D → Prop} (h : ∀ J : List D → Prop, (∀ d, P d → J d) → Wp r (retF J)) : ∃ d, endF r = .ok d ∧ P d := by
  obtain ⟨f, ρ, rfl, q⟩ := (h P fun _ z => z).ex
  cases f with
  | rf d => exact ⟨d, rfl, q⟩
  | _ => exact q.elim
theorem endM_J {r : R Fl} {P : D → List D → Prop} (h : ∀ J : D → List D → Prop, (∀ d ys, P d ys → J d ys) → Wp r (retM J)) : ∃ d ys, endM r = .ok (d, ys) ∧ P d ys := by
  obtain ⟨f, ρ, rfl, q⟩ := (h P fun _ _ z => z).ex
  cases f with
  | rt d =>
    cases ρ with
    | nil => exact q.elim
    | cons s ρ => cases s with
      | ow io ys => cases ys <;> cases io <;> first | exact q.elim | exact ⟨d, _, rfl, q⟩
      | _ => exact q.elim
  | nx =>
    cases ρ with
    | nil => exact q.elim
    | cons s ρ => cases s with
      | ow io ys => cases ys <;> cases io <;> first | exact q.elim | exact ⟨.non, _, rfl, q⟩
      | _ => exact q.elim
  | _ => exact q.elim
/-- a store, then .. -/
def oW (o : Option En) (P : En → Prop) : Prop := match o with
  | some ρ => P ρ
  | none => False
@[simp] theorem oW_some (ρ : En) (P : En → Prop) : oW (some ρ) P = P ρ := (rfl)
/-- behind a loop's turn -/
def fw (Q : Fl → En → Prop) (J : En → Prop) (f : Fl) (ρ : En) : Prop := match f with
  | .nx => J ρ
  | .ct => J ρ
  | .bk => Q .nx ρ
  | .rt d => Q (.rt d) ρ
  | .rf d => Q (.rf d) ρ
@[simp] theorem fw_nx (Q : Fl → En → Prop) (J : En → Prop) (ρ : En) : fw Q J .nx ρ = J ρ := (rfl)
@[simp] theorem fw_ct (Q : Fl → En → Prop) (J : En → Prop) (ρ : En) : fw Q J .ct ρ = J ρ := (rfl)
@[simp] theorem fw_bk (Q : Fl → En → Prop) (J : En → Prop) (ρ : En) : fw Q J .bk ρ = Q .nx ρ := (rfl)
@[simp] theorem fw_rt (Q : Fl → En → Prop) (J : En → Prop) (d : D) (ρ : En) : fw Q J (.rt d) ρ = Q (.rt d) ρ := (rfl)
@[simp] theorem fw_rf (Q : Fl → En → Prop) (J : En → Prop) (d : List D) (ρ : En) : fw Q J (.rf d) ρ = Q (.rf d) ρ := (rfl)
/-- a loop: I speaks of the items that are left -/
theorem wp_for {α : Type} {f : α → D} {g : D → En → Option En} {fb : En → R Fl} {Q : Fl → En → Prop} (I : List α → En → Prop) {xs : List α} {ρ : En} (h0 : I xs ρ)
    (hs : ∀ J : List α → En → Prop, (∀ ys ρ, I ys ρ → J ys ρ) → ∀ y ys ρ, I (y :: ys) ρ → oW (g (f y) ρ) fun ρ1 => Wp (fb ρ1) (fw Q (J ys)))
    (he : ∀ ρ, I [] ρ → Q .nx ρ) : Wp (forL g fb (xs.map f) ρ) Q := by
  induction xs generalizing ρ with
  | nil => exact Wp_of rfl (he ρ h0)
  | cons x xs ih =>
    have h := hs I (fun _ _ z => z) x xs ρ h0
    rw [List.map_cons, forL_cons]
    cases hg : g (f x) ρ with
    | none => rw [hg] at h; exact h.elim
    | some ρ1 =>
      rw [hg] at h
      obtain ⟨fl, ρ2, e, q⟩ := Wp.ex (show Wp (fb ρ1) (fw Q (I xs)) from h)
      dsimp only
      rw [e, R.bind_ok]
      cases fl with
      | nx => exact ih q
      | ct => exact ih q
      | bk => exact Wp_of rfl q
      | rt d => exact Wp_of rfl q
      | rf d => exact Wp_of rfl q
/-- a loop over a .. b-1: I speaks of the number that is next -/
theorem wp_forN {g : D → En → Option En} {fb : En → R Fl} {Q : Fl → En → Prop} (I : Nat → En → Prop) {a : Int} {n : Nat} {ρ : En} (h0 : I 0 ρ)
    (hs : ∀ J : Nat → En → Prop, (∀ k ρ, I k ρ → J k ρ) → ∀ k ρ, k < n → I k ρ → oW (g (.int (a + (k : Int))) ρ) fun ρ1 => Wp (fb ρ1) (fw Q (J (k + 1))))
    (he : ∀ ρ, I n ρ → Q .nx ρ) : Wp (forL g fb (nums a n) ρ) Q := by
  have go : ∀ (m k : Nat) (ρ : En), k + m = n → I k ρ → Wp (forL g fb (nums (a + (k : Int)) m) ρ) Q := by
    intro m
    induction m with
    | zero => intro k ρ e i; simp only [Nat.add_zero] at e; subst e; exact Wp_of rfl (he ρ i)
    | succ m ih =>
      intro k ρ e i
      have h := hs I (fun _ _ z => z) k ρ (by omega) i
      rw [nums_succ, forL_cons]
      cases hg : g (.int (a + (k : Int))) ρ with
      | none => rw [hg] at h; exact h.elim
      | some ρ1 =>
        rw [hg] at h
        obtain ⟨fl, ρ2, e2, q⟩ := Wp.ex (show Wp (fb ρ1) (fw Q (I (k + 1))) from h)
        have nx : I (k + 1) ρ2 → Wp (forL g fb (nums (a + (k : Int) + 1) m) ρ2) Q := fun q => by
          have := ih (k + 1) ρ2 (by omega) q
          rw [show a + ((k + 1 : Nat) : Int) = a + (k : Int) + 1 by omega] at this
          exact this
        dsimp only
        rw [e2, R.bind_ok]
        cases fl with
        | nx => exact nx q
        | ct => exact nx q
        | bk => exact Wp_of rfl q
        | rt d => exact Wp_of rfl q
        | rf d => exact Wp_of rfl q
  have := go n 0 ρ (by omega) h0
  rw [show a + ((0 : Nat) : Int) = a by omega] at this
  exact this
/-- a comprehension's turns: I speaks of what is found and of the items that are left -/
theorem wp_compL {α : Type} {f : α → D} {g : D → En → Option En} {ft : En → R Bool} {fe : En → R D} {vs : List Nat} {Q : List D → En → Prop} (I : List D → List α → En → Prop) {xs : List α} {ρ : En} (h0 : I [] xs ρ)
    (hs : ∀ J : List D → List α → En → Prop, (∀ ds ys ρ, I ds ys ρ → J ds ys ρ) → ∀ ds y ys ρ, I ds (y :: ys) ρ → oW (g (f y) ρ) fun ρ1 => Wp (ft ρ1) fun k ρ2 => if k = true then Wp (fe ρ2) fun d ρ3 => J (ds ++ [d]) ys (wipeR ρ3 vs) else J ds ys (wipeR ρ2 vs))
    (he : ∀ ds ρ, I ds [] ρ → Q ds ρ) : Wp (compL g ft fe vs (xs.map f) ρ) Q := by
  have go : ∀ (xs : List α) (ds : List D) (ρ : En), I ds xs ρ → Wp (compL g ft fe vs (xs.map f) ρ) fun es ρ' => Q (ds ++ es) ρ' := by
    intro xs
    induction xs with
    | nil => intro ds ρ i; refine Wp_of rfl ?_; rw [List.append_nil]; exact he ds ρ i
    | cons x xs ih =>
      intro ds ρ i
      have h := hs I (fun _ _ _ z => z) ds x xs ρ i
      rw [List.map_cons]
      unfold compL
      cases hg : g (f x) ρ with
      | none => rw [hg] at h; exact h.elim
      | some ρ1 =>
        rw [hg] at h
        obtain ⟨k, ρ2, e, q⟩ := Wp.ex (show Wp (ft ρ1) _ from h)
        dsimp only
        rw [e]
        cases k with
        | false =>
          exact ih ds _ (by simpa using q)
        | true =>
          rw [if_pos rfl] at q
          obtain ⟨d, ρ3, e3, q3⟩ := q.ex
          have w := ih (ds ++ [d]) _ q3
          obtain ⟨es, ρ4, e4, q4⟩ := w.ex
          show Wp (((fe ρ2).ne.bind fun x ρ3 => (compL g ft fe vs (xs.map f) (wipeR ρ3 vs)).bind fun xs ρ4 => .ok (x :: xs) ρ4)) _
          rw [e3]
          show Wp ((compL g ft fe vs (xs.map f) (wipeR ρ3 vs)).bind fun xs ρ4 => .ok (d :: xs) ρ4) _
          rw [e4]
          refine Wp_of rfl ?_
          rw [List.append_assoc] at q4
          exact q4
  have := go xs [] ρ h0
  exact this
/-- a comprehension -/
theorem wp_comp {α : Type} {f : α → D} {T : Tg} {fi : En → R (List D)} {ft : En → R Bool} {fe : En → R D} {vs : List Nat} {Q : List D → En → Prop} {ρ ρ1 : En} {xs : List α} (I : List D → List α → En → Prop) (hi : fi ρ = .ok (xs.map f) ρ1) (h0 : I [] xs (wipeR ρ1 vs))
    (hs : ∀ J : List D → List α → En → Prop, (∀ ds ys ρ, I ds ys ρ → J ds ys ρ) → ∀ ds y ys ρ, I ds (y :: ys) ρ → oW (asgT T (f y) ρ) fun ρ1 => Wp (ft ρ1) fun k ρ2 => if k = true then Wp (fe ρ2) fun d ρ3 => J (ds ++ [d]) ys (wipeR ρ3 vs) else J ds ys (wipeR ρ2 vs))
    (he : ∀ ds ρ, I ds [] ρ → Q ds (backR ρ1 ρ vs)) : Wp (compR T fi ft fe vs ρ) Q := by
  unfold compR
  rw [hi, R.bind_ok, Wp_bind]
  exact wp_compL I h0 hs fun ds ρ i => Wp_of rfl (he ds ρ i)
/-- .. over a .. b-1 -/
theorem nums0 (n : Nat) : nums 0 n = (List.range n).map fun (j : Nat) => D.int (j : Int) := by
  unfold nums
  apply List.map_congr_left
  intro j _
  rw [Int.zero_add]
theorem nums_map (a : Int) (n : Nat) : nums a n = (List.range n).map fun (j : Nat) => D.int (a + (j : Int)) := rfl
/-- a dict comprehension's turns: I speaks of the dict so far and of the items that are left -/
theorem wp_compD {α : Type} {f : α → D} {g : D → En → Option En} {ft : En → R Bool} {fk fv : En → R D} {vs : List Nat} {Q : Ob → En → Prop} (I : Ob → List α → En → Prop) {xs : List α} {b : Ob} {ρ : En} (h0 : I b xs ρ)
    (hs : ∀ J : Ob → List α → En → Prop, (∀ b ys ρ, I b ys ρ → J b ys ρ) → ∀ b y ys ρ, I b (y :: ys) ρ → oW (g (f y) ρ) fun ρ1 => Wp (ft ρ1) fun k ρ2 => if k = true then Wp (fk ρ2) fun kd ρ3 => Wp (fv ρ3) fun d ρ4 => (match putB b kd d with | some b' => J b' ys (wipeR ρ4 vs) | none => False) else J b ys (wipeR ρ2 vs))
    (he : ∀ b ρ, I b [] ρ → Q b ρ) : Wp (compD g ft fk fv vs (xs.map f) b ρ) Q := by
  induction xs generalizing b ρ with
  | nil => exact Wp_of rfl (he b ρ h0)
  | cons x xs ih =>
    have h := hs I (fun _ _ _ z => z) b x xs ρ h0
    rw [List.map_cons]
    unfold compD
    cases hg : g (f x) ρ with
    | none => rw [hg] at h; exact h.elim
    | some ρ1 =>
      rw [hg] at h
      obtain ⟨k, ρ2, e, q⟩ := Wp.ex (show Wp (ft ρ1) _ from h)
      dsimp only
      rw [e]
      cases k with
      | false => exact ih (by simpa using q)
      | true =>
        rw [if_pos rfl] at q
        obtain ⟨kd, ρ3, e3, q3⟩ := q.ex
        obtain ⟨d, ρ4, e4, q4⟩ := q3.ex
        simp only [R.ne_ok, R.bind_ok, if_true, e3, e4]
        cases hb : putB b kd d with
        | none => rw [hb] at q4; exact q4.elim
        | some b' => rw [hb] at q4; simp only [R.lift, R.bind_ok]; exact ih q4
theorem wp_compDR {α : Type} {isT : Bool} {f : α → D} {T : Tg} {fi : En → R (List D)} {ft : En → R Bool} {fk fv : En → R D} {vs : List Nat} {Q : Ob → En → Prop} {ρ ρ1 : En} {xs : List α} (I : Ob → List α → En → Prop) (hi : fi ρ = .ok (xs.map f) ρ1) (h0 : I (newD isT) xs (wipeR ρ1 vs))
    (hs : ∀ J : Ob → List α → En → Prop, (∀ b ys ρ, I b ys ρ → J b ys ρ) → ∀ b y ys ρ, I b (y :: ys) ρ → oW (asgT T (f y) ρ) fun ρ1 => Wp (ft ρ1) fun k ρ2 => if k = true then Wp (fk ρ2) fun kd ρ3 => Wp (fv ρ3) fun d ρ4 => (match putB b kd d with | some b' => J b' ys (wipeR ρ4 vs) | none => False) else J b ys (wipeR ρ2 vs))
    (he : ∀ b ρ, I b [] ρ → Q b (backR ρ1 ρ vs)) : Wp (compDR isT T fi ft fk fv vs ρ) Q := by
  unfold compDR
  rw [hi, R.bind_ok, Wp_bind]
  exact wp_compD I h0 hs fun b ρ i => Wp_of rfl (he b ρ i)
end Ev

end
section
set_option maxHeartbeats 0
namespace Ev.W
open PySem PySem.Spec PyProof.Rows L2 Ev
def top (i : Nat) : Stmt := PySem.Challenge.pw_oncecodes_k44_whole_gates_and_fresh_word.main.body.getD i (.Pass ⟨0, 0, 0, 0⟩)
def defName (s : Stmt) : Str := match s with
  | .FunctionDef n .. => n
  | _ => ""
def dOf (s : Stmt) : He.DefD := ⟨(defName s, none), defName s, defName s, defArgs s, defBody s, defScope s, [], []⟩
def dOfA (s : Stmt) (a : Str) : He.DefD := ⟨(a, none), defName s, defName s, defArgs s, defBody s, defScope s, [], []⟩
abbrev n_is_integer : Nat := 0
abbrev n_is_within : Nat := 1
abbrev n_are_ascending : Nat := 2
abbrev n_check : Nat := 3
abbrev n_is_count : Nat := 4
abbrev n_is_gate : Nat := 5
abbrev n_check_gate : Nat := 6
abbrev n_through : Nat := 7
abbrev n_let_through : Nat := 8
abbrev n_are_numbers : Nat := 9
abbrev n_passed : Nat := 10
abbrev n_lateness_of : Nat := 11
abbrev n_least_size : Nat := 12
abbrev n_new_gate : Nat := 13
abbrev n_is_timely : Nat := 14
abbrev n_in_time : Nat := 15
abbrev n_is_word : Nat := 16
abbrev n_check_words : Nat := 17
abbrev n_gone_through : Nat := 18
abbrev n_timely : Nat := 19
abbrev n_most_kept : Nat := 20
abbrev n_forgetful : Nat := 21
abbrev n__law_draws : Nat := 22
abbrev n__law_take : Nat := 23
abbrev n__law_pick : Nat := 24
abbrev n__law_mixed : Nat := 25
abbrev n__law_same : Nat := 26
abbrev n__law_told : Nat := 27
abbrev n__law_gate : Nat := 28
abbrev n__law_passed : Nat := 29
abbrev n__law_numbers : Nat := 30
abbrev n__law_words : Nat := 31
abbrev n__law_timely : Nat := 32
abbrev n__law_most : Nat := 33
abbrev n__law_forgetful : Nat := 34
abbrev n_law : Nat := 35
def b_is_integer : Ss := (
  .cons (.ret (.and (.more (.isi .int (.lk 0)) (.one (.not (.isi .bool (.lk 0))))))) <|
  .nil)
def d_is_integer : Df := ⟨"is_integer", 0, ["value"], 1, b_is_integer⟩
def b_is_within : Ss := (
  .cons (.ret (.and (.more (.call n_is_integer 1 (.cons (.var 0) .nil)) (.one (.chn .LtE .LtE (.var 1) (.var 0) (.var 2)))))) <|
  .nil)
def d_is_within : Df := ⟨"is_within", 0, ["value", "low", "high"], 3, b_is_within⟩
def b_are_ascending : Ss := (
  .cons (.ret (.b1 .all (.vl (.fr (.comp (.tup [1, 2]) (.zip (.var 0) (.slV 0 (.so (.con (.int 1))) .no)) .no (.cmp .Lt (.var 1) (.var 2)) [1, 2]))))) <|
  .nil)
def d_are_ascending : Df := ⟨"are_ascending", 0, ["values", "one", "other"], 1, b_are_ascending⟩
def b_check : Ss := (
  .cons (.ife (.not (.tr (.lk 0))) (
    .cons (.rse 1) <|
    .nil) .nil) <|
  .nil)
def d_check : Df := ⟨"check", 0, ["is_right"], 1, b_check⟩
def b_is_count : Ss := (
  .cons (.ret (.and (.more (.call n_is_integer 1 (.cons (.var 0) .nil)) (.one (.cmp .GtE (.var 0) (.con (.int 0))))))) <|
  .nil)
def d_is_count : Df := ⟨"is_count", 0, ["value"], 1, b_is_count⟩
def b_is_gate : Ss := (
  .cons (.ife (.or (.more (.not (.tr (.vl (.isi .tuple (.lk 0))))) (.more (.cmp .NotEq (.b1 .len (.lk 0)) (.con (.int 3))) (.one (.not (.tr (.vl (.call n_is_within 3 (.cons (.ixV 0 (.con (.int 0))) (.cons (.con (.int 1)) (.cons (.glo (.int 1000)) .nil))))))))))) (
    .cons (.ret (.con (.bl false))) <|
    .nil) .nil) <|
  .cons (.asgT (.tup [1, 2, 3]) (.var 0)) <|
  .cons (.ife (.or (.more (.not (.tr (.vl (.call n_is_integer 1 (.cons (.var 2) .nil))))) (.more (.cmp .Lt (.var 2) (.neg (.con (.int 1)))) (.one (.not (.tr (.vl (.isi .tuple (.lk 3))))))))) (
    .cons (.ret (.con (.bl false))) <|
    .nil) .nil) <|
  .cons (.ife (.or (.more (.not (.tr (.vl (.b1 .all (.vl (.fr (.comp (.nm 4) (.sq (.var 3)) .no (.and (.more (.call n_is_count 1 (.cons (.var 4) .nil)) (.one (.chn .Lt .LtE (.bin .Sub (.var 2) (.var 1)) (.var 4) (.var 2))))) [4]))))))) (.one (.not (.tr (.vl (.call n_are_ascending 1 (.cons (.var 3) .nil)))))))) (
    .cons (.ret (.con (.bl false))) <|
    .nil) .nil) <|
  .cons (.ret (.or (.more (.cmp .Eq (.var 2) (.neg (.con (.int 1)))) (.one (.cmp .In (.var 2) (.var 3)))))) <|
  .nil)
def d_is_gate : Df := ⟨"is_gate", 0, ["value", "size", "top", "seen", "one"], 1, b_is_gate⟩
def b_check_gate : Ss := (
  .cons (.expr (.call n_check 1 (.cons (.call n_is_gate 1 (.cons (.var 0) .nil)) .nil))) <|
  .nil)
def d_check_gate : Df := ⟨"check_gate", 0, ["gate"], 1, b_check_gate⟩
def b_through : Ss := (
  .cons (.asgT (.tup [3, 2, 4]) (.var 0)) <|
  .cons (.ife (.or (.more (.cmp .LtE (.var 1) (.bin .Sub (.var 2) (.var 3))) (.one (.cmp .In (.var 1) (.var 4))))) (
    .cons (.ret (.tup (.cons (.con (.bl false)) (.cons (.var 0) .nil)))) <|
    .nil) .nil) <|
  .cons (.asg 2 (.b2 .max (.var 2) (.var 1))) <|
  .cons (.ret (.tup (.cons (.con (.bl true)) (.cons (.tup (.cons (.var 3) (.cons (.var 2) (.cons (.b1 .tuple (.vl (.fr (.sorted (.vl (.fr (.comp (.nm 5) (.sq (.fr (.lstS (.star (.var 4) (.cons (.var 1) .nil))))) (.one (.cmp .Gt (.var 5) (.bin .Sub (.var 2) (.var 3)))) (.var 5) [5]))))))) .nil)))) .nil)))) <|
  .nil)
def d_through : Df := ⟨"through", 0, ["gate", "number", "top", "size", "seen", "one"], 2, b_through⟩
def b_let_through : Ss := (
  .cons (.expr (.call n_check_gate 1 (.cons (.var 0) .nil))) <|
  .cons (.expr (.call n_check 1 (.cons (.call n_is_count 1 (.cons (.var 1) .nil)) .nil))) <|
  .cons (.ret (.call n_through 2 (.cons (.var 0) (.cons (.var 1) .nil)))) <|
  .nil)
def d_let_through : Df := ⟨"let_through", 0, ["gate", "number"], 2, b_let_through⟩
def b_are_numbers : Ss := (
  .cons (.ret (.and (.more (.isi .list (.lk 0)) (.one (.b1 .all (.vl (.fr (.comp (.nm 1) (.sq (.var 0)) .no (.call n_is_count 1 (.cons (.var 1) .nil)) [1])))))))) <|
  .nil)
def d_are_numbers : Df := ⟨"are_numbers", 0, ["value", "one"], 1, b_are_numbers⟩
def l1_passed : Ss := (
  .cons (.asgT (.tup [4, 0]) (.call n_through 2 (.cons (.var 0) (.cons (.var 3) .nil)))) <|
  .cons (.app 2 (.var 4)) <|
  .nil)
def b_passed : Ss := (
  .cons (.expr (.call n_check_gate 1 (.cons (.var 0) .nil))) <|
  .cons (.expr (.call n_check 1 (.cons (.call n_are_numbers 1 (.cons (.var 1) .nil)) .nil))) <|
  .cons (.own 2 (.lst .nil)) <|
  .cons (.for (.nm 3) (.sq (.var 1)) l1_passed) <|
  .cons (.ret (.tup (.cons (.var 2) (.cons (.var 0) .nil)))) <|
  .nil)
def d_passed : Df := ⟨"passed", 0, ["gate", "numbers", "found", "number", "is_let"], 2, b_passed⟩
def l1_lateness_of : Ss := (
  .cons (.app 2 (.b2 .max (.con (.int 0)) (.bin .Sub (.var 3) (.var 1)))) <|
  .cons (.asg 3 (.b2 .max (.var 3) (.var 1))) <|
  .nil)
def b_lateness_of : Ss := (
  .cons (.expr (.call n_check 1 (.cons (.and (.more (.call n_are_numbers 1 (.cons (.var 0) .nil)) (.one (.cmp .Eq (.b1 .len (.vl (.frD (.comp false (.nm 4) (.sq (.var 0)) .no (.var 4) (.con (.bl true)) [4])))) (.b1 .len (.lk 0)))))) .nil))) <|
  .cons (.par [2, 3] (.cF (.lst .nil) (.cE (.neg (.con (.int 1))) .nil))) <|
  .cons (.for (.nm 1) (.sq (.var 0)) l1_lateness_of) <|
  .cons (.ret (.var 2)) <|
  .nil)
def d_lateness_of : Df := ⟨"lateness_of", 0, ["numbers", "number", "found", "top", "one"], 1, b_lateness_of⟩
def b_least_size : Ss := (
  .cons (.ret (.bin .Add (.b1 .max (.vl (.fr (.lstS (.cons (.con (.int 0)) (.star (.call n_lateness_of 1 (.cons (.var 0) .nil)) .nil)))))) (.con (.int 1)))) <|
  .nil)
def d_least_size : Df := ⟨"least_size", 0, ["numbers"], 1, b_least_size⟩
def b_new_gate : Ss := (
  .cons (.expr (.call n_check 1 (.cons (.call n_is_within 3 (.cons (.var 0) (.cons (.con (.int 1)) (.cons (.glo (.int 1000)) .nil)))) .nil))) <|
  .cons (.ret (.tup (.cons (.var 0) (.cons (.neg (.con (.int 1))) (.cons (.tup .nil) .nil))))) <|
  .nil)
def d_new_gate : Df := ⟨"new_gate", 0, ["size"], 1, b_new_gate⟩
def b_is_timely : Ss := (
  .cons (.ret (.chn .LtE .LtE (.bin .Sub (.var 1) (.var 2)) (.var 0) (.bin .Add (.var 1) (.var 2)))) <|
  .nil)
def d_is_timely : Df := ⟨"is_timely", 0, ["s", "t", "slack"], 3, b_is_timely⟩
def b_in_time : Ss := (
  .cons (.expr (.call n_check 1 (.cons (.and (.more (.call n_is_integer 1 (.cons (.var 0) .nil)) (.more (.call n_is_integer 1 (.cons (.var 1) .nil)) (.one (.call n_is_count 1 (.cons (.var 2) .nil)))))) .nil))) <|
  .cons (.ret (.call n_is_timely 3 (.cons (.var 0) (.cons (.var 1) (.cons (.var 2) .nil))))) <|
  .nil)
def d_in_time : Df := ⟨"in_time", 0, ["s", "t", "slack"], 3, b_in_time⟩
def b_is_word : Ss := (
  .cons (.ife (.or (.more (.not (.tr (.vl (.isi .tuple (.lk 0))))) (.more (.cmp .NotEq (.b1 .len (.lk 0)) (.con (.int 3))) (.one (.not (.tr (.vl (.isi .str (.vl (.ixV 0 (.con (.int 2)))))))))))) (
    .cons (.ret (.con (.bl false))) <|
    .nil) .nil) <|
  .cons (.ret (.and (.more (.call n_is_integer 1 (.cons (.ixV 0 (.con (.int 0))) .nil)) (.one (.call n_is_integer 1 (.cons (.ixV 0 (.con (.int 1))) .nil)))))) <|
  .nil)
def d_is_word : Df := ⟨"is_word", 0, ["value"], 1, b_is_word⟩
def b_check_words : Ss := (
  .cons (.expr (.call n_check 1 (.cons (.and (.more (.call n_is_count 1 (.cons (.var 0) .nil)) (.more (.isi .list (.lk 1)) (.one (.b1 .all (.vl (.fr (.comp (.nm 2) (.sq (.var 1)) .no (.call n_is_word 1 (.cons (.var 2) .nil)) [2])))))))) .nil))) <|
  .cons (.expr (.call n_check 1 (.cons (.b1 .all (.vl (.fr (.comp (.tup [2, 3]) (.zip (.var 1) (.slV 1 (.so (.con (.int 1))) .no)) .no (.cmp .LtE (.ixV 2 (.con (.int 0))) (.ixV 3 (.con (.int 0)))) [2, 3])))) .nil))) <|
  .nil)
def d_check_words : Df := ⟨"check_words", 0, ["slack", "words", "one", "other"], 2, b_check_words⟩
def l1_gone_through : Ss := (
  .cons (.ownD 4 (.comp true (.nm 9) (.sq (.var 4)) (.one (.cmp .GtE (.bin .Add (.ixV 9 (.con (.int 0))) (.var 0)) (.var 5))) (.var 9) (.con (.bl true)) [9])) <|
  .cons (.asg 8 (.and (.more (.call n_is_timely 3 (.cons (.var 6) (.cons (.var 5) (.cons (.var 0) .nil)))) (.one (.isin true (.tup (.cons (.var 6) (.cons (.var 7) .nil))) (.lk 4)))))) <|
  .cons (.ife (.tr (.lk 8)) (
    .cons (.putI 4 (.tup (.cons (.var 6) (.cons (.var 7) .nil))) (.con (.bl true))) <|
    .nil) .nil) <|
  .cons (.app 2 (.var 8)) <|
  .cons (.app 3 (.b1 .len (.lk 4))) <|
  .nil)
def b_gone_through : Ss := (
  .cons (.par [2, 3, 4] (.cF (.lst .nil) (.cF (.lst .nil) (.cD (.new true) .nil)))) <|
  .cons (.for (.tup [5, 6, 7]) (.sq (.var 1)) l1_gone_through) <|
  .cons (.ret (.tup (.cons (.var 2) (.cons (.var 3) .nil)))) <|
  .nil)
def d_gone_through : Df := ⟨"gone_through", 0, ["slack", "words", "found", "many", "kept", "t", "s", "word", "is_let", "pair"], 2, b_gone_through⟩
def b_timely : Ss := (
  .cons (.expr (.call n_check_words 2 (.cons (.var 0) (.cons (.var 1) .nil)))) <|
  .cons (.ret (.ix (.call n_gone_through 2 (.cons (.var 0) (.cons (.var 1) .nil))) (.con (.int 0)))) <|
  .nil)
def d_timely : Df := ⟨"timely", 0, ["slack", "words"], 2, b_timely⟩
def b_most_kept : Ss := (
  .cons (.expr (.call n_check_words 2 (.cons (.var 0) (.cons (.var 1) .nil)))) <|
  .cons (.ret (.b1 .max (.vl (.fr (.lstS (.cons (.con (.int 0)) (.star (.ix (.call n_gone_through 2 (.cons (.var 0) (.cons (.var 1) .nil))) (.con (.int 1))) .nil))))))) <|
  .nil)
def d_most_kept : Df := ⟨"most_kept", 0, ["slack", "words"], 2, b_most_kept⟩
def l1_forgetful : Ss := (
  .cons (.asg 5 (.cmp .NotIn (.var 2) (.var 4))) <|
  .cons (.app 3 (.var 5)) <|
  .cons (.ife (.tr (.lk 5)) (
    .cons (.asg 4 (.ife (.cmp .Gt (.var 0) (.con (.int 0))) (.sl (.fr (.lstS (.star (.var 4) (.cons (.var 2) .nil)))) (.so (.neg (.var 0))) .no) (.fr (.lst .nil)))) <|
    .nil) .nil) <|
  .nil)
def b_forgetful : Ss := (
  .cons (.expr (.call n_check 1 (.cons (.and (.more (.call n_is_within 3 (.cons (.var 0) (.cons (.con (.int 0)) (.cons (.glo (.int 1000)) .nil)))) (.more (.isi .list (.lk 1)) (.one (.b1 .all (.vl (.fr (.comp (.nm 6) (.sq (.var 1)) .no (.isi .str (.lk 6)) [6])))))))) .nil))) <|
  .cons (.par [3, 4] (.cF (.lst .nil) (.cE (.fr (.lst .nil)) .nil))) <|
  .cons (.for (.nm 2) (.sq (.var 1)) l1_forgetful) <|
  .cons (.ret (.var 3)) <|
  .nil)
def d_forgetful : Df := ⟨"forgetful", 0, ["k", "words", "word", "found", "kept", "is_let", "one"], 2, b_forgetful⟩
def l1__law_draws : Ss := (
  .cons (.ife (.cmp .Gt (.var 5) (.con (.int 0))) (
    .cons (.app 1 (.bin .Mod (.b1 .int (.lk 5)) (.con (.int 997)))) <|
    .cons (.asg 5 (.bin .FloorDiv (.var 5) (.con (.int 997)))) <|
    .nil) .nil) <|
  .nil)
def l2__law_draws : Ss := (
  .cons (.asg 5 (.b1 .abs (.lk 2))) <|
  .cons (.ife (.cmp .Lt (.var 5) (.bin .Pow (.con (.int 10)) (.con (.int 18)))) (
    .cons (.asg 6 (.bin .Mod (.b1 .int (.vl (.bin .Add (.bin .Mult (.var 5) (.con (.int 48271))) (.con (.int 11))))) (.con (.int 2147483647)))) <|
    .cons (.app 1 (.bin .Mod (.b1 .int (.vl (.bin .Add (.bin .Mult (.var 6) (.con (.int 69621))) (.var 5)))) (.con (.int 2147483629)))) <|
    .cons (.app 1 (.bin .Mod (.b1 .int (.vl (.bin .Add (.var 6) (.bin .FloorDiv (.var 5) (.con (.int 7)))))) (.con (.int 1000003)))) <|
    .cons (.asg 5 (.con (.int 0))) <|
    .nil) .nil) <|
  .cons (.for (.nm 4) (.r1 (.con (.int 60))) l1__law_draws) <|
  .nil)
def l3__law_draws : Ss := (
  .cons (.asg 3 (.bin .Mod (.b1 .int (.vl (.bin .Add (.bin .Mult (.var 3) (.con (.int 48271))) (.con (.int 69621))))) (.con (.int 2147483647)))) <|
  .cons (.app 1 (.bin .FloorDiv (.var 3) (.con (.int 5)))) <|
  .nil)
def b__law_draws : Ss := (
  .cons (.own 1 (.lst .nil)) <|
  .cons (.for (.nm 2) (.sq (.var 0)) l2__law_draws) <|
  .cons (.asg 3 (.con (.int 1))) <|
  .cons (.ife (.cmp .Gt (.b1 .len (.lk 0)) (.con (.int 0))) (
    .cons (.asg 3 (.bin .Add (.con (.int 1)) (.b1 .abs (.vl (.ixV 0 (.con (.int 0))))))) <|
    .nil) .nil) <|
  .cons (.for (.nm 4) (.r1 (.con (.int 2000))) l3__law_draws) <|
  .cons (.retF (.listRev (.lk 1))) <|
  .nil)
def d__law_draws : Df := ⟨"_law_draws", 2, ["script", "draws", "cell", "seed", "k", "number", "first"], 1, b__law_draws⟩
def b__law_take : Ss := (
  .cons (.ife (.cmp .Eq (.b1 .len (.lk 0)) (.con (.int 0))) (
    .cons (.ret (.con (.int 0))) <|
    .nil) .nil) <|
  .cons (.ret (.bin .Mod (.b1 .int (.vl (.pop 0))) (.var 1))) <|
  .nil)
def d__law_take : Df := ⟨"_law_take", 1, ["draws", "bound"], 2, b__law_take⟩
def b__law_pick : Ss := (
  .cons (.ret (.ixV 1 (.callM n__law_take 2 0 (.cons (.b1 .len (.lk 1)) .nil)))) <|
  .nil)
def d__law_pick : Df := ⟨"_law_pick", 1, ["draws", "some"], 2, b__law_pick⟩
def l1__law_mixed : Ss := (
  .cons (.app 3 (.popAt 2 (.callM n__law_take 2 0 (.cons (.b1 .len (.lk 2)) .nil)))) <|
  .nil)
def b__law_mixed : Ss := (
  .cons (.own 2 (.listOf (.lk 1))) <|
  .cons (.own 3 (.lst .nil)) <|
  .cons (.for (.nm 4) (.r1 (.b1 .len (.lk 1))) l1__law_mixed) <|
  .cons (.ret (.var 3)) <|
  .nil)
def d__law_mixed : Df := ⟨"_law_mixed", 1, ["draws", "items", "left", "found", "k"], 2, b__law_mixed⟩
def b__law_same : Ss := (
  .cons (.ife (.tr (.vl (.isi .dict (.lk 1)))) (
    .cons (.ife (.or (.more (.not (.tr (.vl (.isi .dict (.lk 0))))) (.one (.cmp .NotEq (.fr (.sorted (.vl (.fr (.listOf (.lk 0)))))) (.fr (.sorted (.vl (.fr (.listOf (.lk 1)))))))))) (
      .cons (.ret (.con (.bl false))) <|
      .nil) .nil) <|
    .cons (.ret (.b1 .all (.vl (.fr (.comp (.nm 2) (.sq (.var 1)) .no (.call n__law_same 2 (.cons (.ixV 0 (.var 2)) (.cons (.ixV 1 (.var 2)) .nil))) [2]))))) <|
    .nil) .nil) <|
  .cons (.ife (.or (.more (.tr (.vl (.isi .tuple (.lk 1)))) (.one (.tr (.vl (.isi .list (.lk 1))))))) (
    .cons (.ife (.or (.more (.cmp .NotEq (.isi .tuple (.lk 1)) (.isi .tuple (.lk 0))) (.one (.cmp .NotEq (.isi .list (.lk 1)) (.isi .list (.lk 0)))))) (
      .cons (.ret (.con (.bl false))) <|
      .nil) .nil) <|
    .cons (.ret (.and (.more (.cmp .Eq (.b1 .len (.lk 0)) (.b1 .len (.lk 1))) (.one (.b1 .all (.vl (.fr (.comp (.nm 3) (.r1 (.b1 .len (.lk 1))) .no (.call n__law_same 2 (.cons (.ixV 0 (.var 3)) (.cons (.ixV 1 (.var 3)) .nil))) [3])))))))) <|
    .nil) .nil) <|
  .cons (.ife (.cmp .Is (.var 1) (.con .non)) (
    .cons (.ret (.cmp .Is (.var 0) (.con .non))) <|
    .nil) .nil) <|
  .cons (.ife (.cmp .NotEq (.isi .bool (.lk 1)) (.isi .bool (.lk 0))) (
    .cons (.ret (.con (.bl false))) <|
    .nil) .nil) <|
  .cons (.ife (.or (.more (.cmp .NotEq (.isi .int (.lk 1)) (.isi .int (.lk 0))) (.one (.cmp .NotEq (.isi .str (.lk 1)) (.isi .str (.lk 0)))))) (
    .cons (.ret (.con (.bl false))) <|
    .nil) .nil) <|
  .cons (.ret (.cmp .Eq (.var 0) (.var 1))) <|
  .nil)
def d__law_same : Df := ⟨"_law_same", 0, ["told", "due", "key", "k"], 2, b__law_same⟩
def b__law_told : Ss := (
  .cons (.trn 2 4 0 1 "refused" "not right" (
    .cons (.ife (.cmp .Lt (.var 0) (.con (.int 4))) (
      .cons (.ret (.callX [n_is_gate, n_lateness_of, n_least_size, n_new_gate] 1 (.var 0) (.cons (.var 1) .nil))) <|
      .nil) .nil) <|
    .cons (.ife (.cmp .Lt (.var 0) (.con (.int 9))) (
      .cons (.ret (.callX [n_let_through, n_passed, n_timely, n_most_kept, n_forgetful] 2 (.bin .Sub (.var 0) (.con (.int 4))) (.cons (.var 1) (.cons (.var 2) .nil)))) <|
      .nil) .nil) <|
    .cons (.ret (.call n_in_time 3 (.cons (.var 1) (.cons (.var 2) (.cons (.var 3) .nil))))) <|
    .nil)) <|
  .nil)
def d__law_told : Df := ⟨"_law_told", 0, ["which", "one", "two", "three", "error"], 4, b__law_told⟩
def b__law_gate : Ss := (
  .cons (.asg 2 (.b1 .max (.vl (.bin .Add (.fr (.lst (.cons (.neg (.con (.int 1))) .nil))) (.var 1))))) <|
  .cons (.ret (.tup (.cons (.var 0) (.cons (.var 2) (.cons (.b1 .tuple (.vl (.fr (.sorted (.vl (.fr (.comp (.nm 3) (.sq (.var 1)) (.one (.cmp .Gt (.var 3) (.bin .Sub (.var 2) (.var 0)))) (.var 3) [3]))))))) .nil))))) <|
  .nil)
def d__law_gate : Df := ⟨"_law_gate", 0, ["size", "all_through", "top", "one"], 2, b__law_gate⟩
def l1__law_passed : Ss := (
  .cons (.asg 5 (.and (.more (.cmp .NotIn (.var 2) (.var 4)) (.one (.cmp .Gt (.var 2) (.bin .Sub (.b1 .max (.vl (.bin .Add (.fr (.lst (.cons (.neg (.con (.int 1))) .nil))) (.var 4)))) (.var 0))))))) <|
  .cons (.app 3 (.var 5)) <|
  .cons (.asg 4 (.bin .Add (.var 4) (.bin .Mult (.fr (.lst (.cons (.var 2) .nil))) (.b1 .int (.lk 5))))) <|
  .nil)
def b__law_passed : Ss := (
  .cons (.par [3, 4] (.cF (.lst .nil) (.cE (.fr (.lst .nil)) .nil))) <|
  .cons (.for (.nm 2) (.sq (.var 1)) l1__law_passed) <|
  .cons (.ret (.tup (.cons (.var 3) (.cons (.var 4) .nil)))) <|
  .nil)
def d__law_passed : Df := ⟨"_law_passed", 0, ["size", "numbers", "number", "found", "kept", "fine"], 2, b__law_passed⟩
def l1__law_numbers : Ss := (
  .cons (.asg 3 (.b2 .max (.con (.int 0)) (.bin .Add (.var 3) (.callM n__law_pick 2 0 (.cons (.fr (.lst (.cons (.con (.int 1)) (.cons (.con (.int 1)) (.cons (.con (.int 2)) (.cons (.con (.int 3)) (.cons (.con (.int 0)) (.cons (.neg (.con (.int 1))) (.cons (.neg (.con (.int 2))) (.cons (.neg (.con (.int 5))) .nil)))))))))) .nil))))) <|
  .cons (.app 4 (.callM n__law_pick 2 0 (.cons (.fr (.lst (.cons (.var 3) (.cons (.var 3) (.cons (.b2 .max (.con (.int 0)) (.bin .Sub (.var 3) (.callM n__law_take 2 0 (.cons (.con (.int 6)) .nil)))) (.cons (.bin .Add (.var 3) (.callM n__law_take 2 0 (.cons (.con (.int 9)) .nil))) .nil)))))) .nil))) <|
  .nil)
def b__law_numbers : Ss := (
  .cons (.par [3, 4] (.cE (.callM n__law_take 2 0 (.cons (.con (.int 5)) .nil)) (.cF (.lst .nil) .nil))) <|
  .cons (.for (.nm 2) (.r1 (.callM n__law_take 2 0 (.cons (.bin .Add (.var 1) (.con (.int 1))) .nil))) l1__law_numbers) <|
  .cons (.ret (.var 4)) <|
  .nil)
def d__law_numbers : Df := ⟨"_law_numbers", 1, ["draws", "many", "k", "here", "found"], 2, b__law_numbers⟩
def l1__law_words : Ss := (
  .cons (.asg 3 (.bin .Add (.var 3) (.callM n__law_take 2 0 (.cons (.con (.int 4)) .nil)))) <|
  .cons (.app 4 (.tup (.cons (.var 3) (.cons (.bin .Sub (.bin .Add (.var 3) (.callM n__law_take 2 0 (.cons (.con (.int 9)) .nil))) (.con (.int 4))) (.cons (.callM n__law_pick 2 0 (.cons (.fr (.lst (.cons (.con (.str "x")) (.cons (.con (.str "y")) (.cons (.con (.str "")) (.cons (.con (.str "long word")) .nil)))))) .nil)) .nil))))) <|
  .cons (.ife (.and (.more (.cmpV .NotEq 4 (.fr (.lst .nil))) (.one (.cmp .Eq (.callM n__law_take 2 0 (.cons (.con (.int 3)) .nil)) (.con (.int 0)))))) (
    .cons (.app 4 (.bin .Add (.tup (.cons (.var 3) .nil)) (.sl (.callMO n__law_pick 0 4) (.so (.con (.int 1))) .no))) <|
    .nil) .nil) <|
  .nil)
def b__law_words : Ss := (
  .cons (.par [3, 4] (.cE (.bin .Sub (.callM n__law_take 2 0 (.cons (.con (.int 20)) .nil)) (.con (.int 10))) (.cF (.lst .nil) .nil))) <|
  .cons (.for (.nm 2) (.r1 (.callM n__law_take 2 0 (.cons (.bin .Add (.var 1) (.con (.int 1))) .nil))) l1__law_words) <|
  .cons (.ret (.var 4)) <|
  .nil)
def d__law_words : Df := ⟨"_law_words", 1, ["draws", "many", "k", "t", "found"], 2, b__law_words⟩
def l1__law_timely : Ss := (
  .cons (.asg 7 (.and (.more (.cmp .LtE (.b1 .abs (.vl (.bin .Sub (.var 4) (.var 5)))) (.var 0)) (.one (.cmp .NotIn (.tup (.cons (.var 5) (.cons (.var 6) .nil))) (.var 3)))))) <|
  .cons (.app 2 (.var 7)) <|
  .cons (.asg 3 (.bin .Add (.var 3) (.bin .Mult (.fr (.lst (.cons (.tup (.cons (.var 5) (.cons (.var 6) .nil))) .nil))) (.b1 .int (.lk 7))))) <|
  .nil)
def b__law_timely : Ss := (
  .cons (.par [2, 3] (.cF (.lst .nil) (.cE (.fr (.lst .nil)) .nil))) <|
  .cons (.for (.tup [4, 5, 6]) (.sq (.var 1)) l1__law_timely) <|
  .cons (.retF (.mov 2)) <|
  .nil)
def d__law_timely : Df := ⟨"_law_timely", 2, ["slack", "words", "found", "through_v", "t", "s", "word", "fine"], 2, b__law_timely⟩
def l1__law_most : Ss := (
  .cons (.asg 3 (.b2 .max (.var 3) (.b1 .len (.vl (.fr (.comp (.nm 5) (.r1 (.b1 .len (.lk 1))) (.one (.and (.more (.tr (.vl (.ixV 2 (.var 5)))) (.one (.chn .LtE .LtE (.ix (.ixV 1 (.var 5)) (.con (.int 0))) (.var 4) (.bin .Add (.ix (.ixV 1 (.var 5)) (.con (.int 1))) (.var 0))))))) (.var 5) [5])))))) <|
  .nil)
def b__law_most : Ss := (
  .cons (.asg 3 (.con (.int 0))) <|
  .cons (.for (.nm 4) (.r2 (.bin .Sub (.b1 .min (.vl (.bin .Add (.fr (.lst (.cons (.con (.int 0)) .nil))) (.fr (.comp (.nm 6) (.sq (.var 1)) .no (.ixV 6 (.con (.int 0))) [6]))))) (.con (.int 1))) (.bin .Add (.b1 .max (.vl (.bin .Add (.fr (.lst (.cons (.con (.int 0)) .nil))) (.fr (.comp (.nm 6) (.sq (.var 1)) .no (.ixV 6 (.con (.int 0))) [6]))))) (.con (.int 2)))) l1__law_most) <|
  .cons (.ret (.var 3)) <|
  .nil)
def d__law_most : Df := ⟨"_law_most", 0, ["slack", "words", "told", "best", "now", "k", "row"], 3, b__law_most⟩
def l1__law_forgetful : Ss := (
  .cons (.asg 5 (.slV 4 (.so (.b2 .max (.con (.int 0)) (.bin .Sub (.b1 .len (.lk 4)) (.var 0)))) .no)) <|
  .cons (.asg 6 (.cmp .NotIn (.var 2) (.var 5))) <|
  .cons (.app 3 (.var 6)) <|
  .cons (.asg 4 (.bin .Add (.var 4) (.bin .Mult (.fr (.lst (.cons (.var 2) .nil))) (.b1 .int (.lk 6))))) <|
  .nil)
def b__law_forgetful : Ss := (
  .cons (.par [3, 4] (.cF (.lst .nil) (.cE (.fr (.lst .nil)) .nil))) <|
  .cons (.for (.nm 2) (.sq (.var 1)) l1__law_forgetful) <|
  .cons (.ret (.var 3)) <|
  .nil)
def d__law_forgetful : Df := ⟨"_law_forgetful", 0, ["k", "words", "word", "found", "through_v", "last", "fine"], 2, b__law_forgetful⟩
def m1_l1_law : S := (.par [15, 16] (.cE (.bin .Add (.con (.int 1)) (.callM n__law_take 2 1 (.cons (.con (.int 6)) .nil))) (.cE (.callM n__law_numbers 2 1 (.cons (.con (.int 14)) .nil)) .nil)))
def m2_l1_law : S := (.asgT (.tup [17, 18]) (.call n__law_passed 2 (.cons (.var 15) (.cons (.var 16) .nil))))
def m3_l1_law : S := (.asg 7 (.call n__law_told 4 (.cons (.con (.int 3)) (.cons (.var 15) (.cons (.con .non) (.cons (.con .non) .nil))))))
def m4_l1_law : S := (.ife (.not (.tr (.vl (.call n__law_same 2 (.cons (.fr (.lst (.cons (.var 7) (.cons (.call n__law_told 4 (.cons (.con (.int 5)) (.cons (.var 7) (.cons (.fr (.listOf (.lk 16))) (.cons (.con .non) .nil))))) .nil)))) (.cons (.fr (.lst (.cons (.tup (.cons (.var 15) (.cons (.neg (.con (.int 1))) (.cons (.tup .nil) .nil)))) (.cons (.tup (.cons (.var 17) (.cons (.call n__law_gate 2 (.cons (.var 15) (.cons (.var 18) .nil))) .nil))) .nil)))) .nil)))))) (
    .cons (.ret (.con (.bl false))) <|
    .nil) .nil)
def m5_l1_law : S := (.asg 8 (.callM n__law_take 2 1 (.cons (.bin .Add (.b1 .len (.lk 16)) (.con (.int 1))) .nil)))
def m6_l1_law : S := (.asg 9 (.call n__law_gate 2 (.cons (.var 15) (.cons (.ix (.call n__law_passed 2 (.cons (.var 15) (.cons (.slV 16 .no (.so (.var 8))) .nil))) (.con (.int 1))) .nil))))
def m7_l1_law : S := (.ife (.not (.tr (.vl (.call n__law_same 2 (.cons (.fr (.lst (.cons (.call n__law_told 4 (.cons (.con (.int 0)) (.cons (.var 9) (.cons (.con .non) (.cons (.con .non) .nil))))) (.cons (.call n__law_told 4 (.cons (.con (.int 5)) (.cons (.var 9) (.cons (.slV 16 (.so (.var 8)) .no) (.cons (.con .non) .nil))))) .nil)))) (.cons (.fr (.lst (.cons (.con (.bl true)) (.cons (.tup (.cons (.slV 17 (.so (.var 8)) .no) (.cons (.call n__law_gate 2 (.cons (.var 15) (.cons (.var 18) .nil))) .nil))) .nil)))) .nil)))))) (
    .cons (.ret (.con (.bl false))) <|
    .nil) .nil)
def m8_l1_law : S := (.asg 10 (.callM n__law_take 2 1 (.cons (.con (.int 30)) .nil)))
def m9_l1_law : S := (.asgT (.tup [6, 19]) (.call n__law_passed 2 (.cons (.var 15) (.cons (.bin .Add (.slV 16 .no (.so (.var 8))) (.fr (.lst (.cons (.var 10) .nil)))) .nil))))
def m10_l1_law : S := (.ife (.not (.tr (.vl (.call n__law_same 2 (.cons (.call n__law_told 4 (.cons (.con (.int 4)) (.cons (.var 9) (.cons (.var 10) (.cons (.con .non) .nil))))) (.cons (.tup (.cons (.ixV 6 (.neg (.con (.int 1)))) (.cons (.call n__law_gate 2 (.cons (.var 15) (.cons (.var 19) .nil))) .nil))) .nil)))))) (
    .cons (.ret (.con (.bl false))) <|
    .nil) .nil)
def m11_l1_law : S := (.asg 11 (.callM n__law_mixed 2 1 (.cons (.fr (.rg1 (.callM n__law_take 2 1 (.cons (.con (.int 9)) .nil)))) .nil)))
def m12_l1_law : S := (.asg 11 (.ife (.cmp .Eq (.callM n__law_take 2 1 (.cons (.con (.int 3)) .nil)) (.con (.int 0))) (.fr (.comp (.nm 24) (.sq (.var 11)) .no (.bin .Mult (.con (.int 2)) (.var 24)) [24])) (.var 11)))
def m13_l1_law : S := (.asgF 12 (.comp (.nm 23) (.r1 (.b1 .len (.lk 11))) .no (.b1 .max (.vl (.bin .Add (.fr (.lst (.cons (.con (.int 0)) .nil))) (.fr (.comp (.nm 26) (.sq (.slV 11 .no (.so (.var 23)))) .no (.bin .Sub (.var 26) (.ixV 11 (.var 23))) [26]))))) [23]))
def m14_l1_law : S := (.asg 13 (.ix (.fr (.comp (.nm 24) (.r2 (.con (.int 1)) (.con (.int 30))) (.one (.cmp .NotIn (.con (.bl false)) (.ix (.call n__law_passed 2 (.cons (.var 24) (.cons (.var 11) .nil))) (.con (.int 0))))) (.var 24) [24])) (.con (.int 0))))
def m15_l1_law : S := (.ife (.not (.tr (.vl (.call n__law_same 2 (.cons (.fr (.lst (.cons (.call n__law_told 4 (.cons (.con (.int 1)) (.cons (.fr (.listOf (.lk 11))) (.cons (.con .non) (.cons (.con .non) .nil))))) (.cons (.call n__law_told 4 (.cons (.con (.int 2)) (.cons (.fr (.listOf (.lk 11))) (.cons (.con .non) (.cons (.con .non) .nil))))) .nil)))) (.cons (.fr (.lst (.cons (.var 12) (.cons (.var 13) .nil)))) .nil)))))) (
    .cons (.ret (.con (.bl false))) <|
    .nil) .nil)
def m16_l1_law : S := (.par [20, 5] (.cE (.callM n__law_take 2 1 (.cons (.con (.int 5)) .nil)) (.cE (.callM n__law_words 2 1 (.cons (.con (.int 10)) .nil)) .nil)))
def m17_l1_law : S := (.own 6 (.call n__law_timely 2 (.cons (.var 20) (.cons (.var 5) .nil))))
def m18_l1_law : S := (.ife (.not (.tr (.vl (.call n__law_same 2 (.cons (.fr (.lst (.cons (.call n__law_told 4 (.cons (.con (.int 6)) (.cons (.var 20) (.cons (.fr (.listOf (.lk 5))) (.cons (.con .non) .nil))))) (.cons (.call n__law_told 4 (.cons (.con (.int 7)) (.cons (.var 20) (.cons (.fr (.listOf (.lk 5))) (.cons (.con .non) .nil))))) .nil)))) (.cons (.fr (.lst (.cons (.var 6) (.cons (.call n__law_most 3 (.cons (.var 20) (.cons (.var 5) (.cons (.var 6) .nil)))) .nil)))) .nil)))))) (
    .cons (.ret (.con (.bl false))) <|
    .nil) .nil)
def m19_l1_law : S := (.par [21, 22] (.cE (.bin .Sub (.callM n__law_take 2 1 (.cons (.con (.int 20)) .nil)) (.con (.int 10))) (.cE (.bin .Sub (.callM n__law_take 2 1 (.cons (.con (.int 20)) .nil)) (.con (.int 10))) .nil)))
def m20_l1_law : S := (.ife (.not (.tr (.vl (.call n__law_same 2 (.cons (.call n__law_told 4 (.cons (.con (.int 9)) (.cons (.var 21) (.cons (.var 22) (.cons (.var 20) .nil))))) (.cons (.cmp .LtE (.b1 .abs (.vl (.bin .Sub (.var 21) (.var 22)))) (.var 20)) .nil)))))) (
    .cons (.ret (.con (.bl false))) <|
    .nil) .nil)
def m21_l1_law : S := (.par [23, 4] (.cE (.callM n__law_take 2 1 (.cons (.con (.int 5)) .nil)) (.cE (.fr (.comp (.nm 23) (.r1 (.callM n__law_take 2 1 (.cons (.con (.int 15)) .nil))) .no (.callM n__law_pick 2 1 (.cons (.fr (.lst (.cons (.con (.str "a")) (.cons (.con (.str "b")) (.cons (.con (.str "c")) (.cons (.con (.str "d")) .nil)))))) .nil)) [23])) .nil)))
def m22_l1_law : S := (.ife (.not (.tr (.vl (.call n__law_same 2 (.cons (.call n__law_told 4 (.cons (.con (.int 8)) (.cons (.var 23) (.cons (.fr (.listOf (.lk 4))) (.cons (.con .non) .nil))))) (.cons (.call n__law_forgetful 2 (.cons (.var 23) (.cons (.var 4) .nil))) .nil)))))) (
    .cons (.ret (.con (.bl false))) <|
    .nil) .nil)
def l1_law : Ss := .cons m1_l1_law <| .cons m2_l1_law <| .cons m3_l1_law <| .cons m4_l1_law <| .cons m5_l1_law <| .cons m6_l1_law <| .cons m7_l1_law <| .cons m8_l1_law <| .cons m9_l1_law <| .cons m10_l1_law <| .cons m11_l1_law <| .cons m12_l1_law <| .cons m13_l1_law <| .cons m14_l1_law <| .cons m15_l1_law <| .cons m16_l1_law <| .cons m17_l1_law <| .cons m18_l1_law <| .cons m19_l1_law <| .cons m20_l1_law <| .cons m21_l1_law <| .cons m22_l1_law <| .nil
def m1_law : S := (.own 1 (.call n__law_draws 1 (.cons (.var 0) .nil)))
def m2_law : S := (.for (.nm 2) (.r1 (.con (.int 5))) l1_law)
def m3_law : S := (.asg 3 (.fr (.lst (.cons (.con .non) (.cons (.tup .nil) (.cons (.fr (.lst (.cons (.con (.int 3)) (.cons (.neg (.con (.int 1))) (.cons (.tup .nil) .nil))))) (.cons (.tup (.cons (.con (.int 3)) (.cons (.neg (.con (.int 1))) .nil))) (.cons (.tup (.cons (.con (.int 0)) (.cons (.neg (.con (.int 1))) (.cons (.tup .nil) .nil)))) (.cons (.tup (.cons (.con (.int 1001)) (.cons (.neg (.con (.int 1))) (.cons (.tup .nil) .nil)))) (.cons (.tup (.cons (.con (.int 3)) (.cons (.neg (.con (.int 2))) (.cons (.tup .nil) .nil)))) (.cons (.tup (.cons (.con (.int 3)) (.cons (.con (.int 5)) (.cons (.tup .nil) .nil)))) (.cons (.tup (.cons (.con (.int 3)) (.cons (.con (.int 5)) (.cons (.tup (.cons (.con (.int 3)) (.cons (.con (.int 4)) .nil))) .nil)))) (.cons (.tup (.cons (.con (.int 3)) (.cons (.con (.int 5)) (.cons (.tup (.cons (.con (.int 2)) (.cons (.con (.int 5)) .nil))) .nil)))) .nil)))))))))))))
def m4_law : S := (.asg 3 (.bin .Add (.var 3) (.fr (.lst (.cons (.tup (.cons (.con (.int 3)) (.cons (.con (.int 5)) (.cons (.tup (.cons (.con (.int 5)) (.cons (.con (.int 3)) .nil))) .nil)))) (.cons (.tup (.cons (.con (.int 3)) (.cons (.con (.int 5)) (.cons (.tup (.cons (.con (.int 5)) (.cons (.con (.int 5)) .nil))) .nil)))) .nil))))))
def m5_law : S := (.asg 3 (.bin .Add (.var 3) (.fr (.lst (.cons (.tup (.cons (.con (.int 3)) (.cons (.con (.int 5)) (.cons (.tup (.cons (.con (.int 5)) (.cons (.con (.int 6)) .nil))) .nil)))) (.cons (.tup (.cons (.con (.int 3)) (.cons (.neg (.con (.int 1))) (.cons (.tup (.cons (.con (.int 0)) .nil)) .nil)))) (.cons (.tup (.cons (.con (.int 3)) (.cons (.con (.int 5)) (.cons (.fr (.lst (.cons (.con (.int 5)) .nil))) .nil)))) (.cons (.tup (.cons (.con (.int 3)) (.cons (.con (.bl true)) (.cons (.tup (.cons (.con (.int 1)) .nil)) .nil)))) (.cons (.tup (.cons (.con (.int 9)) (.cons (.con (.int 1)) (.cons (.tup (.cons (.neg (.con (.int 1))) (.cons (.con (.int 1)) .nil))) .nil)))) (.cons (.tup (.cons (.con (.int 3)) (.cons (.con (.int 1)) (.cons (.tup (.cons (.con (.bl true)) .nil)) .nil)))) .nil))))))))))
def m6_law : S := (.ife (.not (.tr (.vl (.call n__law_same 2 (.cons (.fr (.comp (.nm 24) (.sq (.var 3)) .no (.call n__law_told 4 (.cons (.con (.int 0)) (.cons (.var 24) (.cons (.con .non) (.cons (.con .non) .nil))))) [24])) (.cons (.bin .Mult (.fr (.lst (.cons (.con (.bl false)) .nil))) (.con (.int 18))) .nil)))))) (
    .cons (.ret (.con (.bl false))) <|
    .nil) .nil)
def m7_law : S := (.par [14, 10] (.cE (.callM n__law_pick 2 1 (.cons (.var 3) .nil)) (.cE (.callM n__law_pick 2 1 (.cons (.fr (.lst (.cons (.neg (.con (.int 1))) (.cons (.con .non) (.cons (.con (.bl true)) (.cons (.con (.str "1")) .nil)))))) .nil)) .nil)))
def m8_law : S := (.asg 4 (.callM n__law_pick 2 1 (.cons (.fr (.lst (.cons (.con .non) (.cons (.tup (.cons (.con (.int 1)) .nil)) (.cons (.fr (.lst (.cons (.con (.int 1)) (.cons (.neg (.con (.int 1))) .nil)))) (.cons (.fr (.lst (.cons (.con .non) .nil))) (.cons (.fr (.lst (.cons (.con (.bl true)) .nil))) .nil))))))) .nil)))
def m9_law : S := (.asg 5 (.callM n__law_pick 2 1 (.cons (.fr (.lst (.cons (.con .non) (.cons (.tup (.cons (.tup (.cons (.con (.int 0)) (.cons (.con (.int 0)) (.cons (.con (.str "x")) .nil)))) .nil)) (.cons (.fr (.lst (.cons (.tup (.cons (.con (.int 0)) (.cons (.con (.int 0)) .nil))) .nil))) (.cons (.fr (.lst (.cons (.tup (.cons (.con (.int 0)) (.cons (.con (.int 0)) (.cons (.con (.int 1)) .nil)))) .nil))) (.cons (.fr (.lst (.cons (.tup (.cons (.con .non) (.cons (.con (.int 0)) (.cons (.con (.str "x")) .nil)))) .nil))) (.cons (.fr (.lst (.cons (.tup (.cons (.con (.int 0)) (.cons (.con (.bl true)) (.cons (.con (.str "x")) .nil)))) .nil))) (.cons (.fr (.lst (.cons (.tup (.cons (.con (.int 1)) (.cons (.con (.int 0)) (.cons (.con (.str "x")) .nil)))) (.cons (.tup (.cons (.con (.int 0)) (.cons (.con (.int 0)) (.cons (.con (.str "x")) .nil)))) .nil)))) (.cons (.fr (.lst (.cons (.fr (.lst (.cons (.con (.int 0)) (.cons (.con (.int 0)) (.cons (.con (.str "x")) .nil))))) .nil))) .nil)))))))))) .nil)))
def m10_law : S := (.own 6 (.lst (.cons (.call n__law_told 4 (.cons (.con (.int 4)) (.cons (.var 14) (.cons (.con (.int 0)) (.cons (.con .non) .nil))))) (.cons (.call n__law_told 4 (.cons (.con (.int 5)) (.cons (.var 14) (.cons (.fr (.lst .nil)) (.cons (.con .non) .nil))))) (.cons (.call n__law_told 4 (.cons (.con (.int 4)) (.cons (.tup (.cons (.con (.int 3)) (.cons (.neg (.con (.int 1))) (.cons (.tup .nil) .nil)))) (.cons (.var 10) (.cons (.con .non) .nil))))) (.cons (.call n__law_told 4 (.cons (.con (.int 5)) (.cons (.tup (.cons (.con (.int 3)) (.cons (.neg (.con (.int 1))) (.cons (.tup .nil) .nil)))) (.cons (.var 4) (.cons (.con .non) .nil))))) .nil))))))
def m11_law : S := (.own 6 (.cat (.var 6) (.fr (.lst (.cons (.call n__law_told 4 (.cons (.con (.int 1)) (.cons (.var 4) (.cons (.con .non) (.cons (.con .non) .nil))))) (.cons (.call n__law_told 4 (.cons (.con (.int 2)) (.cons (.var 4) (.cons (.con .non) (.cons (.con .non) .nil))))) (.cons (.call n__law_told 4 (.cons (.con (.int 1)) (.cons (.fr (.lst (.cons (.con (.int 1)) (.cons (.con (.int 1)) .nil)))) (.cons (.con .non) (.cons (.con .non) .nil))))) (.cons (.call n__law_told 4 (.cons (.con (.int 2)) (.cons (.fr (.lst (.cons (.con (.int 0)) (.cons (.con (.int 2)) (.cons (.con (.int 0)) .nil))))) (.cons (.con .non) (.cons (.con .non) .nil))))) .nil))))))))
def m12_law : S := (.own 6 (.cat (.bin .Add (.var 6) (.fr (.comp (.nm 15) (.sq (.fr (.lst (.cons (.con (.int 0)) (.cons (.con (.int 1001)) (.cons (.con .non) (.cons (.con (.bl true)) .nil))))))) .no (.call n__law_told 4 (.cons (.con (.int 3)) (.cons (.var 15) (.cons (.con .non) (.cons (.con .non) .nil))))) [15]))) (.fr (.lst (.cons (.call n__law_told 4 (.cons (.con (.int 6)) (.cons (.con (.int 1)) (.cons (.var 5) (.cons (.con .non) .nil))))) (.cons (.call n__law_told 4 (.cons (.con (.int 7)) (.cons (.con (.int 1)) (.cons (.var 5) (.cons (.con .non) .nil))))) .nil))))))
def m13_law : S := (.own 6 (.cat (.bin .Add (.var 6) (.fr (.comp (.nm 25) (.sq (.fr (.lst (.cons (.con (.int 6)) (.cons (.con (.int 7)) (.cons (.con (.int 8)) .nil)))))) .no (.call n__law_told 4 (.cons (.var 25) (.cons (.var 10) (.cons (.fr (.lst .nil)) (.cons (.con .non) .nil))))) [25]))) (.fr (.lst (.cons (.call n__law_told 4 (.cons (.con (.int 8)) (.cons (.con (.int 1001)) (.cons (.fr (.lst .nil)) (.cons (.con .non) .nil))))) .nil)))))
def m14_law : S := (.app 6 (.call n__law_told 4 (.cons (.con (.int 8)) (.cons (.con (.int 1)) (.cons (.callM n__law_pick 2 1 (.cons (.fr (.lst (.cons (.con .non) (.cons (.tup (.cons (.con (.str "a")) .nil)) (.cons (.fr (.lst (.cons (.con (.int 1)) .nil))) .nil))))) .nil)) (.cons (.con .non) .nil))))))
def m15_law : S := (.own 6 (.cat (.var 6) (.fr (.lst (.cons (.call n__law_told 4 (.cons (.con (.int 9)) (.cons (.con (.int 0)) (.cons (.con (.int 0)) (.cons (.var 10) .nil))))) (.cons (.call n__law_told 4 (.cons (.con (.int 9)) (.cons (.con .non) (.cons (.con (.int 0)) (.cons (.con (.int 1)) .nil))))) (.cons (.call n__law_told 4 (.cons (.con (.int 9)) (.cons (.con (.int 0)) (.cons (.con (.bl true)) (.cons (.con (.int 1)) .nil))))) .nil)))))))
def m16_law : S := (.ret (.cmp .Eq (.var 6) (.bin .Mult (.fr (.lst (.cons (.con (.str "not right")) .nil))) (.con (.int 22)))))
def b_law : Ss := .cons m1_law <| .cons m2_law <| .cons m3_law <| .cons m4_law <| .cons m5_law <| .cons m6_law <| .cons m7_law <| .cons m8_law <| .cons m9_law <| .cons m10_law <| .cons m11_law <| .cons m12_law <| .cons m13_law <| .cons m14_law <| .cons m15_law <| .cons m16_law <| .nil
def d_law : Df := ⟨"law", 0, ["script", "draws", "turn", "gates", "row", "words", "told", "fresh", "half", "middle", "number", "some", "late", "least", "gate", "size", "numbers", "found", "kept", "more", "slack", "s", "t", "k", "one", "which", "other"], 1, b_law⟩
def dfs : List Df := [d_is_integer, d_is_within, d_are_ascending, d_check, d_is_count, d_is_gate, d_check_gate, d_through, d_let_through, d_are_numbers, d_passed, d_lateness_of, d_least_size, d_new_gate, d_is_timely, d_in_time, d_is_word, d_check_words, d_gone_through, d_timely, d_most_kept, d_forgetful, d__law_draws, d__law_take, d__law_pick, d__law_mixed, d__law_same, d__law_told, d__law_gate, d__law_passed, d__law_numbers, d__law_words, d__law_timely, d__law_most, d__law_forgetful, d_law]
def cls : List Str := ["CodeError", "NotRight"]
def glo : List (Str × Con) := [("MOST_SIZE", (.int 1000))]
abbrev q_is_integer : He.DefD := dOf (top 3)
abbrev q_is_within : He.DefD := dOf (top 4)
abbrev q_are_ascending : He.DefD := dOf (top 5)
abbrev q_check : He.DefD := dOf (top 6)
abbrev q_is_count : He.DefD := dOf (top 7)
abbrev q_is_gate : He.DefD := dOf (top 10)
abbrev q_check_gate : He.DefD := dOf (top 11)
abbrev q_through : He.DefD := dOf (top 12)
abbrev q_let_through : He.DefD := dOf (top 13)
abbrev q_are_numbers : He.DefD := dOf (top 14)
abbrev q_passed : He.DefD := dOf (top 15)
abbrev q_lateness_of : He.DefD := dOf (top 16)
abbrev q_least_size : He.DefD := dOf (top 17)
abbrev q_new_gate : He.DefD := dOf (top 18)
abbrev q_is_timely : He.DefD := dOf (top 19)
abbrev q_in_time : He.DefD := dOf (top 20)
abbrev q_is_word : He.DefD := dOf (top 21)
abbrev q_check_words : He.DefD := dOf (top 22)
abbrev q_gone_through : He.DefD := dOf (top 23)
abbrev q_timely : He.DefD := dOf (top 24)
abbrev q_most_kept : He.DefD := dOf (top 25)
abbrev q_forgetful : He.DefD := dOf (top 26)
abbrev q__law_draws : He.DefD := dOf (top 28)
abbrev q__law_take : He.DefD := dOf (top 29)
abbrev q__law_pick : He.DefD := dOf (top 30)
abbrev q__law_mixed : He.DefD := dOf (top 31)
abbrev q__law_same : He.DefD := dOf (top 32)
abbrev q__law_told : He.DefD := dOf (top 33)
abbrev q__law_gate : He.DefD := dOf (top 34)
abbrev q__law_passed : He.DefD := dOf (top 35)
abbrev q__law_numbers : He.DefD := dOf (top 36)
abbrev q__law_words : He.DefD := dOf (top 37)
abbrev q__law_timely : He.DefD := dOf (top 38)
abbrev q__law_most : He.DefD := dOf (top 39)
abbrev q__law_forgetful : He.DefD := dOf (top 40)
abbrev q_law : He.DefD := dOf (top 41)
def fnd : List He.DefD := [q_is_integer, q_is_within, q_are_ascending, q_check, q_is_count, q_is_gate, q_check_gate, q_through, q_let_through, q_are_numbers, q_passed, q_lateness_of, q_least_size, q_new_gate, q_is_timely, q_in_time, q_is_word, q_check_words, q_gone_through, q_timely, q_most_kept, q_forgetful, q__law_draws, q__law_take, q__law_pick, q__law_mixed, q__law_same, q__law_told, q__law_gate, q__law_passed, q__law_numbers, q__law_words, q__law_timely, q__law_most, q__law_forgetful, q_law]
end Ev.W

end
section
set_option maxHeartbeats 0
namespace Ev.W
open PySem PySem.Spec PyProof.Rows L2 Ev
theorem ok_is_integer : dfC (tbOf dfs cls glo) q_is_integer d_is_integer = true ∧ BdOk q_is_integer d_is_integer := ⟨by kernel_rfl, fun _ _ _ _ _ _ us hl => match us, hl with | [_], _ => rfl⟩
theorem ok_is_within : dfC (tbOf dfs cls glo) q_is_within d_is_within = true ∧ BdOk q_is_within d_is_within := ⟨by kernel_rfl, fun _ _ _ _ _ _ us hl => match us, hl with | [_, _, _], _ => rfl⟩
theorem ok_are_ascending : dfC (tbOf dfs cls glo) q_are_ascending d_are_ascending = true ∧ BdOk q_are_ascending d_are_ascending := ⟨by kernel_rfl, fun _ _ _ _ _ _ us hl => match us, hl with | [_], _ => rfl⟩
theorem ok_check : dfC (tbOf dfs cls glo) q_check d_check = true ∧ BdOk q_check d_check := ⟨by kernel_rfl, fun _ _ _ _ _ _ us hl => match us, hl with | [_], _ => rfl⟩
theorem ok_is_count : dfC (tbOf dfs cls glo) q_is_count d_is_count = true ∧ BdOk q_is_count d_is_count := ⟨by kernel_rfl, fun _ _ _ _ _ _ us hl => match us, hl with | [_], _ => rfl⟩
theorem ok_is_gate : dfC (tbOf dfs cls glo) q_is_gate d_is_gate = true ∧ BdOk q_is_gate d_is_gate := ⟨by kernel_rfl, fun _ _ _ _ _ _ us hl => match us, hl with | [_], _ => rfl⟩
theorem ok_check_gate : dfC (tbOf dfs cls glo) q_check_gate d_check_gate = true ∧ BdOk q_check_gate d_check_gate := ⟨by kernel_rfl, fun _ _ _ _ _ _ us hl => match us, hl with | [_], _ => rfl⟩
theorem ok_through : dfC (tbOf dfs cls glo) q_through d_through = true ∧ BdOk q_through d_through := ⟨by kernel_rfl, fun _ _ _ _ _ _ us hl => match us, hl with | [_, _], _ => rfl⟩
theorem ok_let_through : dfC (tbOf dfs cls glo) q_let_through d_let_through = true ∧ BdOk q_let_through d_let_through := ⟨by kernel_rfl, fun _ _ _ _ _ _ us hl => match us, hl with | [_, _], _ => rfl⟩
theorem ok_are_numbers : dfC (tbOf dfs cls glo) q_are_numbers d_are_numbers = true ∧ BdOk q_are_numbers d_are_numbers := ⟨by kernel_rfl, fun _ _ _ _ _ _ us hl => match us, hl with | [_], _ => rfl⟩
theorem ok_passed : dfC (tbOf dfs cls glo) q_passed d_passed = true ∧ BdOk q_passed d_passed := ⟨by kernel_rfl, fun _ _ _ _ _ _ us hl => match us, hl with | [_, _], _ => rfl⟩
theorem ok_lateness_of : dfC (tbOf dfs cls glo) q_lateness_of d_lateness_of = true ∧ BdOk q_lateness_of d_lateness_of := ⟨by kernel_rfl, fun _ _ _ _ _ _ us hl => match us, hl with | [_], _ => rfl⟩
theorem ok_least_size : dfC (tbOf dfs cls glo) q_least_size d_least_size = true ∧ BdOk q_least_size d_least_size := ⟨by kernel_rfl, fun _ _ _ _ _ _ us hl => match us, hl with | [_], _ => rfl⟩
theorem ok_new_gate : dfC (tbOf dfs cls glo) q_new_gate d_new_gate = true ∧ BdOk q_new_gate d_new_gate := ⟨by kernel_rfl, fun _ _ _ _ _ _ us hl => match us, hl with | [_], _ => rfl⟩
theorem ok_is_timely : dfC (tbOf dfs cls glo) q_is_timely d_is_timely = true ∧ BdOk q_is_timely d_is_timely := ⟨by kernel_rfl, fun _ _ _ _ _ _ us hl => match us, hl with | [_, _, _], _ => rfl⟩
theorem ok_in_time : dfC (tbOf dfs cls glo) q_in_time d_in_time = true ∧ BdOk q_in_time d_in_time := ⟨by kernel_rfl, fun _ _ _ _ _ _ us hl => match us, hl with | [_, _, _], _ => rfl⟩
theorem ok_is_word : dfC (tbOf dfs cls glo) q_is_word d_is_word = true ∧ BdOk q_is_word d_is_word := ⟨by kernel_rfl, fun _ _ _ _ _ _ us hl => match us, hl with | [_], _ => rfl⟩
theorem ok_check_words : dfC (tbOf dfs cls glo) q_check_words d_check_words = true ∧ BdOk q_check_words d_check_words := ⟨by kernel_rfl, fun _ _ _ _ _ _ us hl => match us, hl with | [_, _], _ => rfl⟩
theorem ok_gone_through : dfC (tbOf dfs cls glo) q_gone_through d_gone_through = true ∧ BdOk q_gone_through d_gone_through := ⟨by kernel_rfl, fun _ _ _ _ _ _ us hl => match us, hl with | [_, _], _ => rfl⟩
theorem ok_timely : dfC (tbOf dfs cls glo) q_timely d_timely = true ∧ BdOk q_timely d_timely := ⟨by kernel_rfl, fun _ _ _ _ _ _ us hl => match us, hl with | [_, _], _ => rfl⟩
theorem ok_most_kept : dfC (tbOf dfs cls glo) q_most_kept d_most_kept = true ∧ BdOk q_most_kept d_most_kept := ⟨by kernel_rfl, fun _ _ _ _ _ _ us hl => match us, hl with | [_, _], _ => rfl⟩
theorem ok_forgetful : dfC (tbOf dfs cls glo) q_forgetful d_forgetful = true ∧ BdOk q_forgetful d_forgetful := ⟨by kernel_rfl, fun _ _ _ _ _ _ us hl => match us, hl with | [_, _], _ => rfl⟩
theorem ok__law_draws : dfC (tbOf dfs cls glo) q__law_draws d__law_draws = true ∧ BdOk q__law_draws d__law_draws := ⟨by kernel_rfl, fun _ _ _ _ _ _ us hl => match us, hl with | [_], _ => rfl⟩
theorem ok__law_take : dfC (tbOf dfs cls glo) q__law_take d__law_take = true ∧ BdOk q__law_take d__law_take := ⟨by kernel_rfl, fun _ _ _ _ _ _ us hl => match us, hl with | [_, _], _ => rfl⟩
theorem ok__law_pick : dfC (tbOf dfs cls glo) q__law_pick d__law_pick = true ∧ BdOk q__law_pick d__law_pick := ⟨by kernel_rfl, fun _ _ _ _ _ _ us hl => match us, hl with | [_, _], _ => rfl⟩
theorem ok__law_mixed : dfC (tbOf dfs cls glo) q__law_mixed d__law_mixed = true ∧ BdOk q__law_mixed d__law_mixed := ⟨by kernel_rfl, fun _ _ _ _ _ _ us hl => match us, hl with | [_, _], _ => rfl⟩
theorem ok__law_same : dfC (tbOf dfs cls glo) q__law_same d__law_same = true ∧ BdOk q__law_same d__law_same := ⟨by kernel_rfl, fun _ _ _ _ _ _ us hl => match us, hl with | [_, _], _ => rfl⟩
theorem ok__law_told : dfC (tbOf dfs cls glo) q__law_told d__law_told = true ∧ BdOk q__law_told d__law_told := ⟨by kernel_rfl, fun _ _ _ _ _ _ us hl => match us, hl with | [_, _, _, _], _ => rfl⟩
theorem ok__law_gate : dfC (tbOf dfs cls glo) q__law_gate d__law_gate = true ∧ BdOk q__law_gate d__law_gate := ⟨by kernel_rfl, fun _ _ _ _ _ _ us hl => match us, hl with | [_, _], _ => rfl⟩
theorem ok__law_passed : dfC (tbOf dfs cls glo) q__law_passed d__law_passed = true ∧ BdOk q__law_passed d__law_passed := ⟨by kernel_rfl, fun _ _ _ _ _ _ us hl => match us, hl with | [_, _], _ => rfl⟩
theorem ok__law_numbers : dfC (tbOf dfs cls glo) q__law_numbers d__law_numbers = true ∧ BdOk q__law_numbers d__law_numbers := ⟨by kernel_rfl, fun _ _ _ _ _ _ us hl => match us, hl with | [_, _], _ => rfl⟩
theorem ok__law_words : dfC (tbOf dfs cls glo) q__law_words d__law_words = true ∧ BdOk q__law_words d__law_words := ⟨by kernel_rfl, fun _ _ _ _ _ _ us hl => match us, hl with | [_, _], _ => rfl⟩
theorem ok__law_timely : dfC (tbOf dfs cls glo) q__law_timely d__law_timely = true ∧ BdOk q__law_timely d__law_timely := ⟨by kernel_rfl, fun _ _ _ _ _ _ us hl => match us, hl with | [_, _], _ => rfl⟩
theorem ok__law_most : dfC (tbOf dfs cls glo) q__law_most d__law_most = true ∧ BdOk q__law_most d__law_most := ⟨by kernel_rfl, fun _ _ _ _ _ _ us hl => match us, hl with | [_, _, _], _ => rfl⟩
theorem ok__law_forgetful : dfC (tbOf dfs cls glo) q__law_forgetful d__law_forgetful = true ∧ BdOk q__law_forgetful d__law_forgetful := ⟨by kernel_rfl, fun _ _ _ _ _ _ us hl => match us, hl with | [_, _], _ => rfl⟩
theorem ok_law : dfC (tbOf dfs cls glo) q_law d_law = true ∧ BdOk q_law d_law := ⟨by kernel_rfl, fun _ _ _ _ _ _ us hl => match us, hl with | [_], _ => rfl⟩
theorem okAll : AllOk (tbOf dfs cls glo) fnd dfs := ⟨ok_is_integer, ⟨ok_is_within, ⟨ok_are_ascending, ⟨ok_check, ⟨ok_is_count, ⟨ok_is_gate, ⟨ok_check_gate, ⟨ok_through, ⟨ok_let_through, ⟨ok_are_numbers, ⟨ok_passed, ⟨ok_lateness_of, ⟨ok_least_size, ⟨ok_new_gate, ⟨ok_is_timely, ⟨ok_in_time, ⟨ok_is_word, ⟨ok_check_words, ⟨ok_gone_through, ⟨ok_timely, ⟨ok_most_kept, ⟨ok_forgetful, ⟨ok__law_draws, ⟨ok__law_take, ⟨ok__law_pick, ⟨ok__law_mixed, ⟨ok__law_same, ⟨ok__law_told, ⟨ok__law_gate, ⟨ok__law_passed, ⟨ok__law_numbers, ⟨ok__law_words, ⟨ok__law_timely, ⟨ok__law_most, ⟨ok__law_forgetful, ⟨ok_law, trivial⟩⟩⟩⟩⟩⟩⟩⟩⟩⟩⟩⟩⟩⟩⟩⟩⟩⟩⟩⟩⟩⟩⟩⟩⟩⟩⟩⟩⟩⟩⟩⟩⟩⟩⟩⟩
end Ev.W

end
section
set_option maxHeartbeats 0
namespace Ev.W
open PySem PySem.Spec PyProof.Rows L2 Ev
abbrev Rw : PySem.W.OpenRow := PySem.W.OpenLaw.row PySem.Challenge.rw_oncecodes_k44_whole_gates_and_fresh_word
abbrev fal : List He.Fa := faOf dfs cls glo
abbrev pE : PySem.W.Frag → Bool := excB cls
abbrev hk : PySem.W.Hook := hookP 4 fal fnd pE
def ob (s : PySem.W.SharedT) : He.AlD × Bool := obsPG 4 fal fnd pE (HandSHeadRun.getT s)
theorem ob_eq (s : PySem.W.SharedT) : ob s = hk.obs s.abs := obsPG_eq (HandSHeadRun.getT_eq s)
def loose0 : List Str := ["CodeError", "NotRight", "is_integer", "is_within", "are_ascending", "check", "is_count", "MOST_SIZE", "is_gate", "check_gate", "through", "let_through", "are_numbers", "passed", "lateness_of", "least_size", "new_gate", "is_timely", "in_time", "is_word", "check_words", "gone_through", "timely", "most_kept", "forgetful", "_law_draws", "_law_take", "_law_pick", "_law_mixed", "_law_same"]
def loose1 : List Str := ["_law_told", "_law_gate", "_law_passed", "_law_numbers", "_law_words", "_law_timely", "_law_most", "_law_forgetful"]
def loose : List Str := loose0 ++ loose1
theorem headRun (w : World) : HandSHeadRun.RunEq Rw (PySem.W.view Rw.prog [41]) hk ob 4000 loose w := by
  intro os
  kernel_rfl
theorem headFacts (lt : ∀ ns : List Int, ns.length ≤ 63 → (gs dfs 60).dD n_law [.scr ns] = .ok (.bl true)) {P : Program} {w : World} {K : PySem.W.Frag} {h : Heap} {mg : Str → Option Value} {f : Addr} (X : K.In h) (G : h.Ns mainGlobals mg) (hfa : mg ("law" : Str) = some (.ref f)) (c : He.SaysD fal fnd K) (hE : pE K = true) :
    ∃ fd : FuncData, (∀ (s : Shared) (v : Value), BindsTo s fd ⟨[v], []⟩ [("script", v)]) ∧ ∀ base : Heap, K.In base → base.Ns mainGlobals mg → FnOk P w K mg base (CXu P) 60 f fd ["script"] (spD (cnOf K dfs cls) 1 ((gs dfs 60).dD n_law)) := by
  obtain ⟨fd, F⟩ := c.def_ n_law (d := q_law) rfl
  have e := hfa.symm.trans (He.glo_ok X G (fact_mem c (f := .glo "law") (List.mem_append_right _ (List.mem_append_left _ (List.mem_map.mpr ⟨d_law, List.mem_of_getElem? (i := n_law) rfl, rfl⟩)))))
  cases e
  have b := FunD.bindsA (ps := ["script"]) F fun _ _ _ _ _ _ us hl => match us, hl with | [_], _ => rfl
  refine ⟨fd, fun s v => b s [v] rfl, fun base _ _ => ?_⟩
  exact wideCX <| lawAt (ds := dfs) (cls := cls) (glo := glo) X G c okAll rfl hE P w base 59 (k := n_law) (d := d_law) (q := q_law) rfl rfl F
end Ev.W
open PySem PySem.W PySem.Calls PyProof.Rows
theorem holds_of (lt : ∀ ns : List Int, ns.length ≤ 63 → (Ev.gs Ev.W.dfs 60).dD Ev.W.n_law [.scr ns] = .ok (.bl true)) : PySem.Challenge.rw_oncecodes_k44_whole_gates_and_fresh_word.Holds := by
  w_on; o_law
  refine HandSHeadRun.head_any (r := Ev.W.Rw) (q := view Ev.W.Rw.prog [41]) (H := Ev.W.hk) (ob := Ev.W.ob) (M := 4000) (loose := Ev.W.loose) (d := HandSHeadRun.topDef Ev.W.Rw.prog 41) (kwd := []) Ev.W.ob_eq
    (by kernel_rfl) (fun s => by kernel_rfl) Ev.W.headRun (by kernel_rfl) (by kernel_rfl) (by kernel_rfl) (by rfl) (by first | assumption | decide +kernel) (by decide +kernel) ⟨rfl, rfl, rfl, rfl, rfl, by decide +kernel⟩ ?hw ?hc
  case hw => w_witness2
  case hc =>
    refine L2.walk_ofE (l := PySem.Challenge.rw_oncecodes_k44_whole_gates_and_fresh_word) (n := 63) (k := 60) (x := "script") (CX := Ev.CXu PySem.Challenge.rw_oncecodes_k44_whole_gates_and_fresh_word.prog) rfl (by decide) (by kernel_rfl) ⟨rfl, by decide, by decide⟩ ?F Ev.noCX
    intro w mg fa h Y G hmg0
    obtain ⟨K, KX, c, hE⟩ := Y
    have hmg : mg ("law" : PySem.Str) = some (.ref fa) := by
      have e : (HandSHeadRun.topDef Ev.W.Rw.prog 41).name = ("law" : PySem.Str) := by kernel_rfl
      rw [← e]
      exact hmg0
    obtain ⟨fd, hb, hF⟩ := Ev.W.headFacts lt (P := PySem.Challenge.rw_oncecodes_k44_whole_gates_and_fresh_word.prog) (w := w) KX G hmg c hE
    exact ⟨K, fd, _, KX, hb, fun H a ns hl _ hS => Ev.lawSp hS (lt ns hl), hF⟩

end
section
set_option maxHeartbeats 1000000
namespace Ev.W
open PySem PySem.Spec PyProof.Rows L2 Ev
theorem appFI (d : D) (xs : List D) : appF d xs = if xs.length < 16777216 then some (xs ++ [d]) else none := (rfl)
theorem op_catI (xs ys : List D) : op2 .Add (.lst xs) (.lst ys) = if xs.length + ys.length ≤ 16777216 then some (.lst (xs ++ ys)) else none := (rfl)
theorem catRI (xs ys : List D) (ρ : En) : catR (.lst xs) (.lst ys) ρ = if xs.length + ys.length ≤ 16777216 then .ok (xs ++ ys) ρ else .bad := (rfl)
theorem fewI (xs : List D) (ρ : En) : few xs ρ = if xs.length ≤ 16777216 then .ok xs ρ else .bad := (rfl)
theorem op_rep01 (d : D) (b : Bool) : op2 .Mult (.lst [d]) (.int (if b = true then 1 else 0)) = some (.lst (if b = true then [d] else [])) := by
  cases b
  · exact op_rep1 d 0 (by omega) (by omega)
  · exact op_rep1 d 1 (by omega) (by omega)
theorem b1_maxI (ns : List Int) : b1 .max (.lst (ns.map D.int)) = (maxI ns).map .int := by
  show (ints? _).bind _ = _
  rw [ints_map]; rfl
theorem in_ints (i : Int) (ns : List Int) : inD (.int i) (ns.map D.int) = some (decide (i ∈ ns)) := by
  unfold inD
  rw [if_pos ⟨rfl, by rw [List.all_map, List.all_eq_true]; intro x _; rfl⟩]
  congr 1
  rw [Bool.eq_iff_iff, List.any_eq_true, decide_eq_true_eq]
  constructor
  · rintro ⟨y, hy, e⟩
    obtain ⟨m, hm, rfl⟩ := List.mem_map.mp hy
    have : (m == i) = true := e
    rw [beq_iff_eq] at this
    rw [← this]; exact hm
  · intro h
    exact ⟨.int i, List.mem_map.mpr ⟨i, h, rfl⟩, by show (i == i) = true; simp⟩
theorem cmp_inT (i : Int) (ns : List Int) : cmpD .In (.int i) (.tup (ns.map D.int)) = some (decide (i ∈ ns)) := in_ints i ns
theorem cmp_inL (i : Int) (ns : List Int) : cmpD .In (.int i) (.lst (ns.map D.int)) = some (decide (i ∈ ns)) := in_ints i ns
theorem cmp_ninL (i : Int) (ns : List Int) : cmpD .NotIn (.int i) (.lst (ns.map D.int)) = some (!decide (i ∈ ns)) := by
  show (inD _ _).map _ = _
  rw [in_ints]; rfl
theorem sortD_ints (ns : List Int) : sortD (.lst (ns.map D.int)) = some ((sortZ ns).map D.int) := by
  show (some (ns.map D.int)).bind _ = _
  rw [Option.bind_some, ints_map]; rfl
section
variable {n : Nat}
@[simp] theorem r_is_integer (i : Int) : (gs dfs (n + 1)).dD n_is_integer [.int i] = .ok (.bl true) := by
  show endD (evSs (gs dfs n) b_is_integer [.va (.int i)]) = _
  simp [b_is_integer, rdL, isiD]
@[simp] theorem r_is_within (i lo hi : Int) : (gs dfs (n + 2)).dD n_is_within [.int i, .int lo, .int hi] = .ok (.bl (decide (lo ≤ i) && decide (i ≤ hi))) := by
  show endD (evSs (gs dfs (n + 1)) b_is_within [.va (.int i), .va (.int lo), .va (.int hi)]) = _
  simp [b_is_within, rdV]
  by_cases h : lo ≤ i <;> simp [h]
@[simp] theorem r_check : (gs dfs (n + 1)).dD n_check [.bl true] = .ok .non := by
  show endD (evSs (gs dfs n) b_check [.va (.bl true)]) = _
  simp [b_check, rdL]
@[simp] theorem r_checkF : (gs dfs (n + 1)).dD n_check [.bl false] = .err 1 := by
  show endD (evSs (gs dfs n) b_check [.va (.bl false)]) = _
  simp [b_check, rdL]
@[simp] theorem r_is_count (i : Int) : (gs dfs (n + 2)).dD n_is_count [.int i] = .ok (.bl (decide (0 ≤ i))) := by
  show endD (evSs (gs dfs (n + 1)) b_is_count [.va (.int i)]) = _
  simp [b_is_count, rdV]
/-! ### ascending -/
def ascB (ns : List Int) : Bool := (List.zip ns ns.tail).all fun q => decide (q.1 < q.2)
theorem asc_of : ∀ {ns : List Int}, ns.Pairwise (· < ·) → ascB ns = true
  | [], _ => rfl
  | [_], _ => rfl
  | a :: b :: ns, h => by
    have ih := asc_of (ns := b :: ns) (List.pairwise_cons.mp h).2
    have hab := (List.pairwise_cons.mp h).1 b List.mem_cons_self
    unfold ascB at ih ⊢
    simp only [List.tail_cons, List.zip_cons_cons, List.all_cons, Bool.and_eq_true, decide_eq_true_eq] at ih ⊢
    exact ⟨hab, ih⟩
theorem zip_T (ns : List Int) : zipD (.tup (ns.map D.int)) (.tup (ns.map D.int).tail) = some ((List.zip ns ns.tail).map fun q => .tup [.int q.1, .int q.2]) := by
  rw [← List.map_tail]
  show some (List.zipWith _ _ _) = _
  rw [List.zipWith_map, List.zip, List.map_zipWith]
theorem r_are_asc (ns : List Int) (hl : ns.length ≤ 1000000) : (gs dfs (n + 1)).dD n_are_ascending [.tup (ns.map D.int)] = .ok (.bl (ascB ns)) := by
  show endD (evSs (gs dfs n) b_are_ascending [.va (.tup (ns.map D.int)), .un, .un]) = _
  have q : slD (.tup (ns.map D.int)) (some 1) none = some (.tup (ns.map D.int).tail) := by
    show some (D.tup (cutD (ns.map D.int) (some ((1 : Nat) : Int)) none)) = _
    rw [cutD_from, List.drop_one]
  refine endD_wp ?_
  simp [b_are_ascending]
  refine wp_comp (f := fun q : Int × Int => D.tup [.int q.1, .int q.2]) (xs := List.zip ns ns.tail) (ρ1 := [.va (.tup (ns.map D.int)), .un, .un])
    (fun ds us ρ => ρ = [.va (.tup (ns.map D.int)), .un, .un] ∧ ds ++ us.map (fun q => D.bl (decide (q.1 < q.2))) = (List.zip ns ns.tail).map fun q => D.bl (decide (q.1 < q.2))) ?_ ⟨rfl, rfl⟩ ?_ ?_
  · simp [evJ, rdV, rdL, partD, q, zip_T]
    rw [few_ok _ _ (by simp; omega)]
  · rintro J hJ ds ⟨a, b⟩ us ρ ⟨rfl, e⟩
    simp [rdV, wipeR]
    exact hJ _ _ _ ⟨rfl, by rw [← e]; simp⟩
  · rintro ds ρ ⟨rfl, e⟩
    simp only [List.map_nil, List.append_nil] at e
    subst e
    simp [backR]
    rw [show List.map (fun q : Int × Int => D.bl (decide (q.1 < q.2))) (ns.zip ns.tail) = ((ns.zip ns.tail).map fun q => decide (q.1 < q.2)).map D.bl by rw [List.map_map]; rfl, b1_all]
    simp [ascB, List.all_map]
end
end Ev.W

end
section
set_option maxHeartbeats 1000000
namespace Ev.W
open PySem PySem.Spec PyProof.Rows L2 Ev
/-! ### gates, in plain words -/
def top_ (ks : List Int) : Int := ks.foldl max (-1)
theorem top_app (ks : List Int) (x : Int) : top_ (ks ++ [x]) = max (top_ ks) x := by unfold top_; rw [List.foldl_append]; rfl
theorem top_facts (ks : List Int) : (top_ ks = -1 ∨ top_ ks ∈ ks) ∧ -1 ≤ top_ ks ∧ ∀ k ∈ ks, k ≤ top_ ks := foldmax ks (-1)
def seen_ (z : Int) (ks : List Int) : List Int := sortZ (ks.filter fun k => decide (top_ ks - z < k))
def fine (z : Int) (ks : List Int) (x : Int) : Bool := !decide (x ∈ ks) && decide (top_ ks - z < x)
def stp (z : Int) (ks : List Int) (x : Int) : List Int := if fine z ks x = true then ks ++ [x] else ks
def goP (z : Int) : List Int → List Int → List Bool × List Int
  | ks, [] => ([], ks)
  | ks, x :: xs => (fine z ks x :: (goP z (stp z ks x) xs).1, (goP z (stp z ks x) xs).2)
theorem goP_app (z : Int) : ∀ (xs ys ks : List Int), goP z ks (xs ++ ys) = ((goP z ks xs).1 ++ (goP z (goP z ks xs).2 ys).1, (goP z (goP z ks xs).2 ys).2)
  | [], ys, ks => rfl
  | x :: xs, ys, ks => by
    rw [List.cons_append]
    show (fine z ks x :: (goP z (stp z ks x) (xs ++ ys)).1, (goP z (stp z ks x) (xs ++ ys)).2) = _
    rw [goP_app z xs ys]
    rfl
theorem goP_len (z : Int) : ∀ (xs ks : List Int), (goP z ks xs).1.length = xs.length
  | [], _ => rfl
  | x :: xs, ks => by
    show (goP z (stp z ks x) xs).1.length + 1 = _
    rw [goP_len z xs]; rfl
theorem goP_len2 (z : Int) : ∀ (xs ks : List Int), (goP z ks xs).2.length ≤ ks.length + xs.length
  | [], _ => Nat.le_refl _
  | x :: xs, ks => by
    have := goP_len2 z xs (stp z ks x)
    have q : (stp z ks x).length ≤ ks.length + 1 := by unfold stp; split <;> simp
    show (goP z (stp z ks x) xs).2.length ≤ _
    rw [List.length_cons]; omega
/-- what is kept -/
structure KOk (ks : List Int) : Prop where
  nd : ks.Nodup
  nn : ∀ k ∈ ks, 0 ≤ k
theorem KOk.nil : KOk [] := ⟨List.nodup_nil, fun k h => by cases h⟩
theorem KOk.stp {z : Int} {ks : List Int} {x : Int} (h : KOk ks) (hx : 0 ≤ x) : KOk (stp z ks x) := by
  unfold Ev.W.stp
  split
  · rename_i f
    unfold fine at f
    simp only [Bool.and_eq_true, Bool.not_eq_true', decide_eq_false_iff_not] at f
    refine ⟨?_, fun k hk => ?_⟩
    · rw [List.nodup_append]
      refine ⟨h.nd, by simp, fun a ha b hb e => ?_⟩
      rw [List.mem_singleton] at hb
      subst hb e
      exact f.1 ha
    · rcases List.mem_append.mp hk with hk | hk
      · exact h.nn k hk
      · rw [List.mem_singleton] at hk; omega
  · exact h
theorem KOk.goP {z : Int} : ∀ {xs ks : List Int}, KOk ks → (∀ x ∈ xs, 0 ≤ x) → KOk (goP z ks xs).2
  | [], _, h, _ => h
  | x :: xs, ks, h, hx => KOk.goP (xs := xs) (h.stp (hx x List.mem_cons_self)) fun y hy => hx y (List.mem_cons_of_mem _ hy)
theorem mem_seen {z : Int} {ks : List Int} {x : Int} : x ∈ seen_ z ks ↔ x ∈ ks ∧ top_ ks - z < x := by
  unfold seen_
  rw [(sortZ_perm _).mem_iff, List.mem_filter, decide_eq_true_eq]
theorem sorted_eq {xs ys : List Int} (h : xs.Perm ys) : sortZ xs = sortZ ys := sortZ_is ((sortZ_perm xs).trans h) (sortZ_sorted xs)
/-- the next gate's numbers -/
theorem seen_next {z : Int} {ks : List Int} {x : Int} : sortZ ((seen_ z ks ++ [x]).filter fun k => decide (max (top_ ks) x - z < k)) = seen_ z (ks ++ [x]) := by
  unfold seen_
  refine sorted_eq ?_
  rw [top_app, List.filter_append, List.filter_append]
  refine List.Perm.append ?_ (List.Perm.refl _)
  refine ((sortZ_perm _).filter _).trans ?_
  rw [List.filter_filter]
  refine List.Perm.of_eq (List.filter_congr fun k _ => ?_)
  rw [Bool.eq_iff_iff]
  simp only [Bool.and_eq_true, decide_eq_true_eq]
  omega
theorem fine_eq {z : Int} {ks : List Int} {x : Int} : (decide (x ≤ top_ ks - z) || decide (x ∈ seen_ z ks)) = !fine z ks x := by
  unfold fine
  rw [Bool.eq_iff_iff]
  simp only [Bool.or_eq_true, decide_eq_true_eq, Bool.not_eq_true', Bool.and_eq_false_iff, Bool.not_eq_false', decide_eq_false_iff_not, mem_seen]
  constructor
  · rintro (h | ⟨h, _⟩)
    · exact .inr (by omega)
    · exact .inl h
  · rintro (h | h)
    · by_cases c : x ≤ top_ ks - z
      · exact .inl c
      · exact .inr ⟨h, by omega⟩
    · exact .inl (by omega)
theorem seen_asc {z : Int} {ks : List Int} (h : KOk ks) : (seen_ z ks).Pairwise (· < ·) := by
  have s := sortZ_sorted (ks.filter fun k => decide (top_ ks - z < k))
  have nd : (seen_ z ks).Nodup := by
    unfold seen_
    exact (sortZ_perm _).nodup_iff.mpr (h.nd.filter _)
  exact List.Pairwise.imp₂ (fun a b h1 h2 => by omega) s nd
theorem seen_len {z : Int} {ks : List Int} : (seen_ z ks).length ≤ ks.length := by
  unfold seen_
  rw [(sortZ_perm _).length_eq]
  exact List.length_filter_le _ _
theorem seen_top {z : Int} {ks : List Int} (hz : 1 ≤ z) : top_ ks = -1 ∨ top_ ks ∈ seen_ z ks := by
  rcases (top_facts ks).1 with h | h
  · exact .inl h
  · exact .inr (mem_seen.mpr ⟨h, by omega⟩)
/-! ### lateness -/
def lates : Int → List Int → List Int
  | _, [] => []
  | t, x :: xs => max 0 (t - x) :: lates (max t x) xs
/-- all are let through exactly if the gate is large enough -/
theorem goP_all (z : Int) (hz : 1 ≤ z) : ∀ (xs ks : List Int), (ks ++ xs).Nodup → ((goP z ks xs).1.all id = true ↔ ∀ l ∈ lates (top_ ks) xs, l < z)
  | [], ks, _ => by simp [goP, lates]
  | x :: xs, ks, nd => by
    have hx : x ∉ ks := by
      intro h
      rw [List.nodup_append] at nd
      exact nd.2.2 x h x List.mem_cons_self rfl
    have nd2 : ((ks ++ [x]) ++ xs).Nodup := by simpa using nd
    have ih := goP_all z hz xs (ks ++ [x]) nd2
    rw [top_app] at ih
    have f : fine z ks x = decide (top_ ks - z < x) := by unfold fine; simp [hx]
    simp only [goP, lates, List.all_cons, id_eq, Bool.and_eq_true, List.mem_cons, forall_eq_or_imp]
    constructor
    · rintro ⟨h1, h2⟩
      rw [stp, h1, if_pos rfl] at h2
      rw [f, decide_eq_true_eq] at h1
      exact ⟨by omega, ih.mp h2⟩
    · rintro ⟨h1, h2⟩
      have h3 : fine z ks x = true := by rw [f, decide_eq_true_eq]; omega
      rw [stp, h3, if_pos rfl]
      exact ⟨rfl, ih.mpr h2⟩
end Ev.W

end
section
set_option maxHeartbeats 1000000
namespace Ev.W
open PySem PySem.Spec PyProof.Rows L2 Ev
section
variable {n : Nat}
def gD (z : Int) (ks : List Int) : D := .tup [.int z, .int (top_ ks), .tup ((seen_ z ks).map D.int)]
theorem r_through (z : Int) (ks : List Int) (x : Int) (hl : ks.length ≤ 1000000) : (gs dfs (n + 1)).dD n_through [gD z ks, .int x] = .ok (.tup [.bl (fine z ks x), gD z (stp z ks x)]) := by
  show endD (evSs (gs dfs n) b_through [.va (gD z ks), .va (.int x), .un, .un, .un, .un]) = _
  have sl := seen_len (z := z) (ks := ks)
  have fe := fine_eq (z := z) (ks := ks) (x := x)
  refine endD_wp ?_
  cases hf : fine z ks x with
  | false =>
    rw [hf] at fe
    by_cases c : x ≤ top_ ks - z
    · simp [b_through, rdV, rdL, gD, c, stp, hf]
    · simp [c] at fe
      simp [b_through, rdV, rdL, gD, c, stp, hf, cmp_inT, fe]
  | true =>
    rw [hf] at fe
    simp only [Bool.not_true, Bool.or_eq_false_iff, decide_eq_false_iff_not] at fe
    have e := compR_ok (T := .nm 5) (fi := evJ (gs dfs n) (.sq (.fr (.lstS (.star (.var 4) (.cons (.var 1) .nil)))))) (ft := evC (gs dfs n) (.one (.cmp .Gt (.var 5) (.bin .Sub (.var 2) (.var 3))))) (fe := evE (gs dfs n) (.var 5)) (vs := [5])
      (ρ := [.va (gD z ks), .va (.int x), .va (.int (max (top_ ks) x)), .va (.int z), .va (.tup ((seen_ z ks).map D.int)), .un]) (ρ1 := [.va (gD z ks), .va (.int x), .va (.int (max (top_ ks) x)), .va (.int z), .va (.tup ((seen_ z ks).map D.int)), .un])
      (ρw := [.va (gD z ks), .va (.int x), .va (.int (max (top_ ks) x)), .va (.int z), .va (.tup ((seen_ z ks).map D.int)), .un]) (ρ' := [.va (gD z ks), .va (.int x), .va (.int (max (top_ ks) x)), .va (.int z), .va (.tup ((seen_ z ks).map D.int)), .un])
      (f := D.int) (fun k => decide (max (top_ ks) x - z < k)) D.int (seen_ z ks ++ [x])
      (by simp [evJ, rdV]; rw [fewI, if_pos (by simp; omega)]; simp; rw [fewI, if_pos (by simp; omega)]) rfl rfl
      (fun k _ => ⟨[.va (gD z ks), .va (.int x), .va (.int (max (top_ ks) x)), .va (.int z), .va (.tup ((seen_ z ks).map D.int)), .va (.int k)], by simp, by simp [rdV], fun _ => ⟨[.va (gD z ks), .va (.int x), .va (.int (max (top_ ks) x)), .va (.int z), .va (.tup ((seen_ z ks).map D.int)), .va (.int k)], by simp [rdV], rfl⟩, fun _ => rfl⟩)
    unfold gD at e
    have bt : ∀ xs : List D, b1 .tuple (.lst xs) = some (.tup xs) := fun _ => rfl
    have so := sortD_ints ((seen_ z ks ++ [x]).filter fun k => decide (max (top_ ks) x - z < k))
    rw [seen_next, List.filter_append, List.map_append] at so
    simp [b_through, rdV, rdL, gD, fe.1, cmp_inT, fe.2, e, so, stp, hf, top_app, bt]
theorem r_new_gate (z : Int) (h0 : 1 ≤ z) (h1 : z ≤ 1000) : (gs dfs (n + 3)).dD n_new_gate [.int z] = .ok (gD z []) := by
  show endD (evSs (gs dfs (n + 2)) b_new_gate [.va (.int z)]) = _
  have e1 : top_ [] = -1 := rfl
  have e2 : seen_ z [] = [] := by simp [seen_, sortZ]
  simp [b_new_gate, rdV, h0, h1, gD, e1, e2]
theorem r_is_gate (z : Int) (ks : List Int) (h0 : 1 ≤ z) (h1 : z ≤ 1000) (hk : KOk ks) (hl : ks.length ≤ 1000000) : (gs dfs (n + 3)).dD n_is_gate [gD z ks] = .ok (.bl true) := by
  show endD (evSs (gs dfs (n + 2)) b_is_gate [.va (gD z ks), .un, .un, .un, .un]) = _
  have sl := seen_len (z := z) (ks := ks)
  have tf := top_facts ks
  have i0 : ixD (gD z ks) (.int 0) = some (.int z) := rfl
  have a1 : (gs dfs (n + 2)).dD n_are_ascending [.tup ((seen_ z ks).map D.int)] = .ok (.bl true) := by rw [r_are_asc _ (by omega), asc_of (seen_asc hk)]
  have e := compR_all (T := .nm 4) (fi := evJ (gs dfs (n + 2)) (.sq (.var 3))) (ft := evC (gs dfs (n + 2)) .no) (fe := evE (gs dfs (n + 2)) (.and (.more (.call n_is_count 1 (.cons (.var 4) .nil)) (.one (.chn .Lt .LtE (.bin .Sub (.var 2) (.var 1)) (.var 4) (.var 2)))))) (vs := [4])
    (ρ := [.va (gD z ks), .va (.int z), .va (.int (top_ ks)), .va (.tup ((seen_ z ks).map D.int)), .un]) (ρ1 := [.va (gD z ks), .va (.int z), .va (.int (top_ ks)), .va (.tup ((seen_ z ks).map D.int)), .un])
    (ρw := [.va (gD z ks), .va (.int z), .va (.int (top_ ks)), .va (.tup ((seen_ z ks).map D.int)), .un]) (ρ' := [.va (gD z ks), .va (.int z), .va (.int (top_ ks)), .va (.tup ((seen_ z ks).map D.int)), .un])
    (f := D.int) (fun _ => .bl true) (seen_ z ks)
    (by simp [evJ, rdV]; rw [fewI, if_pos (by simp; omega)]) rfl rfl
    (fun k hk2 => ⟨[.va (gD z ks), .va (.int z), .va (.int (top_ ks)), .va (.tup ((seen_ z ks).map D.int)), .va (.int k)], by simp, by simp, [.va (gD z ks), .va (.int z), .va (.int (top_ ks)), .va (.tup ((seen_ z ks).map D.int)), .va (.int k)], by
      obtain ⟨m1, m2⟩ := mem_seen.mp hk2
      have := hk.nn k m1
      have := tf.2.2 k m1
      have q1 : top_ ks - z < k := by omega
      simp [rdV, *], rfl⟩)
  have al : b1 .all (.lst (List.map (fun _ => D.bl true) (seen_ z ks))) = some (.bl true) := by
    rw [show (List.map (fun _ => D.bl true) (seen_ z ks)) = ((seen_ z ks).map fun _ => true).map D.bl by rw [List.map_map]; rfl, b1_all]
    simp
  have t1 : ¬ (top_ ks < -1) := by omega
  have st := seen_top (z := z) (ks := ks) h0
  refine endD_wp ?_
  simp only [gD] at e i0
  rcases st with st | st
  · simp [b_is_gate, rdV, rdL, isiD, gD, i0, h0, h1, t1, e, al, a1]
    simp [st]
  · by_cases c : top_ ks = -1
    · simp [b_is_gate, rdV, rdL, isiD, gD, i0, h0, h1, t1, e, al, a1]
      simp [c]
    · have c2 : (top_ ks == -1) = false := by simpa using c
      simp [b_is_gate, rdV, rdL, isiD, gD, i0, h0, h1, t1, e, al, a1, c2, cmp_inT, st]
theorem r_check_gate (z : Int) (ks : List Int) (h0 : 1 ≤ z) (h1 : z ≤ 1000) (hk : KOk ks) (hl : ks.length ≤ 1000000) : (gs dfs (n + 4)).dD n_check_gate [gD z ks] = .ok .non := by
  show endD (evSs (gs dfs (n + 3)) b_check_gate [.va (gD z ks)]) = _
  simp [b_check_gate, rdV, r_is_gate z ks h0 h1 hk hl]
theorem r_let_through (z : Int) (ks : List Int) (x : Int) (h0 : 1 ≤ z) (h1 : z ≤ 1000) (hk : KOk ks) (hl : ks.length ≤ 1000000) (hx : 0 ≤ x) : (gs dfs (n + 5)).dD n_let_through [gD z ks, .int x] = .ok (.tup [.bl (fine z ks x), gD z (stp z ks x)]) := by
  show endD (evSs (gs dfs (n + 4)) b_let_through [.va (gD z ks), .va (.int x)]) = _
  simp [b_let_through, rdV, r_check_gate z ks h0 h1 hk hl, hx, r_through z ks x hl]
theorem r_are_numbers (xs : List Int) (hx : ∀ x ∈ xs, 0 ≤ x) (hl : xs.length ≤ 1000000) : (gs dfs (n + 3)).dD n_are_numbers [.lst (xs.map D.int)] = .ok (.bl true) := by
  show endD (evSs (gs dfs (n + 2)) b_are_numbers [.va (.lst (xs.map D.int)), .un]) = _
  have e := compR_all (T := .nm 1) (fi := evJ (gs dfs (n + 2)) (.sq (.var 0))) (ft := evC (gs dfs (n + 2)) .no) (fe := evE (gs dfs (n + 2)) (.call n_is_count 1 (.cons (.var 1) .nil))) (vs := [1])
    (ρ := [.va (.lst (xs.map D.int)), .un]) (ρ1 := [.va (.lst (xs.map D.int)), .un]) (ρw := [.va (.lst (xs.map D.int)), .un]) (ρ' := [.va (.lst (xs.map D.int)), .un]) (f := D.int) (fun _ => .bl true) xs
    (by simp [evJ, rdV]; rw [fewI, if_pos (by simp; omega)]) rfl rfl
    (fun k hk => ⟨[.va (.lst (xs.map D.int)), .va (.int k)], by simp, by simp, [.va (.lst (xs.map D.int)), .va (.int k)], by simp [rdV, hx k hk], rfl⟩)
  have al : b1 .all (.lst (List.map (fun _ => D.bl true) xs)) = some (.bl true) := by
    rw [show (List.map (fun _ => D.bl true) xs) = (xs.map fun _ => true).map D.bl by rw [List.map_map]; rfl, b1_all]
    simp
  simp [b_are_numbers, rdL, isiD, e, al]
theorem r_passed (z : Int) (ks xs : List Int) (h0 : 1 ≤ z) (h1 : z ≤ 1000) (hk : KOk ks) (hx : ∀ x ∈ xs, 0 ≤ x) (hl : ks.length + xs.length ≤ 1000000) : (gs dfs (n + 5)).dD n_passed [gD z ks, .lst (xs.map D.int)] =
    .ok (.tup [.lst ((goP z ks xs).1.map D.bl), gD z (goP z ks xs).2]) := by
  show endD (evSs (gs dfs (n + 4)) b_passed [.va (gD z ks), .va (.lst (xs.map D.int)), .un, .un, .un]) = _
  refine endD_wp ?_
  simp [b_passed, rdV, r_check_gate z ks h0 h1 hk (by omega), r_are_numbers xs hx (by omega)]
  refine wp_for (f := D.int) (fun us ρ => ∃ kk ds x3 x4, ρ = [.va (gD z kk), .va (.lst (xs.map D.int)), .ow false (.lst ds), x3, x4] ∧ Nt x3 ∧ Nt x4 ∧ ds.length + us.length = xs.length ∧ kk.length + us.length ≤ 1000000 ∧
    ds ++ (goP z kk us).1.map D.bl = (goP z ks xs).1.map D.bl ∧ (goP z kk us).2 = (goP z ks xs).2) ⟨ks, [], _, _, rfl, trivial, trivial, by simp, by omega, rfl, rfl⟩ ?_ ?_
  · rintro J hJ x us ρ ⟨kk, ds, x3, x4, rfl, h3, h4, l1, l2, e1, e2⟩
    rw [List.length_cons] at l1 l2
    have sl : (stp z kk x).length ≤ kk.length + 1 := by unfold stp; split <;> simp
    simp [h3, h4, l1_passed, rdV, rdO, r_through z kk x (by omega)]
    rw [appFI, if_pos (by omega)]
    simp
    refine hJ _ _ ⟨_, _, _, _, rfl, trivial, trivial, by simp; omega, by omega, ?_, e2⟩
    rw [← e1]; simp [goP]
  · rintro ρ ⟨kk, ds, x3, x4, rfl, h3, h4, l1, l2, e1, e2⟩
    simp [goP] at e1 e2
    simp [rdV, e1, ← e2]
/-! ### the law's own -/
theorem r_law_gate (z : Int) (ks : List Int) (hl : ks.length ≤ 1000000) : (gs dfs (n + 1)).dD n__law_gate [.int z, .lst (ks.map D.int)] = .ok (gD z ks) := by
  show endD (evSs (gs dfs n) b__law_gate [.va (.int z), .va (.lst (ks.map D.int)), .un, .un]) = _
  have mx : b1 .max (.lst (.int (-1) :: ks.map D.int)) = some (.int (top_ ks)) := by
    have := b1_maxI (-1 :: ks)
    exact this
  have e := compR_ok (T := .nm 3) (fi := evJ (gs dfs n) (.sq (.var 1))) (ft := evC (gs dfs n) (.one (.cmp .Gt (.var 3) (.bin .Sub (.var 2) (.var 0))))) (fe := evE (gs dfs n) (.var 3)) (vs := [3])
    (ρ := [.va (.int z), .va (.lst (ks.map D.int)), .va (.int (top_ ks)), .un]) (ρ1 := [.va (.int z), .va (.lst (ks.map D.int)), .va (.int (top_ ks)), .un])
    (ρw := [.va (.int z), .va (.lst (ks.map D.int)), .va (.int (top_ ks)), .un]) (ρ' := [.va (.int z), .va (.lst (ks.map D.int)), .va (.int (top_ ks)), .un])
    (f := D.int) (fun k => decide (top_ ks - z < k)) D.int ks
    (by simp [evJ, rdV]; rw [fewI, if_pos (by simp; omega)]) rfl rfl
    (fun k _ => ⟨[.va (.int z), .va (.lst (ks.map D.int)), .va (.int (top_ ks)), .va (.int k)], by simp, by simp [rdV], fun _ => ⟨[.va (.int z), .va (.lst (ks.map D.int)), .va (.int (top_ ks)), .va (.int k)], by simp [rdV], rfl⟩, fun _ => rfl⟩)
  have bt : ∀ xs : List D, b1 .tuple (.lst xs) = some (.tup xs) := fun _ => rfl
  have ct : op2 .Add (.lst [.int (-1)]) (.lst (ks.map D.int)) = some (.lst (.int (-1) :: ks.map D.int)) := op_cat _ _ (by simp; omega)
  simp [b__law_gate, rdV, ct, mx, e, sortD_ints, gD, seen_, bt]
theorem r_law_passed (z : Int) (xs : List Int) (hl : xs.length ≤ 1000000) : (gs dfs (n + 1)).dD n__law_passed [.int z, .lst (xs.map D.int)] = .ok (.tup [.lst ((goP z [] xs).1.map D.bl), .lst ((goP z [] xs).2.map D.int)]) := by
  show endD (evSs (gs dfs n) b__law_passed [.va (.int z), .va (.lst (xs.map D.int)), .un, .un, .un, .un]) = _
  refine endD_wp ?_
  simp [b__law_passed, rdV]
  refine wp_for (f := D.int) (fun us ρ => ∃ (kk : List Int) (ds : List D) (x2 x5 : Sl), ρ = [.va (.int z), .va (.lst (xs.map D.int)), x2, .ow false (.lst ds), .va (.lst (kk.map D.int)), x5] ∧ Nt x2 ∧ Nt x5 ∧ ds.length + us.length = xs.length ∧ kk.length + us.length ≤ 1000000 ∧
    ds ++ (goP z kk us).1.map D.bl = (goP z [] xs).1.map D.bl ∧ (goP z kk us).2 = (goP z [] xs).2) ⟨[], [], .un, .un, rfl, trivial, trivial, by simp, by simpa using hl, rfl, rfl⟩ ?_ ?_
  · rintro J hJ x us ρ ⟨kk, ds, x2, x5, rfl, h2, h5, l1, l2, e1, e2⟩
    rw [List.length_cons] at l1 l2
    have mx : b1 .max (.lst (.int (-1) :: kk.map D.int)) = some (.int (top_ kk)) := by
      have := b1_maxI (-1 :: kk)
      exact this
    have ct : op2 .Add (.lst [.int (-1)]) (.lst (kk.map D.int)) = some (.lst (.int (-1) :: kk.map D.int)) := op_cat _ _ (by simp; omega)
    have sl : (stp z kk x).length ≤ kk.length + 1 := by unfold stp; split <;> simp
    have fin : Wp (evSs (gs dfs n) (.cons (.app 3 (.var 5)) <| .cons (.asg 4 (.bin .Add (.var 4) (.bin .Mult (.fr (.lst (.cons (.var 2) .nil))) (.b1 .int (.lk 5))))) <| .nil) [.va (.int z), .va (.lst (xs.map D.int)), .va (.int x), .ow false (.lst ds), .va (.lst (kk.map D.int)), .va (.bl (fine z kk x))]) (fw (fun f ρ => Wp (thenS (evSs (gs dfs n) (.cons (.ret (.tup (.cons (.var 3) (.cons (.var 4) .nil)))) .nil)) f ρ) fun f x => f = .rt (.tup [.lst ((goP z [] xs).1.map D.bl), .lst ((goP z [] xs).2.map D.int)])) (J us)) := by
      simp [rdV, rdO, rdL]
      rw [appFI, if_pos (by omega)]
      have q2 : op2 .Add (.lst (kk.map D.int)) (.lst (if fine z kk x = true then [D.int x] else [])) = some (.lst ((stp z kk x).map D.int)) := by
        rw [op_cat _ _ (by rw [List.length_map]; split <;> simp <;> omega), stp]
        cases fine z kk x <;> simp
      simp [rdV, rdL, op_rep01, q2]
      refine hJ _ _ ⟨stp z kk x, ds ++ [.bl (fine z kk x)], .va (.int x), .va (.bl (fine z kk x)), rfl, trivial, trivial, by simp; omega, by omega, ?_, e2⟩
      rw [← e1]; simp [goP]
    by_cases c : x ∈ kk
    · have f : fine z kk x = false := by unfold fine; simp [c]
      rw [f] at fin
      simp [h2, h5, l1__law_passed, rdV, rdL, cmp_ninL, c]
      simpa [rdV, rdL] using fin
    · have f : fine z kk x = decide (top_ kk - z < x) := by unfold fine; simp [c]
      rw [f] at fin
      simp [h2, h5, l1__law_passed, rdV, rdL, cmp_ninL, c, ct, mx]
      simpa [rdV, rdL] using fin
  · rintro ρ ⟨kk, ds, x2, x5, rfl, h2, h5, l1, l2, e1, e2⟩
    simp [goP] at e1 e2
    simp [rdV, e1, ← e2]
end
end Ev.W

end
section
set_option maxHeartbeats 1000000
namespace Ev.W
open PySem PySem.Spec PyProof.Rows L2 Ev
section
variable {n : Nat}
/-! ### draws -/
def tk (ns : List Int) (b : Int) : Int := match ns.getLast? with
  | some i => i % b
  | none => 0
def tr (ns : List Int) : List Int := ns.dropLast
theorem tk_lo (ns : List Int) (b : Int) (h : 0 < b) : 0 ≤ tk ns b := by
  unfold tk
  split
  · exact Int.emod_nonneg _ (by omega)
  · omega
theorem tk_hi (ns : List Int) (b : Int) (h : 0 < b) : tk ns b < b := by
  unfold tk
  split
  · exact Int.emod_lt_of_pos _ h
  · exact h
theorem r_take (ns : List Int) (b : Int) (h : 0 < b) : (gs dfs (n + 1)).dM n__law_take (ns.map D.int) [.int b] = .ok (.int (tk ns b), (tr ns).map D.int) := by
  show endM (evSs (gs dfs n) b__law_take [.ow true (ns.map D.int), .va (.int b)]) = _
  rcases List.eq_nil_or_concat ns with rfl | ⟨ms, i, rfl⟩
  · simp [b__law_take, rdL, tk, tr]
  · have z : (((ms.length : Int) + 1) == 0) = false := by rw [beq_eq_false_iff_ne]; omega
    have p : popR 0 [.ow true ((ms ++ [i]).map D.int), .va (.int b)] = .ok (.int i) [.ow true (ms.map D.int), .va (.int b)] := by
      simp [popR]
    simp only [List.map_append, List.map_cons, List.map_nil] at p
    simp [b__law_take, rdL, rdV, z, p, tk, tr, op_mod _ b h]
theorem r_pick (ns : List Int) (ds : List D) (h : 0 < ds.length) (h2 : ds.length ≤ 1000000) : (gs dfs (n + 2)).dM n__law_pick (ns.map D.int) [.lst ds] = .ok (ds.getD (tk ns ds.length).toNat .non, (tr ns).map D.int) := by
  show endM (evSs (gs dfs (n + 1)) b__law_pick [.ow true (ns.map D.int), .va (.lst ds)]) = _
  have a := tk_lo ns ds.length (by omega)
  have b := tk_hi ns ds.length (by omega)
  have ix : ixD (.lst ds) (.int (tk ns ds.length)) = some (ds.getD (tk ns ds.length).toNat .non) := by
    have q := ixD_lst ds (tk ns ds.length).toNat (ds.getD (tk ns ds.length).toNat .non) (by rw [List.getD_eq_getElem?_getD, List.getElem?_eq_getElem (show (tk ns ds.length).toNat < ds.length by omega)]; rfl) (by rw [Int.toNat_of_nonneg a]; omega)
    rw [Int.toNat_of_nonneg a] at q
    exact q
  simp [b__law_pick, rdL, rdO, Ev.callM, r_take ns ds.length (by omega), ix]
end
end Ev.W

end
section
set_option maxHeartbeats 1000000
namespace Ev.W
open PySem PySem.Spec PyProof.Rows L2 Ev
section
variable {n : Nat}
/-! ### the same -/
def sm : Nat → D → Prop
  | _, .non => True
  | _, .bl _ => True
  | _, .int _ => True
  | _, .str _ => True
  | k + 1, .tup xs => xs.length ≤ 1000000 ∧ ∀ x ∈ xs, sm k x
  | k + 1, .lst xs => xs.length ≤ 1000000 ∧ ∀ x ∈ xs, sm k x
  | _, _ => False
theorem same_list (G : Gs) (d : D) (xs : List D) (len : b1 .len d = some (.int xs.length)) (ix : ∀ (j : Nat) (x : D), xs[j]? = some x → ixD d (.int j) = some x) (hl : xs.length ≤ 1000000) (hg : ∀ x ∈ xs, G.dD n__law_same [x, x] = .ok (.bl true)) :
    compR (.nm 3) (evJ G (.r1 (.b1 .len (.lk 1)))) (evC G .no) (evE G (.call n__law_same 2 (.cons (.ixV 0 (.var 3)) (.cons (.ixV 1 (.var 3)) .nil)))) [3] [.va d, .va d, .un, .un] = .ok ((List.range xs.length).map fun _ => .bl true) [.va d, .va d, .un, .un] := by
  have hi : evJ G (.r1 (.b1 .len (.lk 1))) [.va d, .va d, .un, .un] = .ok ((List.range xs.length).map fun j : Nat => D.int (0 + (j : Int))) [.va d, .va d, .un, .un] := by
    unfold evJ
    simp [rdL, len, rng_1 (xs.length : Int) ⟨by omega, by omega⟩]
    rw [few_ok _ _ (by rw [nums_len]; omega)]
    simp [nums]
  refine compR_all (fun _ => .bl true) (List.range xs.length) hi rfl rfl fun j hj => ?_
  have hj := List.mem_range.mp hj
  have e : xs[j]? = some xs[j] := List.getElem?_eq_getElem hj
  have i := ix j _ e
  have g := hg xs[j] (List.getElem_mem hj)
  refine ⟨[.va d, .va d, .un, .va (.int (0 + (j : Int)))], by simp [wipeR], by simp, [.va d, .va d, .un, .va (.int (0 + (j : Int)))], ?_, rfl⟩
  rw [Int.zero_add]
  simp [rdL, rdV, i, g]
end
end Ev.W

end
section
set_option maxHeartbeats 1000000
namespace Ev.W
open PySem PySem.Spec PyProof.Rows L2 Ev
section
variable {n : Nat}
theorem all_true (k : Nat) : b1 .all (.lst ((List.range k).map fun _ => .bl true)) = some (.bl true) := by
  have e : ((List.range k).map fun _ => D.bl true) = (List.replicate k true).map D.bl := by
    apply List.ext_getElem
    · simp
    · intro i h1 h2
      simp
  rw [e, b1_all]
  simp
theorem r_same (k : Nat) : ∀ (n : Nat) (d : D), sm k d → (gs dfs (n + k + 1)).dD n__law_same [d, d] = .ok (.bl true) := by
  have base : ∀ (m : Nat) (d : D), (match d with | .non => True | .bl _ => True | .int _ => True | .str _ => True | _ => False) → (gs dfs (m + 1)).dD n__law_same [d, d] = .ok (.bl true) := by
    intro m d h
    show endD (evSs (gs dfs m) b__law_same [.va d, .va d, .un, .un]) = _
    cases d with
    | non => simp [b__law_same, rdL, rdV, isiD]
    | bl b => simp [b__law_same, rdL, rdV, isiD]
    | int i => simp [b__law_same, rdL, rdV, isiD]
    | str x => simp [b__law_same, rdL, rdV, isiD, cmp_eqS]
    | _ => exact h.elim
  induction k with
  | zero =>
    intro n d h
    refine base n d ?_
    cases d <;> first | trivial | (simp [sm] at h)
  | succ k ih =>
    intro n d h
    have e : n + (k + 1) + 1 = (n + k + 1) + 1 := by omega
    cases d with
    | tup xs =>
      simp only [sm] at h
      have c := same_list (gs dfs (n + k + 1)) (.tup xs) xs rfl (ixD_tup xs) h.1 fun x hx => ih n x (h.2 x hx)
      rw [e]
      show endD (evSs (gs dfs (n + k + 1)) b__law_same [.va (.tup xs), .va (.tup xs), .un, .un]) = _
      simp [b__law_same, rdL, rdV, isiD, c, all_true]
    | lst xs =>
      simp only [sm] at h
      have c := same_list (gs dfs (n + k + 1)) (.lst xs) xs rfl (ixD_ls xs) h.1 fun x hx => ih n x (h.2 x hx)
      rw [e]
      show endD (evSs (gs dfs (n + k + 1)) b__law_same [.va (.lst xs), .va (.lst xs), .un, .un]) = _
      simp [b__law_same, rdL, rdV, isiD, c, all_true]
    | fn => simp [sm] at h
    | dK => simp [sm] at h
    | dT => simp [sm] at h
    | scr => simp [sm] at h
    | _ => rw [e]; exact base _ _ trivial
end
end Ev.W

end
section
set_option maxHeartbeats 1000000
namespace Ev.W
open PySem PySem.Spec PyProof.Rows L2 Ev
section
variable {n : Nat}
theorem draws_in {G : Gs} (s0 c sd f : Sl) : ∀ (k : Nat) (a x : Int) (acc : List Int) (s : Sl), Nt s → 0 ≤ x → acc.length + k ≤ 1000000 →
    ∃ (acc' : List Int) (x' : Int) (s' : Sl), acc'.length ≤ acc.length + k ∧ Nt s' ∧ forL (asgT (.nm 4)) (evSs G l1__law_draws) (nums a k) [s0, .ow false (acc.map D.int), c, sd, s, .va (.int x), f] =
      .ok .nx [s0, .ow false (acc'.map D.int), c, sd, s', .va (.int x'), f]
  | 0, a, x, acc, s, h, _, _ => ⟨acc, x, s, Nat.le_refl _, h, by simp [forL_nil]⟩
  | k + 1, a, x, acc, s, h, h0, hl => by
    by_cases p : 0 < x
    · obtain ⟨acc', x', s', r1, r2, e⟩ := draws_in s0 c sd f k (a + 1) (x / 997) (acc ++ [x % 997]) (.va (.int a)) trivial (Int.ediv_nonneg h0 (by omega)) (by rw [List.length_append, List.length_singleton]; omega)
      refine ⟨acc', x', s', by rw [List.length_append, List.length_singleton] at r1; omega, r2, ?_⟩
      have hap := appF_ok (.int (x % 997)) (acc.map D.int) (by rw [List.length_map]; omega)
      rw [nums_succ, forL_one (ρ1 := [s0, .ow false (acc.map D.int), c, sd, .va (.int a), .va (.int x), f]) (ρ2 := [s0, .ow false ((acc ++ [x % 997]).map D.int), c, sd, .va (.int a), .va (.int (x / 997)), f])
        (by simp [h]) (by simp [l1__law_draws, rdV, rdL, rdO, p, op_mod x 997 (by omega), op_fdiv x 997 ⟨by omega, by omega⟩, hap]), e]
    · obtain ⟨acc', x', s', r1, r2, e⟩ := draws_in s0 c sd f k (a + 1) x acc (.va (.int a)) trivial h0 (by omega)
      refine ⟨acc', x', s', by omega, r2, ?_⟩
      rw [nums_succ, forL_one (ρ1 := [s0, .ow false (acc.map D.int), c, sd, .va (.int a), .va (.int x), f]) (ρ2 := [s0, .ow false (acc.map D.int), c, sd, .va (.int a), .va (.int x), f])
        (by simp [h]) (by simp [l1__law_draws, rdV, p]), e]
theorem draws_out {G : Gs} (s0 sd : Sl) : ∀ (cs : List Int) (acc : List Int) (s2 s4 s5 s6 : Sl), Nt s2 → Nt s4 → Nt s5 → Nt s6 → acc.length + 62 * cs.length ≤ 900000 →
    ∃ (acc' : List Int) (a b c d : Sl), Nt a ∧ Nt b ∧ Nt c ∧ Nt d ∧ acc'.length ≤ acc.length + 62 * cs.length ∧ forL (asgT (.nm 2)) (evSs G l2__law_draws) (cs.map D.int) [s0, .ow false (acc.map D.int), s2, sd, s4, s5, s6] =
      .ok .nx [s0, .ow false (acc'.map D.int), a, sd, b, c, d]
  | [], acc, s2, s4, s5, s6, h2, h4, h5, h6, _ => ⟨acc, s2, s4, s5, s6, h2, h4, h5, h6, Nat.le_refl _, by simp [forL_nil]⟩
  | x :: cs, acc, s2, s4, s5, s6, h2, h4, h5, h6, hl => by
    rw [List.length_cons] at hl
    have ax : 0 ≤ (if x < 0 then -x else x) := by split <;> omega
    generalize hy : (if x < 0 then -x else x) = y at ax
    by_cases p : y < 1000000000000000000
    · have l1 := appF_ok (.int (((y * 48271 + 11) % 2147483647 * 69621 + y) % 2147483629)) (acc.map D.int) (by rw [List.length_map]; omega)
      have l2 := appF_ok (.int (((y * 48271 + 11) % 2147483647 + y / 7) % 1000003)) (acc.map D.int ++ [.int (((y * 48271 + 11) % 2147483647 * 69621 + y) % 2147483629)]) (by rw [List.length_append, List.length_map, List.length_singleton]; omega)
      obtain ⟨acc1, x1, s1, r1, r2, e1⟩ := draws_in (G := G) s0 (.va (.int x)) sd (.va (.int ((y * 48271 + 11) % 2147483647))) 60 0 0 (acc ++ [((y * 48271 + 11) % 2147483647 * 69621 + y) % 2147483629, ((y * 48271 + 11) % 2147483647 + y / 7) % 1000003]) s4 h4 (by omega) (by rw [List.length_append]; simp; omega)
      rw [List.length_append] at r1
      simp only [List.length_cons, List.length_nil] at r1
      obtain ⟨acc', a, b, c, d, q1, q2, q3, q4, q5, e⟩ := draws_out s0 sd cs acc1 (.va (.int x)) s1 (.va (.int x1)) (.va (.int ((y * 48271 + 11) % 2147483647))) trivial r2 trivial trivial (by omega)
      refine ⟨acc', a, b, c, d, q1, q2, q3, q4, by rw [List.length_cons]; omega, ?_⟩
      simp only [List.map_append, List.map_cons, List.map_nil] at e1
      rw [List.map_cons, forL_one (ρ1 := [s0, .ow false (acc.map D.int), .va (.int x), sd, s4, s5, s6]) (ρ2 := [s0, .ow false (acc1.map D.int), .va (.int x), sd, s1, .va (.int x1), .va (.int ((y * 48271 + 11) % 2147483647))])
        (by simp [h2]) ?_, e]
      have pw : op2 .Pow (.int 10) (.int 18) = some (.int (10 ^ 18)) := rfl
      simp [l2__law_draws, rdV, rdL, rdO, hy, pw, p, h5, h6, op_mul y 48271 (mulOk_r _ _ ⟨by omega, by omega⟩), op_mod _ 2147483647 (by omega), op_mul _ 69621 (mulOk_r _ _ ⟨by omega, by omega⟩), op_mod _ 2147483629 (by omega), op_mod _ 1000003 (by omega), op_fdiv y 7 ⟨by omega, by omega⟩, l1, l2, rng_1 60 ⟨by omega, by omega⟩, e1]
    · obtain ⟨acc1, x1, s1, r1, r2, e1⟩ := draws_in (G := G) s0 (.va (.int x)) sd s6 60 0 y acc s4 h4 ax (by omega)
      obtain ⟨acc', a, b, c, d, q1, q2, q3, q4, q5, e⟩ := draws_out s0 sd cs acc1 (.va (.int x)) s1 (.va (.int x1)) s6 trivial r2 trivial h6 (by omega)
      refine ⟨acc', a, b, c, d, q1, q2, q3, q4, by rw [List.length_cons]; omega, ?_⟩
      rw [List.map_cons, forL_one (ρ1 := [s0, .ow false (acc.map D.int), .va (.int x), sd, s4, s5, s6]) (ρ2 := [s0, .ow false (acc1.map D.int), .va (.int x), sd, s1, .va (.int x1), s6])
        (by simp [h2]) ?_, e]
      have pw : op2 .Pow (.int 10) (.int 18) = some (.int (10 ^ 18)) := rfl
      simp [l2__law_draws, rdV, rdL, rdO, hy, pw, p, h5, rng_1 60 ⟨by omega, by omega⟩, e1]
theorem draws_seed {G : Gs} (s0 c s5 s6 : Sl) : ∀ (k : Nat) (a x : Int) (acc : List Int) (s : Sl), Nt s → acc.length + k ≤ 1000000 →
    ∃ (acc' : List Int) (x' : Int) (s' : Sl), forL (asgT (.nm 4)) (evSs G l3__law_draws) (nums a k) [s0, .ow false (acc.map D.int), c, .va (.int x), s, s5, s6] =
      .ok .nx [s0, .ow false (acc'.map D.int), c, .va (.int x'), s', s5, s6]
  | 0, a, x, acc, s, h, _ => ⟨acc, x, s, by simp [forL_nil]⟩
  | k + 1, a, x, acc, s, h, hl => by
    obtain ⟨acc', x', s', e⟩ := draws_seed s0 c s5 s6 k (a + 1) ((x * 48271 + 69621) % 2147483647) (acc ++ [(x * 48271 + 69621) % 2147483647 / 5]) (.va (.int a)) trivial (by rw [List.length_append, List.length_singleton]; omega)
    refine ⟨acc', x', s', ?_⟩
    have hap := appF_ok (.int ((x * 48271 + 69621) % 2147483647 / 5)) (acc.map D.int) (by rw [List.length_map]; omega)
    rw [nums_succ, forL_one (ρ1 := [s0, .ow false (acc.map D.int), c, .va (.int x), .va (.int a), s5, s6]) (ρ2 := [s0, .ow false ((acc ++ [(x * 48271 + 69621) % 2147483647 / 5]).map D.int), c, .va (.int ((x * 48271 + 69621) % 2147483647)), .va (.int a), s5, s6])
      (by simp [h]) (by simp [l3__law_draws, rdV, rdL, rdO, op_mul x 48271 (mulOk_r _ _ ⟨by omega, by omega⟩), op_mod _ 2147483647 (by omega), op_fdiv _ 5 ⟨by omega, by omega⟩, hap]), e]
theorem r_draws (ns : List Int) (hl : ns.length ≤ 63) : ∃ ms : List Int, (gs dfs (n + 1)).dF n__law_draws [.scr ns] = .ok (ms.map D.int) := by
  obtain ⟨acc', a, b, c, d, q1, q2, q3, q4, q5, e⟩ := draws_out (G := gs dfs n) (.va (.scr ns)) .un ns [] .un .un .un .un trivial trivial trivial trivial (by simp; omega)
  simp only [List.length_nil] at q5
  have fin : ∀ x : Int, ∃ ms : List Int, endF ((forL (asgT (.nm 4)) (evSs (gs dfs n) l3__law_draws) (nums 0 2000) [.va (.scr ns), .ow false (acc'.map D.int), a, .va (.int x), b, c, d]).bind (thenS (evSs (gs dfs n) (.cons (.retF (.listRev (.lk 1))) .nil)))) = .ok (ms.map D.int) := fun x => by
    obtain ⟨acc2, x2, s2, e2⟩ := draws_seed (G := gs dfs n) (.va (.scr ns)) a c d 2000 0 x acc' b q2 (by omega)
    refine ⟨acc2.reverse, ?_⟩
    rw [e2]
    have rv : revD (.lst (acc2.map D.int)) = some (acc2.reverse.map D.int) := by
      show some (acc2.map D.int).reverse = _
      rw [List.map_reverse]
    simp [rdL, revD]
  have un : (gs dfs (n + 1)).dF n__law_draws [.scr ns] = endF (evSs (gs dfs n) b__law_draws [.va (.scr ns), .un, .un, .un, .un, .un, .un]) := rfl
  simp only [List.map_nil] at e
  rw [un]
  cases ns with
  | nil =>
    obtain ⟨ms, em⟩ := fin 1
    refine ⟨ms, ?_⟩
    rw [← em]
    have le : b1 .len (.scr []) = some (.int 0) := rfl
    simp only [List.map_nil] at e
    simp [b__law_draws, rdV, rdL, le, e, rng_1 2000 ⟨by omega, by omega⟩]
  | cons x ns =>
    have ix : ixD (.scr (x :: ns)) (.int 0) = some (.int x) := by
      show (L2.atI (x :: ns) ((0 : Nat) : Int)).map D.int = _
      rw [atI_get _ 0 x rfl]
      rfl
    obtain ⟨ms, em⟩ := fin (1 + (if x < 0 then -x else x))
    refine ⟨ms, ?_⟩
    rw [← em]
    have p : (0 : Int) < (ns.length : Int) + 1 := by omega
    have le : b1 .len (.scr (x :: ns)) = some (.int ((ns.length : Int) + 1)) := rfl
    simp only [List.map_cons] at e
    simp [b__law_draws, rdV, rdL, le, ix, e, p, rng_1 2000 ⟨by omega, by omega⟩]
end
end Ev.W

end
section
set_option maxHeartbeats 1000000
namespace Ev.W
open PySem PySem.Spec PyProof.Rows L2 Ev
section
variable {n : Nat}
theorem r_takeX (ns : List Int) (b : Int) (h : 0 < b) : ∃ (v : Int) (ms : List Int), (gs dfs (n + 1)).dM n__law_take (ns.map D.int) [.int b] = .ok (.int v, ms.map D.int) ∧ 0 ≤ v ∧ v < b :=
  ⟨_, _, r_take ns b h, tk_lo ns b h, tk_hi ns b h⟩
theorem r_pickX (ns : List Int) (ds : List D) (h : 0 < ds.length) (h2 : ds.length ≤ 1000000) : ∃ (d : D) (ms : List Int), (gs dfs (n + 2)).dM n__law_pick (ns.map D.int) [.lst ds] = .ok (d, ms.map D.int) ∧ d ∈ ds := by
  have a := tk_lo ns ds.length (by omega)
  have b := tk_hi ns ds.length (by omega)
  refine ⟨_, _, r_pick ns ds h h2, ?_⟩
  rw [List.getD_eq_getElem?_getD, List.getElem?_eq_getElem (show (tk ns ds.length).toNat < ds.length by omega)]
  exact List.getElem_mem _
@[simp] theorem callM_0 (r : List D → List D → Cr (D × List D)) (ds xs : List D) (io : Bool) (ρ : En) : Ev.callM 0 r ds (.ow io xs :: ρ) = match r xs ds with | .ok (d, ys) => .ok d (.ow io ys :: ρ) | _ => .bad := by
  unfold Ev.callM
  simp
  try (cases r xs ds <;> rfl)
@[simp] theorem rdO_0 (xs : List D) (io : Bool) (ρ : En) : rdO (.ow io xs :: ρ) 0 = .ok xs (.ow io xs :: ρ) := (rfl)
theorem rng1n (k : Nat) (h : (k : Int) < 2 ^ 62) : rng [.int k] = some (nums 0 k) := by
  have q := rng_1 (k : Int) ⟨by omega, h⟩
  rwa [Int.toNat_natCast] at q
/-! ### mixed -/
theorem r_mixed (ns : List Int) (ds : List D) (hl : ds.length ≤ 100000) : ∃ (ys : List D) (ms : List Int), (gs dfs (n + 2)).dM n__law_mixed (ns.map D.int) [.lst ds] = .ok (.lst ys, ms.map D.int) ∧ ys.Perm ds := by
  have q : ∃ d ys, (gs dfs (n + 2)).dM n__law_mixed (ns.map D.int) [.lst ds] = .ok (d, ys) ∧ (∃ ms : List Int, ys = ms.map D.int) ∧ ∃ zs : List D, d = .lst zs ∧ zs.Perm ds := by
    have un : ∀ d : D, (gs dfs (n + 2)).dM n__law_mixed (ns.map D.int) [d] = endM (evSs (gs dfs (n + 1)) b__law_mixed [.ow true (.lst (ns.map D.int)), .va d, .un, .un, .un]) := fun _ => rfl
    rw [un]
    refine endM_J fun J hJ => ?_
    simp [b__law_mixed, rdV, rdL, rng1n ds.length (by omega)]
    refine wp_forN (fun k ρ => ∃ (ms : List Int) (left found : List D) (x4 : Sl), ρ = [.ow true (ms.map D.int), .va (.lst ds), .ow false (.lst left), .ow false (.lst found), x4] ∧ Nt x4 ∧ left.length + k = ds.length ∧ (found ++ left).Perm ds)
      ⟨ns, ds, [], .un, rfl, trivial, by simp, List.Perm.refl _⟩ ?_ ?_
    · rintro J' hJ' k ρ hk ⟨ms, left, found, x4, rfl, h4, hlen, hp⟩
      obtain ⟨v, n1, e1, v0, v1⟩ := r_takeX (n := n) ms left.length (by omega)
      obtain ⟨j, rfl⟩ := Int.eq_ofNat_of_zero_le v0
      have hj : j < left.length := by omega
      have hfl : found.length < 16777216 := by
        have := hp.length_eq
        rw [List.length_append] at this
        omega
      have p : Ev.popAt 2 (.int (j : Int)) [.ow true (n1.map D.int), .va (.lst ds), .ow false (.lst left), .ow false (.lst found), .va (.int (k : Int))] = .ok left[j] [.ow true (n1.map D.int), .va (.lst ds), .ow false (.lst (left.eraseIdx j)), .ow false (.lst found), .va (.int (k : Int))] := by
        unfold Ev.popAt
        have ix : L2.ixN left.length (j : Int) = some j := by
          unfold L2.ixN
          rw [if_pos (by omega), if_pos (by omega)]
          simp
        simp [ix, List.getElem?_eq_getElem hj]
      simp [h4, l1__law_mixed, rdV, rdL, rdO, e1, p]
      rw [appFI, if_pos hfl]
      simp
      refine hJ' _ _ ⟨n1, left.eraseIdx j, found ++ [left[j]], _, rfl, trivial, by rw [List.length_eraseIdx, if_pos hj]; omega, ?_⟩
      refine List.Perm.trans ?_ hp
      rw [List.append_assoc]
      refine List.Perm.append_left _ ?_
      rw [List.eraseIdx_eq_take_drop_succ]
      refine List.Perm.trans (List.perm_middle (l₁ := left.take j) (a := left[j]) (l₂ := left.drop (j + 1))).symm ?_
      rw [List.getElem_cons_drop, List.take_append_drop]
    · rintro ρ ⟨ms, left, found, x4, rfl, h4, hlen, hp⟩
      have : left = [] := by
        have : left.length = 0 := by omega
        exact List.length_eq_zero_iff.mp this
      subst this
      simp [rdV]
      exact hJ _ _ ⟨⟨ms, rfl⟩, found, rfl, by simpa using hp⟩
  obtain ⟨d, ys, e, ⟨ms, rfl⟩, zs, rfl, hp⟩ := q
  exact ⟨zs, ms, e, hp⟩
/-! ### numbers -/
theorem r_numbers (ns : List Int) : ∃ (xs ms : List Int), (gs dfs (n + 3)).dM n__law_numbers (ns.map D.int) [.int 14] = .ok (.lst (xs.map D.int), ms.map D.int) ∧ (∀ x ∈ xs, 0 ≤ x) ∧ xs.length ≤ 14 := by
  have q : ∃ d ys, (gs dfs (n + 3)).dM n__law_numbers (ns.map D.int) [.int 14] = .ok (d, ys) ∧ (∃ ms : List Int, ys = ms.map D.int) ∧ ∃ xs : List Int, d = .lst (xs.map D.int) ∧ (∀ x ∈ xs, 0 ≤ x) ∧ xs.length ≤ 14 := by
    show ∃ d ys, endM (evSs (gs dfs (n + 2)) b__law_numbers [.ow true (ns.map D.int), .va (.int 14), .un, .un, .un]) = .ok (d, ys) ∧ _
    refine endM_J fun J hJ => ?_
    obtain ⟨h, n1, e1, h0, h1⟩ := r_takeX (n := n + 1) ns 5 (by omega)
    obtain ⟨m, n2, e2, m0, m1⟩ := r_takeX (n := n + 1) n1 15 (by omega)
    obtain ⟨m, rfl⟩ := Int.eq_ofNat_of_zero_le m0
    simp [b__law_numbers, rdV, rdL, e1, e2, rng1n m (by omega)]
    refine wp_forN (fun k ρ => ∃ (ms xs : List Int) (h : Int) (x2 : Sl), ρ = [.ow true (ms.map D.int), .va (.int 14), x2, .va (.int h), .ow false (.lst (xs.map D.int))] ∧ Nt x2 ∧ 0 ≤ h ∧ (∀ x ∈ xs, 0 ≤ x) ∧ xs.length = k)
      ⟨n2, [], h, .un, rfl, trivial, h0, fun x hx => (by cases hx), rfl⟩ ?_ ?_
    · rintro J' hJ' k ρ hk ⟨ms, xs, h, x2, rfl, h2, h0, hx, hl⟩
      obtain ⟨d, n3, e3, hd⟩ := r_pickX (n := n) ms [.int 1, .int 1, .int 2, .int 3, .int 0, .int (-1), .int (-2), .int (-5)] (by simp) (by simp)
      obtain ⟨dv, rfl⟩ : ∃ v, d = .int v := by
        simp only [List.mem_cons, List.not_mem_nil, or_false] at hd
        rcases hd with rfl | rfl | rfl | rfl | rfl | rfl | rfl | rfl <;> exact ⟨_, rfl⟩
      obtain ⟨a, n4, e4, a0, a1⟩ := r_takeX (n := n + 1) n3 6 (by omega)
      obtain ⟨b, n5, e5, b0, b1⟩ := r_takeX (n := n + 1) n4 9 (by omega)
      obtain ⟨d2, n6, e6, hd2⟩ := r_pickX (n := n) n5 [.int (max 0 (h + dv)), .int (max 0 (h + dv)), .int (max 0 (max 0 (h + dv) - a)), .int (max 0 (h + dv) + b)] (by simp) (by simp)
      obtain ⟨x, rfl, x0⟩ : ∃ v, d2 = .int v ∧ 0 ≤ v := by
        simp only [List.mem_cons, List.not_mem_nil, or_false] at hd2
        rcases hd2 with rfl | rfl | rfl | rfl <;> exact ⟨_, rfl, by omega⟩
      simp [h2, l1__law_numbers, rdV, rdL, rdO, e3, e4, e5, e6]
      rw [appFI, if_pos (by rw [List.length_map]; omega)]
      simp
      refine hJ' _ _ ⟨n6, xs ++ [x], max 0 (h + dv), .va (.int (k : Int)), by rw [List.map_append]; rfl, trivial, by omega, fun y hy => ?_, by simp [hl]⟩
      rcases List.mem_append.mp hy with hy | hy
      · exact hx y hy
      · rw [List.mem_singleton] at hy; omega
    · rintro ρ ⟨ms, xs, h, x2, rfl, h2, h0, hx, hl⟩
      simp [rdV]
      exact hJ _ _ ⟨⟨ms, rfl⟩, xs, rfl, hx, by omega⟩
  obtain ⟨d, ys, e, ⟨ms, rfl⟩, xs, rfl, hx, hl⟩ := q
  exact ⟨xs, ms, e, hx, hl⟩
/-! ### words -/
abbrev Wd := Int × Int × Str
def wD (w : Wd) : D := .tup [.int w.1, .int w.2.1, .str w.2.2]
theorem r_words (ns : List Int) : ∃ (ws : List Wd) (ms : List Int), (gs dfs (n + 3)).dM n__law_words (ns.map D.int) [.int 10] = .ok (.lst (ws.map wD), ms.map D.int) ∧ ws.Pairwise (fun a b => a.1 ≤ b.1) ∧ ws.length ≤ 20 ∧ ∀ w ∈ ws, -100 ≤ w.1 ∧ w.1 ≤ 100 := by
  have q : ∃ d ys, (gs dfs (n + 3)).dM n__law_words (ns.map D.int) [.int 10] = .ok (d, ys) ∧ (∃ ms : List Int, ys = ms.map D.int) ∧ ∃ ws : List Wd, d = .lst (ws.map wD) ∧ ws.Pairwise (fun a b => a.1 ≤ b.1) ∧ ws.length ≤ 20 ∧ ∀ w ∈ ws, -100 ≤ w.1 ∧ w.1 ≤ 100 := by
    show ∃ d ys, endM (evSs (gs dfs (n + 2)) b__law_words [.ow true (ns.map D.int), .va (.int 10), .un, .un, .un]) = .ok (d, ys) ∧ _
    refine endM_J fun J hJ => ?_
    obtain ⟨h, n1, e1, h0, h1⟩ := r_takeX (n := n + 1) ns 20 (by omega)
    obtain ⟨m, n2, e2, m0, m1⟩ := r_takeX (n := n + 1) n1 11 (by omega)
    obtain ⟨m, rfl⟩ := Int.eq_ofNat_of_zero_le m0
    simp [b__law_words, rdV, rdL, e1, e2, rng1n m (by omega)]
    refine wp_forN (fun k ρ => ∃ (ms : List Int) (ws : List Wd) (t : Int) (x2 : Sl), ρ = [.ow true (ms.map D.int), .va (.int 10), x2, .va (.int t), .ow false (.lst (ws.map wD))] ∧ Nt x2 ∧ -10 ≤ t ∧ t ≤ 10 + 4 * k ∧ ws.Pairwise (fun a b => a.1 ≤ b.1) ∧ ws.length ≤ 2 * k ∧ ∀ w ∈ ws, -10 ≤ w.1 ∧ w.1 ≤ t)
      ⟨n2, [], h - 10, .un, rfl, trivial, by omega, by omega, List.Pairwise.nil, by simp, fun w hw => by cases hw⟩ ?_ ?_
    · rintro J' hJ' k ρ hk ⟨ms, ws, t, x2, rfl, h2, t0, t1, pw, hl, hw⟩
      obtain ⟨a, n3, e3, a0, a1⟩ := r_takeX (n := n + 1) ms 4 (by omega)
      obtain ⟨b, n4, e4, b0, b1⟩ := r_takeX (n := n + 1) n3 9 (by omega)
      obtain ⟨d, n5, e5, hd⟩ := r_pickX (n := n) n4 [.str "x", .str "y", .str "", .str "long word"] (by simp) (by simp)
      obtain ⟨x, rfl⟩ : ∃ x, d = .str x := by
        simp only [List.mem_cons, List.not_mem_nil, or_false] at hd
        rcases hd with rfl | rfl | rfl | rfl <;> exact ⟨_, rfl⟩
      obtain ⟨c, n6, e6, c0, c1⟩ := r_takeX (n := n + 1) n5 3 (by omega)
      have add : ∀ (us : List Wd) (u : Wd), us.Pairwise (fun a b => a.1 ≤ b.1) → (∀ w ∈ us, -10 ≤ w.1 ∧ w.1 ≤ t + a) → u.1 = t + a → (us ++ [u]).Pairwise (fun a b => a.1 ≤ b.1) ∧ ∀ w ∈ us ++ [u], -10 ≤ w.1 ∧ w.1 ≤ t + a := by
        intro us u p1 p2 p3
        constructor
        · rw [List.pairwise_append]
          refine ⟨p1, List.pairwise_singleton _ _, fun v hv w hw => ?_⟩
          rw [List.mem_singleton] at hw
          subst hw
          rw [p3]; exact (p2 v hv).2
        · intro w hw
          rcases List.mem_append.mp hw with hw | hw
          · exact p2 w hw
          · rw [List.mem_singleton] at hw
            subst hw
            omega
      obtain ⟨pw1, hw1⟩ := add ws (t + a, t + a + b - 4, x) pw (fun w q => by have := hw w q; omega) rfl
      have ne : cmpD .NotEq (.lst (ws.map wD ++ [.tup [.int (t + a), .int (t + a + b - 4), .str x]])) (.lst []) = some true := by
        show (if _ then _ else _) = _
        rw [if_pos ⟨by
          show (ws.map wD ++ [D.tup [.int (t + a), .int (t + a + b - 4), .str x]]).all (shp 59) = true
          rw [List.all_append, List.all_map, Bool.and_eq_true]
          exact ⟨by rw [List.all_eq_true]; intro w _; rfl, rfl⟩, rfl⟩]
        cases ws <;> rfl
      simp [h2, l1__law_words, rdV, rdL, rdO, e3, e4, e5]
      rw [appFI, if_pos (by rw [List.length_map]; omega)]
      simp [rdV, rdL, ne, e6]
      by_cases hc : c = 0
      · obtain ⟨d2, n7, e7, hd2⟩ := r_pickX (n := n) n6 ((ws ++ [(t + a, t + a + b - 4, x)]).map wD) (by simp) (by simp; omega)
        obtain ⟨u, hu, rfl⟩ := List.mem_map.mp hd2
        obtain ⟨pw2, hw2⟩ := add _ (t + a, u.2.1, u.2.2) pw1 hw1 rfl
        have sl : slD (wD u) (some 1) none = some (.tup [.int u.2.1, .str u.2.2]) := rfl
        have ct : op2 .Add (.tup [.int (t + a)]) (.tup [.int u.2.1, .str u.2.2]) = some (wD (t + a, u.2.1, u.2.2)) := rfl
        rw [List.map_append] at e7
        have e7' : (gs dfs (n + 2)).dM n__law_pick (n6.map D.int) [.lst (ws.map wD ++ [.tup [.int (t + a), .int (t + a + b - 4), .str x]])] = .ok (wD u, n7.map D.int) := e7
        have cm := callMO_ok (i := 0) (j := 4) (ρ := [.ow true (.lst (n6.map D.int)), .va (.int 10), .va (.int (k : Int)), .va (.int (t + a)), .ow false (.lst (ws.map wD ++ [.tup [.int (t + a), .int (t + a + b - 4), .str x]]))]) rfl rfl (by omega) e7' rfl
        simp [hc, rdV, rdO, cm, partD, sl, ct]
        rw [appFI, if_pos (by rw [List.length_append, List.length_map]; simp; omega)]
        simp
        refine hJ' _ _ ⟨n7, ws ++ [(t + a, t + a + b - 4, x)] ++ [(t + a, u.2.1, u.2.2)], t + a, .va (.int (k : Int)), by simp [wD], trivial, by omega, by omega, pw2, by simp; omega, hw2⟩
      · have hc' : (c == 0) = false := by simpa using hc
        simp [hc]
        refine hJ' _ _ ⟨n6, ws ++ [(t + a, t + a + b - 4, x)], t + a, .va (.int (k : Int)), by simp [wD], trivial, by omega, by omega, pw1, by simp; omega, hw1⟩
    · rintro ρ ⟨ms, ws, t, x2, rfl, h2, t0, t1, pw, hl, hw⟩
      simp [rdV]
      exact hJ _ _ ⟨⟨ms, rfl⟩, ws, rfl, pw, by omega, fun w hq => by have := hw w hq; omega⟩
  obtain ⟨d, ys, e, ⟨ms, rfl⟩, ws, rfl, p1, p2, p3⟩ := q
  exact ⟨ws, ms, e, p1, p2, p3⟩
end
end Ev.W

end
section
set_option maxHeartbeats 1000000
namespace Ev.W
open PySem PySem.Spec PyProof.Rows L2 Ev
/-! ### words of time, in plain words -/
abbrev Pr := Int × Str
def kk (p : Pr) : List Key := [.inl p.1, .inr p.2]
theorem kk_inj {p q : Pr} (h : kk p = kk q) : p = q := by
  unfold kk at h
  simp only [List.cons.injEq, and_true] at h
  exact Prod.ext (Sum.inl.inj h.1) (Sum.inr.inj h.2)
def keep1 (sl : Int) (ps : List Pr) (t : Int) : List Pr := ps.filter fun p => decide (t ≤ p.1 + sl)
def tmB (sl : Int) (w : Wd) : Bool := decide (w.1 - sl ≤ w.2.1) && decide (w.2.1 ≤ w.1 + sl)
def letB (sl : Int) (ps : List Pr) (w : Wd) : Bool := tmB sl w && !decide (w.2 ∈ keep1 sl ps w.1)
def keep2 (sl : Int) (ps : List Pr) (w : Wd) : List Pr := if letB sl ps w = true then keep1 sl ps w.1 ++ [w.2] else keep1 sl ps w.1
def goneP (sl : Int) : List Pr → List Wd → List Bool × List Int
  | _, [] => ([], [])
  | ps, w :: ws => (letB sl ps w :: (goneP sl (keep2 sl ps w) ws).1, ((keep2 sl ps w).length : Int) :: (goneP sl (keep2 sl ps w) ws).2)
theorem keep2_nd {sl : Int} {ps : List Pr} {w : Wd} (h : ps.Nodup) : (keep2 sl ps w).Nodup := by
  unfold keep2
  split
  · rename_i f
    unfold letB at f
    simp only [Bool.and_eq_true, Bool.not_eq_true', decide_eq_false_iff_not] at f
    rw [List.nodup_append]
    refine ⟨h.filter _, by simp, fun a ha b hb e => ?_⟩
    rw [List.mem_singleton] at hb
    subst hb e
    exact f.2 ha
  · exact h.filter _
theorem keep2_len {sl : Int} {ps : List Pr} {w : Wd} : (keep2 sl ps w).length ≤ ps.length + 1 := by
  have : (keep1 sl ps w.1).length ≤ ps.length := List.length_filter_le _ _
  unfold keep2
  split
  · rw [List.length_append]; simp; omega
  · omega
/-- what is kept, as a dict -/
def dOb (ps : List Pr) : Ob := .dT (ps.map kk) (ps.map fun _ => .bl true)
theorem lkp_mem (p : Pr) : ∀ ps : List Pr, (lkp (ps.map kk) (ps.map fun _ => D.bl true) (kk p)).isSome = decide (p ∈ ps)
  | [] => rfl
  | q :: ps => by
    show (if kk q = kk p then some (D.bl true) else lkp (ps.map kk) (ps.map fun _ => D.bl true) (kk p)).isSome = _
    by_cases h : q = p
    · subst h; simp
    · rw [if_neg (fun e => h (kk_inj e)), lkp_mem p ps]
      have : ¬ p = q := fun e => h e.symm
      simp [this]
theorem keyT_p (p : Pr) : keyT (.tup [.int p.1, .str p.2]) = some (kk p) := rfl
theorem isin_p (p : Pr) (ps : List Pr) : isinD true (.tup [.int p.1, .str p.2]) (dOb ps).d = some (!decide (p ∈ ps)) := by
  have e : dgD (dOb ps).d (.tup [.int p.1, .str p.2]) = some (lkp (ps.map kk) (ps.map fun _ => D.bl true) (kk p)) := rfl
  unfold isinD
  rw [e]
  dsimp only
  rw [lkp_mem]
  cases decide (p ∈ ps) <;> rfl
theorem put_p (p : Pr) (ps : List Pr) (h : p ∉ ps) (hl : ps.length < 16777216) : putB (dOb ps) (.tup [.int p.1, .str p.2]) (.bl true) = some (dOb (ps ++ [p])) := by
  unfold dOb
  rw [putB_T _ _ _ (kk p) _ (keyT_p p) (by rw [List.length_map]; exact hl)]
  have : kk p ∉ ps.map kk := fun z => by
    obtain ⟨q, hq, e⟩ := List.mem_map.mp z
    exact h (kk_inj e ▸ hq)
  unfold putL
  rw [if_neg this]
  simp
section
variable {n : Nat}
@[simp] theorem r_is_timely (s t sl : Int) : (gs dfs (n + 1)).dD n_is_timely [.int s, .int t, .int sl] = .ok (.bl (decide (t - sl ≤ s) && decide (s ≤ t + sl))) := by
  show endD (evSs (gs dfs n) b_is_timely [.va (.int s), .va (.int t), .va (.int sl)]) = _
  by_cases h : t - sl ≤ s <;> simp [b_is_timely, rdV, h]
theorem r_in_time (s t sl : Int) (h : 0 ≤ sl) : (gs dfs (n + 3)).dD n_in_time [.int s, .int t, .int sl] = .ok (.bl (decide (t - sl ≤ s) && decide (s ≤ t + sl))) := by
  show endD (evSs (gs dfs (n + 2)) b_in_time [.va (.int s), .va (.int t), .va (.int sl)]) = _
  simp [b_in_time, rdV, h]
/-- what stays of what is kept -/
theorem comp_kept (sl t : Int) (ps : List Pr) (x1 x2 x3 x6 x7 x8 x9 : Sl) (hn : ps.Nodup) (hl : ps.length ≤ 1000) (Q : Ob → En → Prop)
    (hq : ∀ x9, Nt x9 → Q (dOb (keep1 sl ps t)) [.va (.int sl), x1, x2, x3, .va (dOb ps).d, .va (.int t), x6, x7, x8, x9]) :
    Wp (compDR true (.nm 9) (evI (gs dfs n) (.sq (.var 4))) (evC (gs dfs n) (.one (.cmp .GtE (.bin .Add (.ixV 9 (.con (.int 0))) (.var 0)) (.var 5)))) (evE (gs dfs n) (.var 9)) (evE (gs dfs n) (.con (.bl true))) [9]
      [.va (.int sl), x1, x2, x3, .ow false (dOb ps), .va (.int t), x6, x7, x8, x9]) Q := by
  refine wp_compDR (f := fun p : Pr => D.tup [.int p.1, .str p.2]) (xs := ps) (ρ1 := [.va (.int sl), x1, x2, x3, .va (dOb ps).d, .va (.int t), x6, x7, x8, x9])
    (fun b us ρ => ∃ done, ρ = [.va (.int sl), x1, x2, x3, .va (dOb ps).d, .va (.int t), x6, x7, x8, .un] ∧ b = dOb done ∧ done ++ us.filter (fun p => decide (t ≤ p.1 + sl)) = keep1 sl ps t ∧ done.length + us.length ≤ 1000) ?_ ⟨[], rfl, rfl, rfl, by simpa using hl⟩ ?_ ?_
  · have e : (ps.map kk).map (fun k => D.tup (k.map kD)) = ps.map fun p : Pr => D.tup [.int p.1, .str p.2] := by rw [List.map_map]; rfl
    simp [rdV, dOb]
    rw [fewI, if_pos (by simp; omega)]
    rw [List.map_map] at e
    simp [e]
  · rintro J hJ b ⟨s, w⟩ us ρ ⟨done, rfl, rfl, hd, hl2⟩
    rw [List.length_cons] at hl2
    have i0 : ixD (.tup [.int s, .str w]) (.int 0) = some (.int s) := rfl
    by_cases c : t ≤ s + sl
    · rw [List.filter_cons_of_pos (by simpa using c)] at hd
      have nd : (s, w) ∉ done := by
        have : (done ++ (s, w) :: us.filter (fun p => decide (t ≤ p.1 + sl))).Nodup := by rw [hd]; exact hn.filter _
        rw [List.nodup_append] at this
        exact fun z => this.2.2 _ z _ List.mem_cons_self rfl
      simp [rdV, rdL, i0, c, put_p (s, w) done nd (by omega), wipeR]
      exact hJ _ _ _ ⟨done ++ [(s, w)], rfl, rfl, by rw [← hd]; simp, by rw [List.length_append]; simp; omega⟩
    · rw [List.filter_cons_of_neg (by simpa using c)] at hd
      simp [rdV, rdL, i0, c, wipeR]
      exact hJ _ _ _ ⟨done, rfl, rfl, hd, by omega⟩
  · rintro b ρ ⟨done, rfl, rfl, hd, _⟩
    rw [List.filter_nil, List.append_nil] at hd
    subst hd
    simp [backR]
    refine hq _ ?_
    cases x9 <;> trivial
theorem r_gone (sl : Int) (ws : List Wd) (hl : ws.length ≤ 500) : (gs dfs (n + 2)).dD n_gone_through [.int sl, .lst (ws.map wD)] = .ok (.tup [.lst ((goneP sl [] ws).1.map D.bl), .lst ((goneP sl [] ws).2.map D.int)]) := by
  show endD (evSs (gs dfs (n + 1)) b_gone_through [.va (.int sl), .va (.lst (ws.map wD)), .un, .un, .un, .un, .un, .un, .un, .un]) = _
  refine endD_wp ?_
  simp [b_gone_through, rdV]
  refine wp_for (f := wD) (fun us ρ => ∃ (ps : List Pr) (ds ms : List D) (x5 x6 x7 x8 x9 : Sl), ρ = [.va (.int sl), .va (.lst (ws.map wD)), .ow false (.lst ds), .ow false (.lst ms), .ow false (dOb ps), x5, x6, x7, x8, x9] ∧ Nt x5 ∧ Nt x6 ∧ Nt x7 ∧ Nt x8 ∧ ps.Nodup ∧ ps.length + us.length ≤ 500 ∧ ds.length + us.length ≤ 500 ∧ ms.length + us.length ≤ 500 ∧
    ds ++ (goneP sl ps us).1.map D.bl = (goneP sl [] ws).1.map D.bl ∧ ms ++ (goneP sl ps us).2.map D.int = (goneP sl [] ws).2.map D.int) ⟨[], [], [], .un, .un, .un, .un, .un, rfl, trivial, trivial, trivial, trivial, List.nodup_nil, by simpa using hl, by simpa using hl, by simpa using hl, rfl, rfl⟩ ?_ ?_
  · rintro J hJ ⟨t, s, w⟩ us ρ ⟨ps, ds, ms, x5, x6, x7, x8, x9, rfl, h5, h6, h7, h8, nd, l1, l2, l3, e1, e2⟩
    rw [List.length_cons] at l1 l2 l3
    have k1 : (keep1 sl ps t).length ≤ ps.length := List.length_filter_le _ _
    simp [wD, h5, h6, h7, l1_gone_through]
    refine comp_kept sl t ps _ _ _ _ _ _ _ nd (by omega) _ fun x9 h9 => ?_
    have ii := isin_p (s, w) (keep1 sl ps t)
    have len2 : ∀ qs : List Pr, b1 .len (dOb qs).d = some (.int qs.length) := fun qs => by show some (D.int ((qs.map kk).length : Nat)) = _; rw [List.length_map]
    have fin : ∀ (b : Bool), b = letB sl ps (t, s, w) → Wp (evSs (gs dfs (n + 1)) (.cons (.ife (.tr (.lk 8)) (.cons (.putI 4 (.tup (.cons (.var 6) (.cons (.var 7) .nil))) (.con (.bl true))) <| .nil) .nil) <| .cons (.app 2 (.var 8)) <| .cons (.app 3 (.b1 .len (.lk 4))) <| .nil)
        [.va (.int sl), .va (.lst (ws.map wD)), .ow false (.lst ds), .ow false (.lst ms), .ow false (dOb (keep1 sl ps t)), .va (.int t), .va (.int s), .va (.str w), .va (.bl b), x9])
        (fw (fun f ρ => Wp (thenS (evSs (gs dfs (n + 1)) (.cons (.ret (.tup (.cons (.var 2) (.cons (.var 3) .nil)))) .nil)) f ρ) fun f x => f = .rt (.tup [.lst ((goneP sl [] ws).1.map D.bl), .lst ((goneP sl [] ws).2.map D.int)])) (J us)) := by
      intro b hb
      have nx : J us [.va (.int sl), .va (.lst (ws.map wD)), .ow false (.lst (ds ++ [.bl b])), .ow false (.lst (ms ++ [.int ((keep2 sl ps (t, s, w)).length : Int)])), .ow false (dOb (keep2 sl ps (t, s, w))), .va (.int t), .va (.int s), .va (.str w), .va (.bl b), x9] :=
        hJ _ _ ⟨keep2 sl ps (t, s, w), _, _, _, _, _, _, _, rfl, trivial, trivial, trivial, trivial, keep2_nd nd, by have := keep2_len (sl := sl) (ps := ps) (w := (t, s, w)); omega, by simp; omega, by simp; omega, by rw [← e1, hb]; simp [goneP], by rw [← e2]; simp [goneP]⟩
      cases b with
      | true =>
        have k2 : keep2 sl ps (t, s, w) = keep1 sl ps t ++ [(s, w)] := by unfold keep2; rw [← hb]; rfl
        have nin : (s, w) ∉ keep1 sl ps t := by
          have q := hb.symm
          unfold letB at q
          simp only [Bool.and_eq_true, Bool.not_eq_true', decide_eq_false_iff_not] at q
          exact q.2
        have pp := put_p (s, w) (keep1 sl ps t) nin (by omega)
        simp [rdV, rdL, rdO, pp, rdB_of (ρ := [.va (.int sl), .va (.lst (ws.map wD)), .ow false (.lst ds), .ow false (.lst ms), .ow false (dOb (keep1 sl ps t)), .va (.int t), .va (.int s), .va (.str w), .va (.bl true), x9]) (i := 4) rfl]
        rw [appFI, if_pos (by omega)]
        simp [rdL, rdO, len2]
        rw [appFI, if_pos (by omega)]
        rw [k2] at nx
        simpa using nx
      | false =>
        have k2 : keep2 sl ps (t, s, w) = keep1 sl ps t := by unfold keep2; rw [← hb]; rfl
        simp [rdV, rdL, rdO]
        rw [appFI, if_pos (by omega)]
        simp [rdL, rdO, len2]
        rw [appFI, if_pos (by omega)]
        rw [k2] at nx
        simpa using nx
    by_cases c : t - sl ≤ s
    · by_cases c2 : s ≤ t + sl
      · have lb : letB sl ps (t, s, w) = !decide ((s, w) ∈ keep1 sl ps t) := by unfold letB tmB; simp [c, c2]
        have q := fin _ lb.symm
        simp [rdV, rdL, c, c2, ii, h8]
        simpa [rdL, rdV] using q
      · have lb : letB sl ps (t, s, w) = false := by unfold letB tmB; simp [c2]
        have q := fin _ lb.symm
        simp [rdV, rdL, c, c2, h8]
        simpa [rdL, rdV] using q
    · have lb : letB sl ps (t, s, w) = false := by unfold letB tmB; simp [c]
      have q := fin _ lb.symm
      simp [rdV, rdL, c, h8]
      simpa [rdL, rdV] using q
  · rintro ρ ⟨ps, ds, ms, x5, x6, x7, x8, x9, rfl, h5, h6, h7, h8, nd, l1, l2, l3, e1, e2⟩
    simp [goneP] at e1 e2
    simp [rdV, e1, e2]
end
end Ev.W

end
section
set_option maxHeartbeats 1000000
namespace Ev.W
open PySem PySem.Spec PyProof.Rows L2 Ev
/-! ### the law's words of time, in plain words -/
abbrev Zd := Wd × Bool
def thr (pre : List Zd) : List Pr := (pre.filter fun z => z.2).map fun z => z.1.2
def lawB (sl : Int) (pre : List Zd) (w : Wd) : Bool := tmB sl w && !decide (w.2 ∈ thr pre)
def boolL (sl : Int) : List Zd → List Wd → List Bool
  | _, [] => []
  | pre, w :: ws => lawB sl pre w :: boolL sl (pre ++ [(w, lawB sl pre w)]) ws
def cnt (sl : Int) (zs : List Zd) (now : Int) : Nat := (zs.filter fun z => z.2 && (decide (z.1.1 ≤ now) && decide (now ≤ z.1.2.1 + sl))).length
def manyL (sl : Int) : List Zd → List Wd → List Int
  | _, [] => []
  | pre, w :: ws => (cnt sl (pre ++ [(w, lawB sl pre w)]) w.1 : Int) :: manyL sl (pre ++ [(w, lawB sl pre w)]) ws
theorem thr_app (pre : List Zd) (z : Zd) : thr (pre ++ [z]) = if z.2 = true then thr pre ++ [z.1.2] else thr pre := by
  unfold thr
  rw [List.filter_append, List.map_append]
  cases h : z.2 <;> simp [h]
theorem boolL_len (sl : Int) : ∀ (ws : List Wd) (pre : List Zd), (boolL sl pre ws).length = ws.length
  | [], _ => rfl
  | w :: ws, pre => by simp [boolL, boolL_len sl ws]
theorem letB_law {sl t0 : Int} {pre : List Zd} {w : Wd} (h : t0 ≤ w.1) : letB sl (keep1 sl (thr pre) t0) w = lawB sl pre w ∧ keep2 sl (keep1 sl (thr pre) t0) w = keep1 sl (thr (pre ++ [(w, lawB sl pre w)])) w.1 := by
  have k : keep1 sl (keep1 sl (thr pre) t0) w.1 = keep1 sl (thr pre) w.1 := by
    unfold keep1
    rw [List.filter_filter]
    apply List.filter_congr
    intro p _
    rw [Bool.eq_iff_iff]
    simp only [Bool.and_eq_true, decide_eq_true_eq]
    omega
  have e : letB sl (keep1 sl (thr pre) t0) w = lawB sl pre w := by
    unfold letB lawB
    rw [k]
    cases ht : tmB sl w with
    | false => rfl
    | true =>
      unfold tmB at ht
      simp only [Bool.and_eq_true, decide_eq_true_eq] at ht
      have : decide (w.2 ∈ keep1 sl (thr pre) w.1) = decide (w.2 ∈ thr pre) := by
        unfold keep1
        rw [Bool.eq_iff_iff]
        simp only [List.mem_filter, decide_eq_true_eq]
        constructor
        · exact fun h => h.1
        · exact fun h => ⟨h, by omega⟩
      rw [this]
  refine ⟨e, ?_⟩
  unfold keep2
  rw [e, k, thr_app]
  dsimp only
  cases hb : lawB sl pre w with
  | false => rfl
  | true =>
    simp only [if_true]
    have ht : tmB sl w = true := by
      unfold lawB at hb
      rw [Bool.and_eq_true] at hb
      exact hb.1
    unfold tmB at ht
    simp only [Bool.and_eq_true, decide_eq_true_eq] at ht
    unfold keep1
    rw [List.filter_append, List.filter_cons_of_pos (by simp; omega)]
    rfl
theorem keep_cnt {sl t : Int} {zs : List Zd} (h : ∀ z ∈ zs, z.1.1 ≤ t) : (keep1 sl (thr zs) t).length = cnt sl zs t := by
  unfold keep1 thr cnt
  rw [List.filter_map, List.length_map, List.filter_filter]
  congr 1
  apply List.filter_congr
  intro z hz
  have := h z hz
  rw [Bool.eq_iff_iff]
  simp only [Function.comp_apply, Bool.and_eq_true, decide_eq_true_eq]
  constructor
  · rintro ⟨h1, h2⟩; exact ⟨h2, this, h1⟩
  · rintro ⟨h1, _, h2⟩; exact ⟨h2, h1⟩
theorem gone_law (sl : Int) : ∀ (ws : List Wd) (pre : List Zd) (t0 : Int), (∀ z ∈ pre, z.1.1 ≤ t0) → (∀ w ∈ ws, t0 ≤ w.1) → ws.Pairwise (fun a b => a.1 ≤ b.1) → goneP sl (keep1 sl (thr pre) t0) ws = (boolL sl pre ws, manyL sl pre ws)
  | [], _, _, _, _, _ => rfl
  | w :: ws, pre, t0, h1, h2, h3 => by
    rw [List.pairwise_cons] at h3
    have h2w := h2 w List.mem_cons_self
    obtain ⟨e1, e2⟩ := letB_law (sl := sl) (pre := pre) h2w
    have hp : ∀ z ∈ pre ++ [(w, lawB sl pre w)], z.1.1 ≤ w.1 := by
      intro z hz
      rcases List.mem_append.mp hz with hz | hz
      · have := h1 z hz; omega
      · rw [List.mem_singleton] at hz; subst hz; exact Int.le_refl _
    have ih := gone_law sl ws (pre ++ [(w, lawB sl pre w)]) w.1 hp h3.1 h3.2
    simp only [goneP, boolL, manyL]
    rw [e1, e2, ih, keep_cnt hp]
theorem cnt_le {sl : Int} {zs us : List Zd} {now : Int} : cnt sl zs now ≤ cnt sl (zs ++ us) now := by
  unfold cnt
  rw [List.filter_append, List.length_append]
  omega
theorem boolL_zip (sl : Int) (pre : List Zd) (w : Wd) (ws : List Wd) : pre ++ (w :: ws).zip (boolL sl pre (w :: ws)) = (pre ++ [(w, lawB sl pre w)]) ++ ws.zip (boolL sl (pre ++ [(w, lawB sl pre w)]) ws) := by
  simp [boolL]
/-- each number that is kept is there at a second -/
theorem many_le (sl : Int) : ∀ (ws : List Wd) (pre : List Zd), ∀ m ∈ manyL sl pre ws, ∃ w ∈ ws, m ≤ (cnt sl (pre ++ ws.zip (boolL sl pre ws)) w.1 : Int)
  | [], _, m, h => by cases h
  | w :: ws, pre, m, h => by
    rw [boolL_zip]
    rcases List.mem_cons.mp h with rfl | h
    · exact ⟨w, List.mem_cons_self, by have := cnt_le (sl := sl) (zs := pre ++ [(w, lawB sl pre w)]) (us := ws.zip (boolL sl (pre ++ [(w, lawB sl pre w)]) ws)) (now := w.1); omega⟩
    · obtain ⟨u, hu, hm⟩ := many_le sl ws (pre ++ [(w, lawB sl pre w)]) m h
      exact ⟨u, List.mem_cons_of_mem _ hu, hm⟩
/-- .. and no second has more -/
theorem cnt_many (sl M : Int) : ∀ (ws : List Wd) (pre : List Zd) (t0 : Int), (∀ z ∈ pre, z.1.1 ≤ t0) → (∀ w ∈ ws, t0 ≤ w.1) → ws.Pairwise (fun a b => a.1 ≤ b.1) → (∀ now, (cnt sl pre now : Int) ≤ M) → (∀ m ∈ manyL sl pre ws, m ≤ M) →
    ∀ now, (cnt sl (pre ++ ws.zip (boolL sl pre ws)) now : Int) ≤ M
  | [], pre, _, _, _, _, h, _, now => by simpa [boolL] using h now
  | w :: ws, pre, t0, h1, h2, h3, h, hm, now => by
    rw [boolL_zip]
    rw [List.pairwise_cons] at h3
    have h2w := h2 w List.mem_cons_self
    have hp : ∀ z ∈ pre ++ [(w, lawB sl pre w)], z.1.1 ≤ w.1 := by
      intro z hz
      rcases List.mem_append.mp hz with hz | hz
      · have := h1 z hz; omega
      · rw [List.mem_singleton] at hz; subst hz; exact Int.le_refl _
    refine cnt_many sl M ws (pre ++ [(w, lawB sl pre w)]) w.1 hp h3.1 h3.2 (fun now => ?_) (fun m hm2 => hm m (List.mem_cons_of_mem _ hm2)) now
    by_cases c : w.1 ≤ now
    · have m0 := hm _ List.mem_cons_self
      have : cnt sl (pre ++ [(w, lawB sl pre w)]) now ≤ cnt sl (pre ++ [(w, lawB sl pre w)]) w.1 := by
        unfold cnt
        rw [← List.countP_eq_length_filter, ← List.countP_eq_length_filter]
        refine List.countP_mono_left fun z hz q => ?_
        have := hp z hz
        simp only [Bool.and_eq_true, decide_eq_true_eq] at q ⊢
        exact ⟨q.1, this, by omega⟩
      omega
    · have : cnt sl (pre ++ [(w, lawB sl pre w)]) now = cnt sl pre now := by
        unfold cnt
        rw [List.filter_append, List.filter_cons_of_neg (by simp; intros; omega)]
        simp
      rw [this]; exact h now

section
variable {n : Nat}
theorem abs_tm (sl : Int) (w : Wd) : decide ((if w.1 - w.2.1 < 0 then -(w.1 - w.2.1) else w.1 - w.2.1) ≤ sl) = tmB sl w := by
  unfold tmB
  rw [Bool.eq_iff_iff]
  simp only [Bool.and_eq_true, decide_eq_true_eq]
  split <;> omega
def pD (p : Pr) : D := .tup [.int p.1, .str p.2]
theorem in_prs (p : Pr) (ps : List Pr) : inD (pD p) (ps.map pD) = some (decide (p ∈ ps)) := by
  unfold inD
  rw [if_pos ⟨rfl, by rw [List.all_map, List.all_eq_true]; intro x _; rfl⟩]
  congr 1
  rw [Bool.eq_iff_iff, List.any_eq_true, decide_eq_true_eq]
  have eqp : ∀ q : Pr, eqD (pD q) (pD p) = ((q.1 == p.1) && ((q.2 == p.2) && true)) := fun _ => rfl
  constructor
  · rintro ⟨y, hy, e⟩
    obtain ⟨m, hm, rfl⟩ := List.mem_map.mp hy
    rw [eqp] at e
    simp only [Bool.and_true, Bool.and_eq_true, beq_iff_eq] at e
    have : m = p := Prod.ext e.1 e.2
    rw [← this]; exact hm
  · intro h
    refine ⟨pD p, List.mem_map.mpr ⟨p, h, rfl⟩, ?_⟩
    rw [eqp]
    simp
theorem thr_len (pre : List Zd) : (thr pre).length ≤ pre.length := by
  unfold thr
  rw [List.length_map]
  exact List.length_filter_le _ _
theorem r_law_timely (sl : Int) (ws : List Wd) (hl : ws.length ≤ 500) : (gs dfs (n + 1)).dF n__law_timely [.int sl, .lst (ws.map wD)] = .ok ((boolL sl [] ws).map D.bl) := by
  show endF (evSs (gs dfs n) b__law_timely [.va (.int sl), .va (.lst (ws.map wD)), .un, .un, .un, .un, .un, .un]) = _
  refine endF_wp ?_
  simp [b__law_timely, rdV]
  refine wp_for (f := wD) (fun us ρ => ∃ (pre : List Zd) (ds : List D) (x4 x5 x6 x7 : Sl), ρ = [.va (.int sl), .va (.lst (ws.map wD)), .ow false (.lst ds), .va (.lst ((thr pre).map pD)), x4, x5, x6, x7] ∧ Nt x4 ∧ Nt x5 ∧ Nt x6 ∧ Nt x7 ∧ pre.length + us.length ≤ 500 ∧ ds.length + us.length ≤ 500 ∧
    ds ++ (boolL sl pre us).map D.bl = (boolL sl [] ws).map D.bl) ⟨[], [], .un, .un, .un, .un, rfl, trivial, trivial, trivial, trivial, by simpa using hl, by simpa using hl, rfl⟩ ?_ ?_
  · rintro J hJ ⟨t, s, w⟩ us ρ ⟨pre, ds, x4, x5, x6, x7, rfl, h4, h5, h6, h7, l1, l2, e1⟩
    rw [List.length_cons] at l1 l2
    have tl := thr_len pre
    have tm := abs_tm sl (t, s, w)
    dsimp only at tm
    have nin : cmpD .NotIn (.tup [.int s, .str w]) (.lst ((thr pre).map pD)) = some (!decide ((s, w) ∈ thr pre)) := by
      show (inD (pD (s, w)) _).map _ = _
      rw [in_prs]; rfl
    have fin : ∀ (b : Bool), b = lawB sl pre (t, s, w) → Wp (evSs (gs dfs n) (.cons (.app 2 (.var 7)) <| .cons (.asg 3 (.bin .Add (.var 3) (.bin .Mult (.fr (.lst (.cons (.tup (.cons (.var 5) (.cons (.var 6) .nil))) .nil))) (.b1 .int (.lk 7))))) <| .nil)
        [.va (.int sl), .va (.lst (ws.map wD)), .ow false (.lst ds), .va (.lst ((thr pre).map pD)), .va (.int t), .va (.int s), .va (.str w), .va (.bl b)])
        (fw (fun f ρ => Wp (thenS (evSs (gs dfs n) (.cons (.retF (.mov 2)) .nil)) f ρ) fun f x => f = .rf ((boolL sl [] ws).map D.bl)) (J us)) := by
      intro b hb
      have q2 : op2 .Add (.lst ((thr pre).map pD)) (.lst (if b = true then [D.tup [.int s, .str w]] else [])) = some (.lst ((thr (pre ++ [((t, s, w), b)])).map pD)) := by
        rw [op_cat _ _ (by rw [List.length_map]; split <;> simp <;> omega), thr_app]
        cases b <;> simp [pD]
      simp [rdV, rdL, rdO]
      rw [appFI, if_pos (by omega)]
      simp [rdV, rdL, op_rep01, q2]
      exact hJ _ _ ⟨pre ++ [((t, s, w), b)], _, _, _, _, _, rfl, trivial, trivial, trivial, trivial, by simp; omega, by simp; omega, by rw [← e1, hb]; simp [boolL]⟩
    have ab : ∀ i : Int, b1 .abs (.int i) = some (.int (if i < 0 then -i else i)) := fun _ => rfl
    cases ht : tmB sl (t, s, w) with
    | true =>
      rw [ht, decide_eq_true_eq] at tm
      have lb : lawB sl pre (t, s, w) = !decide ((s, w) ∈ thr pre) := by unfold lawB; rw [ht]; rfl
      have q := fin _ lb.symm
      simp [wD, h4, h5, h6, h7, l1__law_timely, rdV, rdL, tm, nin]
      simpa [rdL, rdV] using q
    | false =>
      rw [ht, decide_eq_false_iff_not] at tm
      have lb : lawB sl pre (t, s, w) = false := by unfold lawB; rw [ht]; rfl
      have q := fin _ lb.symm
      simp [wD, h4, h5, h6, h7, l1__law_timely, rdV, rdL, tm]
      simpa [rdL, rdV] using q
  · rintro ρ ⟨pre, ds, x4, x5, x6, x7, rfl, h4, h5, h6, h7, l1, l2, e1⟩
    simp [boolL] at e1
    have mv : ∀ ρ : En, ρ[2]? = some (.ow false (.lst ds)) → ∃ ρ', movR 2 ρ = .ok ds ρ' := fun ρ h => by
      unfold movR
      rw [h]
      exact ⟨_, rfl⟩
    obtain ⟨ρ', em⟩ := mv [.va (.int sl), .va (.lst (ws.map wD)), .ow false (.lst ds), .va (.lst ((thr pre).map pD)), x4, x5, x6, x7] rfl
    simp [em, e1]
end
end Ev.W

end
section
set_option maxHeartbeats 1000000
namespace Ev.W
open PySem PySem.Spec PyProof.Rows L2 Ev
theorem compR_u {T : Tg} {fi : En → R (List D)} {ft : En → R Bool} {fe : En → R D} {vs : List Nat} (s : Sl) (ρ : En) : compR T fi ft fe vs (s :: ρ) = (fi (s :: ρ)).bind fun items ρ1 => (compL (asgT T) ft fe vs items (wipeR ρ1 vs)).bind fun ds ρ2 => .ok ds (backR ρ1 ρ2 vs) := (rfl)
theorem b1_minI (ns : List Int) : b1 .min (.lst (ns.map D.int)) = (minI ns).map .int := by
  show (ints? _).bind _ = _
  rw [ints_map]; rfl
theorem foldmn : ∀ (ns : List Int) (n : Int), (ns.foldl min n = n ∨ ns.foldl min n ∈ ns) ∧ ns.foldl min n ≤ n ∧ ∀ m ∈ ns, ns.foldl min n ≤ m
  | [], n => ⟨.inl rfl, Int.le_refl _, fun m h => by cases h⟩
  | k :: ns, n => by
    obtain ⟨h1, h2, h3⟩ := foldmn ns (min n k)
    simp only [List.foldl_cons, List.mem_cons, forall_eq_or_imp]
    refine ⟨?_, by omega, by omega, h3⟩
    rcases h1 with h1 | h1
    · rw [h1]
      by_cases c : n ≤ k
      · left; omega
      · right; left; omega
    · exact .inr (.inr h1)
theorem all_T {α : Type} (xs : List α) : b1 .all (.lst (xs.map fun _ => D.bl true)) = some (.bl true) := by
  rw [show (xs.map fun _ => D.bl true) = (xs.map fun _ => true).map D.bl by rw [List.map_map]; rfl, b1_all]
  simp
section
variable {n : Nat}
@[simp] theorem r_is_word (w : Wd) : (gs dfs (n + 2)).dD n_is_word [wD w] = .ok (.bl true) := by
  show endD (evSs (gs dfs (n + 1)) b_is_word [.va (.tup [.int w.1, .int w.2.1, .str w.2.2])]) = _
  have i0 : ixD (.tup [.int w.1, .int w.2.1, .str w.2.2]) (.int 0) = some (.int w.1) := rfl
  have i1 : ixD (.tup [.int w.1, .int w.2.1, .str w.2.2]) (.int 1) = some (.int w.2.1) := rfl
  have i2 : ixD (.tup [.int w.1, .int w.2.1, .str w.2.2]) (.int 2) = some (.str w.2.2) := rfl
  simp [b_is_word, rdL, rdV, isiD, i0, i1, i2]
theorem zip_W (ws : List Wd) : zipD (.lst (ws.map wD)) (.lst (ws.map wD).tail) = some ((List.zip ws ws.tail).map fun q => .tup [wD q.1, wD q.2]) := by
  rw [← List.map_tail]
  show some (List.zipWith _ _ _) = _
  rw [List.zipWith_map, List.zip, List.map_zipWith]
theorem zip_le : ∀ {ws : List Wd}, ws.Pairwise (fun a b => a.1 ≤ b.1) → ∀ q ∈ List.zip ws ws.tail, q.1.1 ≤ q.2.1
  | [], _, q, h => by simp at h
  | [_], _, q, h => by simp at h
  | a :: b :: ws, hp, q, h => by
    rw [List.tail_cons, List.zip_cons_cons, List.mem_cons] at h
    rcases h with rfl | h
    · exact (List.pairwise_cons.mp hp).1 b List.mem_cons_self
    · exact zip_le (ws := b :: ws) (List.pairwise_cons.mp hp).2 q h
theorem r_check_words (sl : Int) (ws : List Wd) (h0 : 0 ≤ sl) (hp : ws.Pairwise (fun a b => a.1 ≤ b.1)) (hl : ws.length ≤ 500) : (gs dfs (n + 3)).dD n_check_words [.int sl, .lst (ws.map wD)] = .ok .non := by
  show endD (evSs (gs dfs (n + 2)) b_check_words [.va (.int sl), .va (.lst (ws.map wD)), .un, .un]) = _
  refine endD_wpN ?_
  have q : slD (.lst (ws.map wD)) (some 1) none = some (.lst (ws.map wD).tail) := by
    show some (D.lst (cutD (ws.map wD) (some ((1 : Nat) : Int)) none)) = _
    rw [cutD_from, List.drop_one]
  simp [b_check_words, rdV, rdL, h0, isiD]
  refine wp_comp (f := wD) (xs := ws) (ρ1 := [.va (.int sl), .va (.lst (ws.map wD)), .un, .un]) (fun ds us ρ => ρ = [.va (.int sl), .va (.lst (ws.map wD)), .un, .un] ∧ ds ++ us.map (fun _ => D.bl true) = ws.map fun _ => D.bl true) ?_ ⟨rfl, rfl⟩ ?_ ?_
  · simp [evJ, rdV]
    rw [fewI, if_pos (by simp; omega)]
  · rintro J hJ ds u us ρ ⟨rfl, e⟩
    simp [rdV, wipeR]
    exact hJ _ _ _ ⟨rfl, by rw [← e]; simp⟩
  rintro ds ρ ⟨rfl, e⟩
  simp only [List.map_nil, List.append_nil] at e
  subst e
  simp [backR, all_T]
  refine wp_comp (f := fun q : Wd × Wd => D.tup [wD q.1, wD q.2]) (xs := List.zip ws ws.tail) (ρ1 := [.va (.int sl), .va (.lst (ws.map wD)), .un, .un])
    (fun ds us ρ => ρ = [.va (.int sl), .va (.lst (ws.map wD)), .un, .un] ∧ ds ++ us.map (fun _ => D.bl true) = (List.zip ws ws.tail).map (fun _ => D.bl true) ∧ ∀ q ∈ us, q.1.1 ≤ q.2.1) ?_ ⟨rfl, rfl, zip_le hp⟩ ?_ ?_
  · simp [evJ, rdV, rdL, partD, q, zip_W]
    rw [few_ok _ _ (by simp; omega)]
  · rintro J hJ ds ⟨a, b⟩ us ρ ⟨rfl, e, hu⟩
    have i0 : ∀ w : Wd, ixD (wD w) (.int 0) = some (.int w.1) := fun _ => rfl
    have hab := hu (a, b) List.mem_cons_self
    dsimp only at hab
    simp [rdV, rdL, i0, hab, wipeR]
    exact hJ _ _ _ ⟨rfl, by rw [← e]; simp, fun q hq => hu q (List.mem_cons_of_mem _ hq)⟩
  rintro ds ρ ⟨rfl, e, _⟩
  simp only [List.map_nil, List.append_nil] at e
  subst e
  simp [backR, all_T]
theorem keep_nil (sl t : Int) : keep1 sl (thr []) t = [] := rfl
theorem gone_nil (sl : Int) (ws : List Wd) (hp : ws.Pairwise (fun a b => a.1 ≤ b.1)) : goneP sl [] ws = (boolL sl [] ws, manyL sl [] ws) := by
  cases ws with
  | nil => rfl
  | cons w ws =>
    have := gone_law sl (w :: ws) [] w.1 (fun z hz => by cases hz) (fun u hu => by
      rcases List.mem_cons.mp hu with rfl | hu
      · exact Int.le_refl _
      · exact (List.pairwise_cons.mp hp).1 u hu) hp
    rwa [keep_nil] at this
theorem r_timely (sl : Int) (ws : List Wd) (h0 : 0 ≤ sl) (hp : ws.Pairwise (fun a b => a.1 ≤ b.1)) (hl : ws.length ≤ 500) : (gs dfs (n + 4)).dD n_timely [.int sl, .lst (ws.map wD)] = .ok (.lst ((boolL sl [] ws).map D.bl)) := by
  show endD (evSs (gs dfs (n + 3)) b_timely [.va (.int sl), .va (.lst (ws.map wD))]) = _
  have i0 : ∀ a b : D, ixD (.tup [a, b]) (.int 0) = some a := fun _ _ => rfl
  simp [b_timely, rdV, r_check_words sl ws h0 hp hl, r_gone (n := n + 1) sl ws hl, gone_nil sl ws hp, i0]
theorem r_most_kept (sl : Int) (ws : List Wd) (h0 : 0 ≤ sl) (hp : ws.Pairwise (fun a b => a.1 ≤ b.1)) (hl : ws.length ≤ 500) : (gs dfs (n + 4)).dD n_most_kept [.int sl, .lst (ws.map wD)] = .ok (.int ((manyL sl [] ws).foldl max 0)) := by
  show endD (evSs (gs dfs (n + 3)) b_most_kept [.va (.int sl), .va (.lst (ws.map wD))]) = _
  have i1 : ∀ a b : D, ixD (.tup [a, b]) (.int 1) = some b := fun _ _ => rfl
  have ml : ∀ (us : List Wd) (pre : List Zd), (manyL sl pre us).length = us.length := by
    intro us
    induction us with
    | nil => intro _; rfl
    | cons u us ih => intro pre; simp [manyL, ih]
  have mx : b1 .max (.lst (.int 0 :: (manyL sl [] ws).map D.int)) = some (.int ((manyL sl [] ws).foldl max 0)) := b1_maxI (0 :: manyL sl [] ws)
  simp [b_most_kept, rdV, r_check_words sl ws h0 hp hl, r_gone (n := n + 1) sl ws hl, gone_nil sl ws hp, i1]
  rw [fewI, if_pos (by simp [ml]; omega)]
  simp [mx]
/-! ### the law's most -/
theorem best_is {sl best : Int} {ws : List Wd} (hp : ws.Pairwise (fun a b => a.1 ≤ b.1)) (h1 : best = 0 ∨ ∃ now, best ≤ (cnt sl (ws.zip (boolL sl [] ws)) now : Int)) (h0 : 0 ≤ best) (h2 : ∀ w ∈ ws, (cnt sl (ws.zip (boolL sl [] ws)) w.1 : Int) ≤ best) :
    best = (manyL sl [] ws).foldl max 0 := by
  obtain ⟨m1, m2, m3⟩ := foldmax (manyL sl [] ws) 0
  apply Int.le_antisymm
  · rcases h1 with h1 | ⟨now, h1⟩
    · omega
    · refine Int.le_trans h1 ?_
      cases ws with
      | nil => exact m2
      | cons w ws =>
        have q := cnt_many sl _ (w :: ws) [] w.1 (fun z hz => by cases hz) (fun u hu => by
          rcases List.mem_cons.mp hu with rfl | hu
          · exact Int.le_refl _
          · exact (List.pairwise_cons.mp hp).1 u hu) hp (fun now => m2) m3 now
        simpa using q
  · rcases m1 with m1 | m1
    · omega
    · obtain ⟨w, hw, q⟩ := many_le sl ws [] _ m1
      have := h2 w hw
      simp only [List.nil_append] at q
      omega
theorem rng_filter {α : Type} (P : α → Bool) : ∀ xs : List α, ((List.range xs.length).filter fun k => (xs[k]?.map P).getD false).length = (xs.filter P).length
  | [] => rfl
  | x :: xs => by
    have ih := rng_filter P xs
    rw [List.length_cons, List.range_succ_eq_map, List.filter_cons, List.filter_map, List.filter_cons]
    have e : ((fun k => (((x :: xs)[k]?).map P).getD false) ∘ Nat.succ) = fun k => ((xs[k]?).map P).getD false := by
      funext k
      simp
    rw [e]
    have e0 : (((x :: xs)[0]?).map P).getD false = P x := rfl
    rw [e0]
    cases P x <;> simp [ih]
def zP (sl now : Int) (z : Zd) : Bool := z.2 && (decide (z.1.1 ≤ now) && decide (now ≤ z.1.2.1 + sl))
theorem r_law_most (sl : Int) (ws : List Wd) (bs : List Bool) (hb : bs.length = ws.length) (hl : ws.length ≤ 500) (hw : ∀ w ∈ ws, -100 ≤ w.1 ∧ w.1 ≤ 100) :
    ∃ best : Int, (gs dfs (n + 1)).dD n__law_most [.int sl, .lst (ws.map wD), .lst (bs.map D.bl)] = .ok (.int best) ∧ (best = 0 ∨ ∃ now, best ≤ (cnt sl (ws.zip bs) now : Int)) ∧ 0 ≤ best ∧ ∀ w ∈ ws, (cnt sl (ws.zip bs) w.1 : Int) ≤ best := by
  have zl : (ws.zip bs).length = ws.length := by rw [List.length_zip]; omega
  have q : ∃ d, (gs dfs (n + 1)).dD n__law_most [.int sl, .lst (ws.map wD), .lst (bs.map D.bl)] = .ok d ∧ ∃ best : Int, d = .int best ∧ (best = 0 ∨ ∃ now, best ≤ (cnt sl (ws.zip bs) now : Int)) ∧ 0 ≤ best ∧ ∀ w ∈ ws, (cnt sl (ws.zip bs) w.1 : Int) ≤ best := by
    show ∃ d, endD (evSs (gs dfs n) b__law_most [.va (.int sl), .va (.lst (ws.map wD)), .va (.lst (bs.map D.bl)), .un, .un, .un, .un]) = .ok d ∧ _
    refine endD_J fun J hJ => ?_
    obtain ⟨lo, elo⟩ : ∃ lo, lo = (ws.map (·.1)).foldl min 0 := ⟨_, rfl⟩
    obtain ⟨hi, ehi⟩ : ∃ hi, hi = (ws.map (·.1)).foldl max 0 := ⟨_, rfl⟩
    have flo := foldmn (ws.map (·.1)) 0
    have fhi := foldmax (ws.map (·.1)) 0
    rw [← elo] at flo
    rw [← ehi] at fhi
    have lo1 : -100 ≤ lo := by
      rcases flo.1 with h | h
      · omega
      · obtain ⟨w, hw1, rfl⟩ := List.mem_map.mp h; exact (hw w hw1).1
    have hi1 : hi ≤ 100 := by
      rcases fhi.1 with h | h
      · omega
      · obtain ⟨w, hw1, rfl⟩ := List.mem_map.mp h; exact (hw w hw1).2
    have ct : op2 .Add (.lst [.int 0]) (.lst (ws.map fun w => .int w.1)) = some (.lst (.int 0 :: ws.map fun w => D.int w.1)) := op_cat _ _ (by simp; omega)
    have mn : b1 .min (.lst (.int 0 :: ws.map fun w => D.int w.1)) = some (.int lo) := by
      have := b1_minI (0 :: ws.map (·.1))
      simp only [minI, ← elo, List.map_cons, List.map_map, Option.map_some] at this
      exact this
    have mx : b1 .max (.lst (.int 0 :: ws.map fun w => D.int w.1)) = some (.int hi) := by
      have := b1_maxI (0 :: ws.map (·.1))
      simp only [maxI, ← ehi, List.map_cons, List.map_map, Option.map_some] at this
      exact this
    have e := compR_all (T := .nm 6) (fi := evJ (gs dfs n) (.sq (.var 1))) (ft := evC (gs dfs n) .no) (fe := evE (gs dfs n) (.ixV 6 (.con (.int 0)))) (vs := [6])
      (ρ := [.va (.int sl), .va (.lst (ws.map wD)), .va (.lst (bs.map D.bl)), .va (.int 0), .un, .un, .un]) (ρ1 := [.va (.int sl), .va (.lst (ws.map wD)), .va (.lst (bs.map D.bl)), .va (.int 0), .un, .un, .un])
      (ρw := [.va (.int sl), .va (.lst (ws.map wD)), .va (.lst (bs.map D.bl)), .va (.int 0), .un, .un, .un]) (ρ' := [.va (.int sl), .va (.lst (ws.map wD)), .va (.lst (bs.map D.bl)), .va (.int 0), .un, .un, .un])
      (f := wD) (fun w => .int w.1) ws (by simp [evJ, rdV]; rw [fewI, if_pos (by simp; omega)]) rfl rfl
      (fun w _ => ⟨[.va (.int sl), .va (.lst (ws.map wD)), .va (.lst (bs.map D.bl)), .va (.int 0), .un, .un, .va (wD w)], by simp, by simp, [.va (.int sl), .va (.lst (ws.map wD)), .va (.lst (bs.map D.bl)), .va (.int 0), .un, .un, .va (wD w)], by simp [rdL]; rfl, rfl⟩)
    simp [b__law_most, rdV, rdL, e, ct, mn, mx, rng_2 (lo - 1) (hi + 2) ⟨by omega, by omega, by omega, by omega⟩]
    refine wp_forN (fun k ρ => ∃ (best : Int) (x4 x5 x6 : Sl), ρ = [.va (.int sl), .va (.lst (ws.map wD)), .va (.lst (bs.map D.bl)), .va (.int best), x4, x5, x6] ∧ Nt x4 ∧ 0 ≤ best ∧ (best = 0 ∨ ∃ now, best ≤ (cnt sl (ws.zip bs) now : Int)) ∧
      ∀ j : Nat, j < k → (cnt sl (ws.zip bs) (lo - 1 + (j : Int)) : Int) ≤ best) ⟨0, .un, .un, .un, rfl, trivial, by omega, .inl rfl, fun j h => by omega⟩ ?_ ?_
    · rintro J' hJ' k ρ hk ⟨best, x4, x5, x6, rfl, h4, b0, b1', b2⟩
      have rf := rng_filter (zP sl (lo - 1 + (k : Int))) (ws.zip bs)
      rw [zl] at rf
      simp [h4, l1__law_most, rdV, rdL]
      refine wp_comp (f := fun j : Nat => D.int (j : Int)) (xs := List.range ws.length) (ρ1 := [.va (.int sl), .va (.lst (ws.map wD)), .va (.lst (bs.map D.bl)), .va (.int best), .va (.int (lo - 1 + (k : Int))), x5, x6])
        (fun ds us ρ => ∃ done : List Nat, ρ = [.va (.int sl), .va (.lst (ws.map wD)), .va (.lst (bs.map D.bl)), .va (.int best), .va (.int (lo - 1 + (k : Int))), .un, x6] ∧ ds = done.map (fun j : Nat => D.int (j : Int)) ∧
          done ++ us.filter (fun j => (((ws.zip bs)[j]?).map (zP sl (lo - 1 + (k : Int)))).getD false) = (List.range ws.length).filter (fun j => (((ws.zip bs)[j]?).map (zP sl (lo - 1 + (k : Int)))).getD false) ∧ ∀ u ∈ us, u < ws.length) ?_ ⟨[], rfl, rfl, rfl, fun u hu => List.mem_range.mp hu⟩ ?_ ?_
      · simp [evJ, rdL, rng1n ws.length (by omega)]
        rw [few_ok _ _ (by rw [nums_len]; omega), nums0]
      · rintro J2 hJ2 ds j us ρ ⟨done, rfl, rfl, hd, hu⟩
        have hj := hu j List.mem_cons_self
        have gw : ws[j]? = some ws[j] := List.getElem?_eq_getElem hj
        have gb : bs[j]? = some bs[j] := List.getElem?_eq_getElem (by omega)
        have gz : (ws.zip bs)[j]? = some (ws[j], bs[j]) := by rw [List.getElem?_zip_eq_some]; exact ⟨gw, gb⟩
        have ib : ixD (.lst (bs.map D.bl)) (.int (j : Int)) = some (.bl bs[j]) := ixD_ls _ _ _ (by rw [List.getElem?_map, gb]; rfl)
        have iw : ixD (.lst (ws.map wD)) (.int (j : Int)) = some (wD ws[j]) := ixD_ls _ _ _ (by rw [List.getElem?_map, gw]; rfl)
        have i0 : ∀ w : Wd, ixD (wD w) (.int 0) = some (.int w.1) := fun _ => rfl
        have i1 : ∀ w : Wd, ixD (wD w) (.int 1) = some (.int w.2.1) := fun _ => rfl
        have nx : ∀ b : Bool, b = zP sl (lo - 1 + (k : Int)) (ws[j], bs[j]) → (b = true → J2 (done.map (fun j : Nat => D.int (j : Int)) ++ [D.int (j : Int)]) us [.va (.int sl), .va (.lst (ws.map wD)), .va (.lst (bs.map D.bl)), .va (.int best), .va (.int (lo - 1 + (k : Int))), .un, x6]) ∧
            (b = false → J2 (done.map (fun j : Nat => D.int (j : Int))) us [.va (.int sl), .va (.lst (ws.map wD)), .va (.lst (bs.map D.bl)), .va (.int best), .va (.int (lo - 1 + (k : Int))), .un, x6]) := by
          intro b hb
          constructor
          · rintro rfl
            rw [List.filter_cons_of_pos (by rw [gz]; exact hb.symm)] at hd
            exact hJ2 _ _ _ ⟨done ++ [j], rfl, by simp, by rw [← hd]; simp, fun u q => hu u (List.mem_cons_of_mem _ q)⟩
          · rintro rfl
            rw [List.filter_cons_of_neg (by rw [gz]; simp [← hb])] at hd
            exact hJ2 _ _ _ ⟨done, rfl, rfl, hd, fun u q => hu u (List.mem_cons_of_mem _ q)⟩
        have nx := nx _ rfl
        unfold zP at nx
        dsimp only at nx
        cases hbj : bs[j] with
        | false =>
          rw [hbj] at nx ib
          simp [rdV, rdL, ib, wipeR]
          exact nx.2 rfl
        | true =>
          rw [hbj] at nx ib
          by_cases c1 : ws[j].1 ≤ lo - 1 + (k : Int)
          · by_cases c2 : lo - 1 + (k : Int) ≤ ws[j].2.1 + sl
            · simp [rdV, rdL, ib, iw, i0, i1, c1, c2, wipeR]
              exact nx.1 (by simp [c1, c2])
            · simp [rdV, rdL, ib, iw, i0, i1, c1, c2, wipeR]
              exact nx.2 (by simp [c2])
          · simp [rdV, rdL, ib, iw, i0, i1, c1, wipeR]
            exact nx.2 (by simp [c1])
      rintro ds ρ ⟨done, rfl, rfl, hd, _⟩
      simp only [List.filter_nil, List.append_nil] at hd
      subst hd
      simp [backR, rf]
      have e : ((ws.zip bs).filter (zP sl (lo - 1 + (k : Int)))).length = cnt sl (ws.zip bs) (lo - 1 + (k : Int)) := rfl
      refine hJ' _ _ ⟨max best (cnt sl (ws.zip bs) (lo - 1 + (k : Int)) : Int), _, _, _, rfl, trivial, by omega, ?_, fun j hj => ?_⟩
      · by_cases c : (cnt sl (ws.zip bs) (lo - 1 + (k : Int)) : Int) ≤ best
        · rw [Int.max_eq_left c]; exact b1'
        · right; exact ⟨lo - 1 + (k : Int), by omega⟩
      · by_cases c : j < k
        · have := b2 j c; omega
        · have : j = k := by omega
          subst this; omega
    · rintro ρ ⟨best, x4, x5, x6, rfl, h4, b0, b1', b2⟩
      simp [rdV]
      refine hJ _ ⟨best, rfl, b1', b0, fun w hw1 => ?_⟩
      have g1 := flo.2.2 w.1 (List.mem_map_of_mem hw1)
      have g2 := fhi.2.2 w.1 (List.mem_map_of_mem hw1)
      have := b2 (w.1 - (lo - 1)).toNat (by omega)
      rw [show lo - 1 + (((w.1 - (lo - 1)).toNat : Nat) : Int) = w.1 by omega] at this
      exact this
  obtain ⟨d, e, best, rfl, h⟩ := q
  exact ⟨best, e, h⟩
end
end Ev.W

end
section
set_option maxHeartbeats 1000000
namespace Ev.W
open PySem PySem.Spec PyProof.Rows L2 Ev
@[simp] theorem compD_n {g : D → En → Option En} {ft : En → R Bool} {fk fv : En → R D} {vs : List Nat} (b : Ob) (ρ : En) : compD g ft fk fv vs [] b ρ = .ok b ρ := (rfl)
theorem compD_c {g : D → En → Option En} {ft : En → R Bool} {fk fv : En → R D} {vs : List Nat} (d : D) (ds : List D) (b : Ob) (ρ : En) : compD g ft fk fv vs (d :: ds) b ρ = (R.lift (g d ρ) ρ).bind fun ρ1 _ => (ft ρ1).ne.bind fun k ρ2 =>
    if k = true then (fk ρ2).ne.bind fun y ρ3 => (fv ρ3).ne.bind fun z ρ4 => (R.lift (putB b y z) ρ4).bind fun b' _ => compD g ft fk fv vs ds b' (wipeR ρ4 vs) else compD g ft fk fv vs ds b (wipeR ρ2 vs) := by
  rw [compD]
  cases g d ρ <;> rfl
theorem compDR_u {isT : Bool} {T : Tg} {fi : En → R (List D)} {ft : En → R Bool} {fk fv : En → R D} {vs : List Nat} (s : Sl) (ρ : En) : compDR isT T fi ft fk fv vs (s :: ρ) = (fi (s :: ρ)).bind fun items ρ1 => (compD (asgT T) ft fk fv vs items (newD isT) (wipeR ρ1 vs)).bind fun b ρ2 => .ok b (backR ρ1 ρ2 vs) := (rfl)
@[simp] theorem compL_n {g : D → En → Option En} {ft : En → R Bool} {fe : En → R D} {vs : List Nat} (ρ : En) : compL g ft fe vs [] ρ = .ok [] ρ := (rfl)
theorem compL_c {g : D → En → Option En} {ft : En → R Bool} {fe : En → R D} {vs : List Nat} (d : D) (ds : List D) (ρ : En) : compL g ft fe vs (d :: ds) ρ = (R.lift (g d ρ) ρ).bind fun ρ1 _ => (ft ρ1).ne.bind fun k ρ2 =>
    if k = true then (fe ρ2).ne.bind fun x ρ3 => (compL g ft fe vs ds (wipeR ρ3 vs)).bind fun xs ρ4 => .ok (x :: xs) ρ4 else compL g ft fe vs ds (wipeR ρ2 vs) := by
  rw [compL]
  cases g d ρ <;> rfl
/-! ### lateness -/
theorem lates_len : ∀ (xs : List Int) (t : Int), (lates t xs).length = xs.length
  | [], _ => rfl
  | x :: xs, t => by simp [lates, lates_len xs]
theorem lates_is : ∀ (xs : List Int) (t : Int), lates t xs = (List.range xs.length).map fun k => max 0 ((xs.take k).foldl max t - xs.getD k 0)
  | [], _ => rfl
  | x :: xs, t => by
    rw [lates, lates_is xs, List.length_cons, List.range_succ_eq_map, List.map_cons, List.map_map]
    rfl
theorem fold_sub (x : Int) : ∀ (ps : List Int) (t : Int), (ps.map fun p => p - x).foldl max (max 0 (t - x)) = max 0 (ps.foldl max t - x)
  | [], _ => rfl
  | p :: ps, t => by
    rw [List.map_cons, List.foldl_cons, List.foldl_cons, show max (max 0 (t - x)) (p - x) = max 0 (max t p - x) by omega]
    exact fold_sub x ps (max t p)
theorem fold_sub0 (x : Int) (h : 0 ≤ x) (ps : List Int) : (ps.map fun p => p - x).foldl max 0 = max 0 (ps.foldl max (-1) - x) := by
  have := fold_sub x ps (-1)
  rwa [show max 0 ((-1 : Int) - x) = 0 by omega] at this
theorem lates_le {B : Int} : ∀ (xs : List Int) (t : Int), t ≤ B → (∀ x ∈ xs, 0 ≤ x ∧ x ≤ B) → 0 ≤ B → ∀ l ∈ lates t xs, 0 ≤ l ∧ l ≤ B
  | [], _, _, _, _, l, h => by cases h
  | x :: xs, t, ht, hx, hB, l, h => by
    have := hx x List.mem_cons_self
    rcases List.mem_cons.mp h with rfl | h
    · omega
    · exact lates_le xs (max t x) (by omega) (fun y hy => hx y (List.mem_cons_of_mem _ hy)) hB l h
/-- the least size -/
def lsz (xs : List Int) : Int := (lates (-1) xs).foldl max 0 + 1
theorem lsz_is (z : Int) (xs : List Int) (hz : 1 ≤ z) (nd : xs.Nodup) : (goP z [] xs).1.all id = true ↔ lsz xs ≤ z := by
  have q := goP_all z hz xs [] (by simpa using nd)
  have t0 : top_ [] = -1 := rfl
  rw [t0] at q
  rw [q]
  unfold lsz
  obtain ⟨m1, m2, m3⟩ := foldmax (lates (-1) xs) 0
  constructor
  · intro h
    rcases m1 with m1 | m1
    · omega
    · have := h _ m1; omega
  · intro h l hl
    have := m3 l hl
    omega
theorem in_bls (b : Bool) (bs : List Bool) : inD (.bl b) (bs.map D.bl) = some (decide (b ∈ bs)) := by
  unfold inD
  rw [if_pos ⟨rfl, by rw [List.all_map, List.all_eq_true]; intro x _; rfl⟩]
  congr 1
  rw [Bool.eq_iff_iff, List.any_eq_true, decide_eq_true_eq]
  constructor
  · rintro ⟨y, hy, e⟩
    obtain ⟨m, hm, rfl⟩ := List.mem_map.mp hy
    have : (m == b) = true := e
    rw [beq_iff_eq] at this
    rw [← this]; exact hm
  · intro h
    exact ⟨.bl b, List.mem_map.mpr ⟨b, h, rfl⟩, by show (b == b) = true; simp⟩
theorem cmp_ninB (bs : List Bool) : cmpD .NotIn (.bl false) (.lst (bs.map D.bl)) = some (bs.all id) := by
  show (inD _ _).map _ = _
  rw [in_bls, Option.map_some]
  congr 1
  rw [Bool.eq_iff_iff]
  simp
section
variable {n : Nat}
theorem r_lateness (xs : List Int) (nd : xs.Nodup) (h0 : ∀ x ∈ xs, 0 ≤ x) (hl : xs.length ≤ 1000) : (gs dfs (n + 4)).dD n_lateness_of [.lst (xs.map D.int)] = .ok (.lst ((lates (-1) xs).map D.int)) := by
  show endD (evSs (gs dfs (n + 3)) b_lateness_of [.va (.lst (xs.map D.int)), .un, .un, .un, .un]) = _
  refine endD_wp ?_
  simp [b_lateness_of, rdV, rdL, r_are_numbers xs h0 (by omega)]
  refine wp_compDR (isT := false) (f := D.int) (xs := xs) (ρ1 := [.va (.lst (xs.map D.int)), .un, .un, .un, .un])
    (fun b us ρ => ∃ done : List Int, ρ = [.va (.lst (xs.map D.int)), .un, .un, .un, .un] ∧ b = .dK (done.map Sum.inl) (done.map fun _ => .bl true) ∧ done ++ us = xs) ?_ ⟨[], rfl, rfl, rfl⟩ ?_ ?_
  · simp [rdV]
  · rintro J hJ b x us ρ ⟨done, rfl, rfl, hd⟩
    have nin : x ∉ done := by
      rw [← hd, List.nodup_append] at nd
      exact fun z => nd.2.2 _ z _ List.mem_cons_self rfl
    have hdl : done.length ≤ xs.length := by rw [← hd, List.length_append]; omega
    have nin2 : (Sum.inl x : Key) ∉ done.map Sum.inl := fun z => by
      obtain ⟨y, hy, e⟩ := List.mem_map.mp z
      cases e
      exact nin hy
    have pp : putB (.dK (done.map Sum.inl) (done.map fun _ => .bl true)) (.int x) (.bl true) = some (.dK ((done ++ [x]).map Sum.inl) ((done ++ [x]).map fun _ => .bl true)) := by
      rw [putB_K _ _ _ (.inl x) _ rfl (by rw [List.length_map]; omega)]
      unfold putL
      rw [if_neg nin2]
      simp
    simp only [List.map_append, List.map_cons, List.map_nil] at pp
    simp [rdV, pp, wipeR]
    refine hJ _ _ _ ⟨done ++ [x], rfl, by simp, by rw [← hd]; simp⟩
  rintro b ρ ⟨done, rfl, rfl, hd⟩
  rw [List.append_nil] at hd
  subst hd
  have ln : b1 .len (.dK (done.map Sum.inl) (done.map fun _ => D.bl true)) = some (.int done.length) := by show some (D.int ((done.map Sum.inl : List Key).length : Nat)) = _; rw [List.length_map]
  simp [backR, ln, rdV, rdL]
  refine wp_for (f := D.int) (fun us ρ => ∃ (t : Int) (ds : List D) (x1 : Sl), ρ = [.va (.lst (done.map D.int)), x1, .ow false (.lst ds), .va (.int t), .un] ∧ Nt x1 ∧ ds.length + us.length ≤ 1000 ∧ ds ++ (lates t us).map D.int = (lates (-1) done).map D.int)
    ⟨-1, [], .un, rfl, trivial, by simpa using hl, rfl⟩ ?_ ?_
  · rintro J hJ x us ρ ⟨t, ds, x1, rfl, h1, l1, e1⟩
    rw [List.length_cons] at l1
    simp [h1, l1_lateness_of, rdV, rdO]
    rw [appFI, if_pos (by omega)]
    simp [rdV]
    exact hJ _ _ ⟨max t x, _, _, rfl, trivial, by simp; omega, by rw [← e1]; simp [lates]⟩
  · rintro ρ ⟨t, ds, x1, rfl, h1, l1, e1⟩
    simp [lates] at e1
    simp [rdV, e1]
theorem r_least_size (xs : List Int) (nd : xs.Nodup) (h0 : ∀ x ∈ xs, 0 ≤ x) (hl : xs.length ≤ 1000) : (gs dfs (n + 5)).dD n_least_size [.lst (xs.map D.int)] = .ok (.int (lsz xs)) := by
  show endD (evSs (gs dfs (n + 4)) b_least_size [.va (.lst (xs.map D.int))]) = _
  have mx : b1 .max (.lst (.int 0 :: (lates (-1) xs).map D.int)) = some (.int ((lates (-1) xs).foldl max 0)) := b1_maxI (0 :: lates (-1) xs)
  have ln := lates_len xs (-1)
  simp [b_least_size, rdV, r_lateness xs nd h0 hl]
  rw [fewI, if_pos (by simp [ln]; omega)]
  simp [mx, lsz]
end
end Ev.W

end
section
set_option maxHeartbeats 1000000
namespace Ev.W
open PySem PySem.Spec PyProof.Rows L2 Ev
section
variable {n : Nat}
/-- what the law's teller makes of a call -/
def tel : Cr D → Cr D
  | .ok d => .ok d
  | .err x => if x < 2 then (if x = 1 then .ok (.str "not right") else .ok (.str "refused")) else .bad
  | .bad => .bad
@[simp] theorem tel_ok (d : D) : tel (.ok d) = .ok d := (rfl)
@[simp] theorem tel_e1 : tel (.err 1) = .ok (.str "not right") := (rfl)
theorem told_0 (x y z : D) : (gs dfs (n + 1)).dD n__law_told [.int 0, x, y, z] = tel ((gs dfs n).dD n_is_gate [x]) := by
  show endD (evSs (gs dfs n) b__law_told [.va (.int 0), .va x, .va y, .va z, .un]) = _
  cases h : (gs dfs n).dD n_is_gate [x] with
  | ok d => simp [b__law_told, rdV, h]
  | bad => simp [b__law_told, rdV, h, tel]
  | err e =>
    rcases (show e = 0 ∨ e = 1 ∨ 2 ≤ e by omega) with rfl | rfl | h2
    · simp [b__law_told, rdV, h, tel, subC]
    · simp [b__law_told, rdV, h, tel, subC]
    · simp [b__law_told, rdV, h, tel, show ¬ (e < 2) by omega]
theorem told_1 (x y z : D) : (gs dfs (n + 1)).dD n__law_told [.int 1, x, y, z] = tel ((gs dfs n).dD n_lateness_of [x]) := by
  show endD (evSs (gs dfs n) b__law_told [.va (.int 1), .va x, .va y, .va z, .un]) = _
  cases h : (gs dfs n).dD n_lateness_of [x] with
  | ok d => simp [b__law_told, rdV, h]
  | bad => simp [b__law_told, rdV, h, tel]
  | err e =>
    rcases (show e = 0 ∨ e = 1 ∨ 2 ≤ e by omega) with rfl | rfl | h2
    · simp [b__law_told, rdV, h, tel, subC]
    · simp [b__law_told, rdV, h, tel, subC]
    · simp [b__law_told, rdV, h, tel, show ¬ (e < 2) by omega]
theorem told_2 (x y z : D) : (gs dfs (n + 1)).dD n__law_told [.int 2, x, y, z] = tel ((gs dfs n).dD n_least_size [x]) := by
  show endD (evSs (gs dfs n) b__law_told [.va (.int 2), .va x, .va y, .va z, .un]) = _
  cases h : (gs dfs n).dD n_least_size [x] with
  | ok d => simp [b__law_told, rdV, h]
  | bad => simp [b__law_told, rdV, h, tel]
  | err e =>
    rcases (show e = 0 ∨ e = 1 ∨ 2 ≤ e by omega) with rfl | rfl | h2
    · simp [b__law_told, rdV, h, tel, subC]
    · simp [b__law_told, rdV, h, tel, subC]
    · simp [b__law_told, rdV, h, tel, show ¬ (e < 2) by omega]
theorem told_3 (x y z : D) : (gs dfs (n + 1)).dD n__law_told [.int 3, x, y, z] = tel ((gs dfs n).dD n_new_gate [x]) := by
  show endD (evSs (gs dfs n) b__law_told [.va (.int 3), .va x, .va y, .va z, .un]) = _
  cases h : (gs dfs n).dD n_new_gate [x] with
  | ok d => simp [b__law_told, rdV, h]
  | bad => simp [b__law_told, rdV, h, tel]
  | err e =>
    rcases (show e = 0 ∨ e = 1 ∨ 2 ≤ e by omega) with rfl | rfl | h2
    · simp [b__law_told, rdV, h, tel, subC]
    · simp [b__law_told, rdV, h, tel, subC]
    · simp [b__law_told, rdV, h, tel, show ¬ (e < 2) by omega]
theorem told_4 (x y z : D) : (gs dfs (n + 1)).dD n__law_told [.int 4, x, y, z] = tel ((gs dfs n).dD n_let_through [x, y]) := by
  show endD (evSs (gs dfs n) b__law_told [.va (.int 4), .va x, .va y, .va z, .un]) = _
  cases h : (gs dfs n).dD n_let_through [x, y] with
  | ok d => simp [b__law_told, rdV, h]
  | bad => simp [b__law_told, rdV, h, tel]
  | err e =>
    rcases (show e = 0 ∨ e = 1 ∨ 2 ≤ e by omega) with rfl | rfl | h2
    · simp [b__law_told, rdV, h, tel, subC]
    · simp [b__law_told, rdV, h, tel, subC]
    · simp [b__law_told, rdV, h, tel, show ¬ (e < 2) by omega]
theorem told_5 (x y z : D) : (gs dfs (n + 1)).dD n__law_told [.int 5, x, y, z] = tel ((gs dfs n).dD n_passed [x, y]) := by
  show endD (evSs (gs dfs n) b__law_told [.va (.int 5), .va x, .va y, .va z, .un]) = _
  cases h : (gs dfs n).dD n_passed [x, y] with
  | ok d => simp [b__law_told, rdV, h]
  | bad => simp [b__law_told, rdV, h, tel]
  | err e =>
    rcases (show e = 0 ∨ e = 1 ∨ 2 ≤ e by omega) with rfl | rfl | h2
    · simp [b__law_told, rdV, h, tel, subC]
    · simp [b__law_told, rdV, h, tel, subC]
    · simp [b__law_told, rdV, h, tel, show ¬ (e < 2) by omega]
theorem told_6 (x y z : D) : (gs dfs (n + 1)).dD n__law_told [.int 6, x, y, z] = tel ((gs dfs n).dD n_timely [x, y]) := by
  show endD (evSs (gs dfs n) b__law_told [.va (.int 6), .va x, .va y, .va z, .un]) = _
  cases h : (gs dfs n).dD n_timely [x, y] with
  | ok d => simp [b__law_told, rdV, h]
  | bad => simp [b__law_told, rdV, h, tel]
  | err e =>
    rcases (show e = 0 ∨ e = 1 ∨ 2 ≤ e by omega) with rfl | rfl | h2
    · simp [b__law_told, rdV, h, tel, subC]
    · simp [b__law_told, rdV, h, tel, subC]
    · simp [b__law_told, rdV, h, tel, show ¬ (e < 2) by omega]
theorem told_7 (x y z : D) : (gs dfs (n + 1)).dD n__law_told [.int 7, x, y, z] = tel ((gs dfs n).dD n_most_kept [x, y]) := by
  show endD (evSs (gs dfs n) b__law_told [.va (.int 7), .va x, .va y, .va z, .un]) = _
  cases h : (gs dfs n).dD n_most_kept [x, y] with
  | ok d => simp [b__law_told, rdV, h]
  | bad => simp [b__law_told, rdV, h, tel]
  | err e =>
    rcases (show e = 0 ∨ e = 1 ∨ 2 ≤ e by omega) with rfl | rfl | h2
    · simp [b__law_told, rdV, h, tel, subC]
    · simp [b__law_told, rdV, h, tel, subC]
    · simp [b__law_told, rdV, h, tel, show ¬ (e < 2) by omega]
theorem told_8 (x y z : D) : (gs dfs (n + 1)).dD n__law_told [.int 8, x, y, z] = tel ((gs dfs n).dD n_forgetful [x, y]) := by
  show endD (evSs (gs dfs n) b__law_told [.va (.int 8), .va x, .va y, .va z, .un]) = _
  cases h : (gs dfs n).dD n_forgetful [x, y] with
  | ok d => simp [b__law_told, rdV, h]
  | bad => simp [b__law_told, rdV, h, tel]
  | err e =>
    rcases (show e = 0 ∨ e = 1 ∨ 2 ≤ e by omega) with rfl | rfl | h2
    · simp [b__law_told, rdV, h, tel, subC]
    · simp [b__law_told, rdV, h, tel, subC]
    · simp [b__law_told, rdV, h, tel, show ¬ (e < 2) by omega]
theorem told_9 (x y z : D) : (gs dfs (n + 1)).dD n__law_told [.int 9, x, y, z] = tel ((gs dfs n).dD n_in_time [x, y, z]) := by
  show endD (evSs (gs dfs n) b__law_told [.va (.int 9), .va x, .va y, .va z, .un]) = _
  cases h : (gs dfs n).dD n_in_time [x, y, z] with
  | ok d => simp [b__law_told, rdV, h]
  | bad => simp [b__law_told, rdV, h, tel]
  | err e =>
    rcases (show e = 0 ∨ e = 1 ∨ 2 ≤ e by omega) with rfl | rfl | h2
    · simp [b__law_told, rdV, h, tel, subC]
    · simp [b__law_told, rdV, h, tel, subC]
    · simp [b__law_told, rdV, h, tel, show ¬ (e < 2) by omega]
end
end Ev.W

end
section
set_option maxHeartbeats 1000000
namespace Ev.W
open PySem PySem.Spec PyProof.Rows L2 Ev
theorem in_strs (x : Str) (ws : List Str) : inD (.str x) (ws.map D.str) = some (decide (x ∈ ws)) := by
  unfold inD
  rw [if_pos ⟨rfl, by rw [List.all_map, List.all_eq_true]; intro x _; rfl⟩]
  congr 1
  rw [Bool.eq_iff_iff, List.any_eq_true, decide_eq_true_eq]
  constructor
  · rintro ⟨y, hy, e⟩
    obtain ⟨m, hm, rfl⟩ := List.mem_map.mp hy
    have : (m == x) = true := e
    rw [beq_iff_eq] at this
    rw [← this]; exact hm
  · intro h
    exact ⟨.str x, List.mem_map.mpr ⟨x, h, rfl⟩, by show (x == x) = true; simp⟩
theorem cmp_ninS (x : Str) (ws : List Str) : cmpD .NotIn (.str x) (.lst (ws.map D.str)) = some (!decide (x ∈ ws)) := by
  show (inD _ _).map _ = _
  rw [in_strs]; rfl
/-- the last k -/
def lastK (k : Nat) (ws : List Str) : List Str := ws.drop (ws.length - k)
def fgL (k : Nat) : List Str → List Str → List Bool
  | _, [] => []
  | th, w :: ws => (!decide (w ∈ lastK k th)) :: fgL k (if w ∈ lastK k th then th else th ++ [w]) ws
theorem lastK_next (k : Nat) (th : List Str) (w : Str) (h : 0 < k) : lastK k (lastK k th ++ [w]) = lastK k (th ++ [w]) := by
  unfold lastK
  by_cases c : th.length < k
  · rw [show th.length - k = 0 by omega, List.drop_zero]
  · rw [List.length_append, List.length_append, List.length_drop, List.length_singleton, List.drop_append, List.drop_append, List.drop_drop, List.length_drop]
    congr 1
    · congr 1; omega
    · congr 1; omega
theorem cutD_last (k : Nat) (ws : List Str) (h : 0 < k) : cutD (ws.map D.str) (some (-(k : Int))) none = (lastK k ws).map D.str := by
  unfold cutD lastK
  have e : HT.sIx (ws.map D.str).length 0 (some (-(k : Int))) = ws.length - k := by
    show (if (-(k : Int)) < 0 then ((-(k : Int)) + ((ws.map D.str).length : Int)).toNat else _) = _
    rw [if_pos (by omega), List.length_map]
    omega
  rw [e, sIx_n, List.take_of_length_le (by rw [List.length_drop]; exact Nat.le_refl _), List.map_drop]
section
variable {n : Nat}
theorem r_forgetful (k : Nat) (ws : List Str) (hk : k ≤ 1000) (hl : ws.length ≤ 1000) : (gs dfs (n + 3)).dD n_forgetful [.int (k : Int), .lst (ws.map D.str)] = .ok (.lst ((fgL k [] ws).map D.bl)) := by
  show endD (evSs (gs dfs (n + 2)) b_forgetful [.va (.int (k : Int)), .va (.lst (ws.map D.str)), .un, .un, .un, .un, .un]) = _
  have k2 : (k : Int) ≤ 1000 := by omega
  refine endD_wp ?_
  simp [b_forgetful, rdV, rdL, isiD, k2]
  refine wp_comp (f := D.str) (xs := ws) (ρ1 := [.va (.int (k : Int)), .va (.lst (ws.map D.str)), .un, .un, .un, .un, .un]) (fun ds us ρ => ρ = [.va (.int (k : Int)), .va (.lst (ws.map D.str)), .un, .un, .un, .un, .un] ∧ ds ++ us.map (fun _ => D.bl true) = ws.map fun _ => D.bl true) ?_ ⟨rfl, rfl⟩ ?_ ?_
  · simp [evJ, rdV]
    rw [fewI, if_pos (by simp; omega)]
  · rintro J hJ ds u us ρ ⟨rfl, e⟩
    simp [rdL, isiD, wipeR]
    exact hJ _ _ _ ⟨rfl, by rw [← e]; simp⟩
  rintro ds ρ ⟨rfl, e⟩
  simp only [List.map_nil, List.append_nil] at e
  subst e
  simp [backR, all_T, rdV]
  refine wp_for (f := D.str) (fun us ρ => ∃ (th : List Str) (ds : List D) (x2 x5 : Sl), ρ = [.va (.int (k : Int)), .va (.lst (ws.map D.str)), x2, .ow false (.lst ds), .va (.lst ((lastK k th).map D.str)), x5, .un] ∧ Nt x2 ∧ Nt x5 ∧ th.length + us.length ≤ 1000 ∧ ds.length + us.length ≤ 1000 ∧
    ds ++ (fgL k th us).map D.bl = (fgL k [] ws).map D.bl) ⟨[], [], .un, .un, by simp [lastK], trivial, trivial, by simpa using hl, by simpa using hl, rfl⟩ ?_ ?_
  · rintro J hJ w us ρ ⟨th, ds, x2, x5, rfl, h2, h5, l1, l2, e1⟩
    rw [List.length_cons] at l1 l2
    have ll : (lastK k th).length ≤ th.length := by unfold lastK; rw [List.length_drop]; omega
    by_cases c : w ∈ lastK k th
    · simp [h2, h5, l1_forgetful, rdV, rdL, rdO, cmp_ninS, c]
      rw [appFI, if_pos (by omega)]
      simp [rdL]
      exact hJ _ _ ⟨th, _, _, _, rfl, trivial, trivial, by omega, by simp; omega, by rw [← e1]; simp [fgL, c]⟩
    · simp [h2, h5, l1_forgetful, rdV, rdL, rdO, cmp_ninS, c]
      rw [appFI, if_pos (by omega)]
      by_cases hk0 : k = 0
      · subst hk0
        simp [rdV, rdL]
        exact hJ _ _ ⟨th ++ [w], ds ++ [.bl true], .va (.str w), .va (.bl true), by simp [lastK], trivial, trivial, by simp; omega, by simp; omega, by rw [← e1]; simp [fgL, c]⟩
      · have hk1 : 0 < k := by omega
        have hk2 : (0 : Int) < (k : Int) := by omega
        have sl : slD (.lst ((lastK k th).map D.str ++ [.str w])) (some (-(k : Int))) none = some (.lst ((lastK k (th ++ [w])).map D.str)) := by
          show some (D.lst (cutD _ _ _)) = _
          rw [show (lastK k th).map D.str ++ [.str w] = (lastK k th ++ [w]).map D.str by simp, cutD_last _ _ hk1, lastK_next _ _ _ hk1]
        simp [rdV, rdL, hk1]
        rw [fewI, if_pos (by simp; omega)]
        simp [rdV, partD, sl]
        exact hJ _ _ ⟨th ++ [w], _, _, _, rfl, trivial, trivial, by simp; omega, by simp; omega, by rw [← e1]; simp [fgL, c]⟩
  · rintro ρ ⟨th, ds, x2, x5, rfl, h2, h5, l1, l2, e1⟩
    simp [fgL] at e1
    simp [rdV, e1]
theorem r_law_forgetful (k : Nat) (ws : List Str) (hk : k ≤ 1000) (hl : ws.length ≤ 1000) : (gs dfs (n + 1)).dD n__law_forgetful [.int (k : Int), .lst (ws.map D.str)] = .ok (.lst ((fgL k [] ws).map D.bl)) := by
  show endD (evSs (gs dfs n) b__law_forgetful [.va (.int (k : Int)), .va (.lst (ws.map D.str)), .un, .un, .un, .un, .un]) = _
  refine endD_wp ?_
  simp [b__law_forgetful, rdV]
  refine wp_for (f := D.str) (fun us ρ => ∃ (th : List Str) (ds : List D) (x2 x5 x6 : Sl), ρ = [.va (.int (k : Int)), .va (.lst (ws.map D.str)), x2, .ow false (.lst ds), .va (.lst (th.map D.str)), x5, x6] ∧ Nt x2 ∧ Nt x5 ∧ Nt x6 ∧ th.length + us.length ≤ 1000 ∧ ds.length + us.length ≤ 1000 ∧
    ds ++ (fgL k th us).map D.bl = (fgL k [] ws).map D.bl) ⟨[], [], .un, .un, .un, rfl, trivial, trivial, trivial, by simpa using hl, by simpa using hl, rfl⟩ ?_ ?_
  · rintro J hJ w us ρ ⟨th, ds, x2, x5, x6, rfl, h2, h5, h6, l1, l2, e1⟩
    rw [List.length_cons] at l1 l2
    have sl : slD (.lst (th.map D.str)) (some (max 0 ((th.length : Int) - (k : Int)))) none = some (.lst ((lastK k th).map D.str)) := by
      show some (D.lst (cutD _ _ _)) = _
      rw [show max 0 ((th.length : Int) - (k : Int)) = ((th.length - k : Nat) : Int) by omega, cutD_from]
      unfold lastK
      rw [List.map_drop]
    have rp := op_rep01 (.str w) (!decide (w ∈ lastK k th))
    have q2 : op2 .Add (.lst (th.map D.str)) (.lst (if (!decide (w ∈ lastK k th)) = true then [D.str w] else [])) = some (.lst ((if w ∈ lastK k th then th else th ++ [w]).map D.str)) := by
      rw [op_cat _ _ (by rw [List.length_map]; split <;> simp <;> omega)]
      by_cases c : w ∈ lastK k th <;> simp [c]
    simp [h2, h5, l1__law_forgetful, rdV, rdL, rdO, partD, sl, cmp_ninS, h6]
    rw [appFI, if_pos (by omega)]
    simp only [Bool.not_eq_true', decide_eq_false_iff_not, ite_not] at rp q2
    have nx := hJ us [.va (.int (k : Int)), .va (.lst (ws.map D.str)), .va (.str w), .ow false (.lst (ds ++ [.bl (!decide (w ∈ lastK k th))])), .va (.lst ((if w ∈ lastK k th then th else th ++ [w]).map D.str)), .va (.lst ((lastK k th).map D.str)), .va (.bl (!decide (w ∈ lastK k th)))]
      ⟨_, _, _, _, _, rfl, trivial, trivial, trivial, by split <;> (try rw [List.length_append, List.length_singleton]) <;> omega, by simp; omega, by rw [← e1]; simp [fgL]⟩
    by_cases c : w ∈ lastK k th
    · simp only [c, if_true] at rp q2 nx
      simp [rdV, rdL, c, rp, q2]
      simpa using nx
    · simp only [c, if_false] at rp q2 nx
      simp [rdV, rdL, c, rp, q2]
      simpa using nx
  · rintro ρ ⟨th, ds, x2, x5, x6, rfl, h2, h5, h6, l1, l2, e1⟩
    simp [fgL] at e1
    simp [rdV, e1]
end
end Ev.W

end
section
set_option maxHeartbeats 2000000
namespace Ev.W
open PySem PySem.Spec PyProof.Rows L2 Ev
section
variable {n : Nat}
/-! ### values that are none -/
@[simp] theorem ne_ok {α : Type} (a : α) (ρ : En) : (R.ok a ρ).ne = .ok a ρ := (rfl)
/-- no whole number -/
def noI : D → Prop
  | .non => True
  | .bl _ => True
  | .str _ => True
  | .lst _ => True
  | .tup _ => True
  | _ => False
@[simp] theorem noI_n : noI .non := trivial
@[simp] theorem noI_b (b : Bool) : noI (.bl b) := trivial
@[simp] theorem noI_s (x : Str) : noI (.str x) := trivial
@[simp] theorem r_is_integer_no (d : D) (h : noI d) : (gs dfs (n + 1)).dD n_is_integer [d] = .ok (.bl false) := by
  show endD (evSs (gs dfs n) b_is_integer [.va d]) = _
  cases d <;> first | (exact h.elim) | simp [b_is_integer, rdL, isiD]
@[simp] theorem r_is_within_no (d lo hi : D) (h : noI d) : (gs dfs (n + 2)).dD n_is_within [d, lo, hi] = .ok (.bl false) := by
  show endD (evSs (gs dfs (n + 1)) b_is_within [.va d, .va lo, .va hi]) = _
  simp [b_is_within, rdV, h]
@[simp] theorem r_is_count_no (d : D) (h : noI d) : (gs dfs (n + 2)).dD n_is_count [d] = .ok (.bl false) := by
  show endD (evSs (gs dfs (n + 1)) b_is_count [.va d]) = _
  simp [b_is_count, rdV, h]
def badG : List D := [.non, .tup [], .lst [.int 3, .int (-1), .tup []], .tup [.int 3, .int (-1)], .tup [.int 0, .int (-1), .tup []], .tup [.int 1001, .int (-1), .tup []], .tup [.int 3, .int (-2), .tup []], .tup [.int 3, .int 5, .tup []],
  .tup [.int 3, .int 5, .tup [.int 3, .int 4]], .tup [.int 3, .int 5, .tup [.int 2, .int 5]], .tup [.int 3, .int 5, .tup [.int 5, .int 3]], .tup [.int 3, .int 5, .tup [.int 5, .int 5]], .tup [.int 3, .int 5, .tup [.int 5, .int 6]], .tup [.int 3, .int (-1), .tup [.int 0]],
  .tup [.int 3, .int 5, .lst [.int 5]], .tup [.int 3, .bl true, .tup [.int 1]], .tup [.int 9, .int 1, .tup [.int (-1), .int 1]], .tup [.int 3, .int 1, .tup [.bl true]]]
theorem x_is_gate (d : D) (h : d ∈ badG) : (gs dfs (n + 3)).dD n_is_gate [d] = .ok (.bl false) := by
  show endD (evSs (gs dfs (n + 2)) b_is_gate [.va d, .un, .un, .un, .un]) = _
  have i0 : ∀ a b c : D, ixD (.tup [a, b, c]) (.int 0) = some a := fun _ _ _ => rfl
  have b1t : ∀ b : Bool, b1 .all (.lst [.bl b]) = some (.bl (b && true)) := fun _ => rfl
  have b2t : ∀ a b : Bool, b1 .all (.lst [.bl a, .bl b]) = some (.bl (a && (b && true))) := fun _ _ => rfl
  have as1 : ∀ a : Int, (gs dfs (n + 2)).dD n_are_ascending [.tup [.int a]] = .ok (.bl (ascB [a])) := fun a => r_are_asc [a] (by simp)
  have as2 : ∀ a b : Int, (gs dfs (n + 2)).dD n_are_ascending [.tup [.int a, .int b]] = .ok (.bl (ascB [a, b])) := fun a b => r_are_asc [a, b] (by simp)
  have as0 : (gs dfs (n + 2)).dD n_are_ascending [.tup []] = .ok (.bl (ascB [])) := r_are_asc [] (by simp)
  have a1 : ∀ a : Int, ascB [a] = true := fun _ => rfl
  have a2 : ∀ a b : Int, ascB [a, b] = (decide (a < b) && true) := fun _ _ => rfl
  have a0 : ascB [] = true := rfl
  have b0t : b1 .all (.lst []) = some (.bl true) := rfl
  have in0 : ∀ x : D, shp 60 x = true → cmpD .In x (.tup []) = some false := fun x hx => by
    show inD x [] = _
    unfold inD
    rw [if_pos ⟨hx, rfl⟩]
    rfl
  have in2 : ∀ x a b : Int, cmpD .In (.int x) (.tup [.int a, .int b]) = some (decide (x ∈ [a, b])) := fun x a b => cmp_inT x [a, b]
  simp [badG] at h
  rcases h with rfl | rfl | rfl | rfl | rfl | rfl | rfl | rfl | rfl | rfl | rfl | rfl | rfl | rfl | rfl | rfl | rfl | rfl <;>
    simp [b_is_gate, rdL, rdV, isiD, i0, compR_u, compL_c, evJ, wipeR, backR, b1t, b2t, as1, as2, as0, a1, a2, a0, b0t, fewI, in0, in2]
  · rw [in0 _ rfl]
    rfl
theorem y_let (d x : D) (h : d ∈ badG) : (gs dfs (n + 5)).dD n_let_through [d, x] = .err 1 := by
  show endD (evSs (gs dfs (n + 4)) b_let_through [.va d, .va x]) = _
  have c : (gs dfs (n + 4)).dD n_check_gate [d] = .err 1 := by
    show endD (evSs (gs dfs (n + 3)) b_check_gate [.va d]) = _
    simp [b_check_gate, rdV, x_is_gate d h]
  simp [b_let_through, rdV, c]
theorem y_passed (d x : D) (h : d ∈ badG) : (gs dfs (n + 5)).dD n_passed [d, x] = .err 1 := by
  show endD (evSs (gs dfs (n + 4)) b_passed [.va d, .va x, .un, .un, .un]) = _
  have c : (gs dfs (n + 4)).dD n_check_gate [d] = .err 1 := by
    show endD (evSs (gs dfs (n + 3)) b_check_gate [.va d]) = _
    simp [b_check_gate, rdV, x_is_gate d h]
  simp [b_passed, rdV, c]
def badN : List D := [.int (-1), .non, .bl true, .str "1"]
theorem x_count (d : D) (h : d ∈ badN) : (gs dfs (n + 2)).dD n_is_count [d] = .ok (.bl false) := by
  simp [badN] at h
  rcases h with rfl | rfl | rfl | rfl <;> simp
theorem x_within (d : D) (h : d ∈ badN) : (gs dfs (n + 2)).dD n_is_within [d, .int 0, .int 1000] = .ok (.bl false) := by
  simp [badN] at h
  rcases h with rfl | rfl | rfl | rfl <;> simp
theorem g3 : D.tup [.int 3, .int (-1), .tup []] = gD 3 [] := by
  have e1 : top_ [] = -1 := rfl
  have e2 : seen_ 3 [] = [] := by simp [seen_, sortZ]
  simp [gD, e1, e2]
theorem y_let3 (d : D) (h : d ∈ badN) : (gs dfs (n + 5)).dD n_let_through [.tup [.int 3, .int (-1), .tup []], d] = .err 1 := by
  show endD (evSs (gs dfs (n + 4)) b_let_through [.va (.tup [.int 3, .int (-1), .tup []]), .va d]) = _
  rw [g3]
  simp [b_let_through, rdV, r_check_gate 3 [] (by omega) (by omega) KOk.nil (by simp), x_count d h]
def badR : List D := [.non, .tup [.int 1], .lst [.int 1, .int (-1)], .lst [.non], .lst [.bl true]]
theorem x_numbers (d : D) (h : d ∈ badR) : (gs dfs (n + 3)).dD n_are_numbers [d] = .ok (.bl false) := by
  show endD (evSs (gs dfs (n + 2)) b_are_numbers [.va d, .un]) = _
  have b1t : ∀ b : Bool, b1 .all (.lst [.bl b]) = some (.bl (b && true)) := fun _ => rfl
  have b2t : ∀ a b : Bool, b1 .all (.lst [.bl a, .bl b]) = some (.bl (a && (b && true))) := fun _ _ => rfl
  simp [badR] at h
  rcases h with rfl | rfl | rfl | rfl | rfl <;> simp [b_are_numbers, rdL, rdV, isiD, compR_u, compL_c, evJ, wipeR, backR, b1t, b2t, fewI]
theorem y_passed3 (d : D) (h : d ∈ badR) : (gs dfs (n + 5)).dD n_passed [.tup [.int 3, .int (-1), .tup []], d] = .err 1 := by
  show endD (evSs (gs dfs (n + 4)) b_passed [.va (.tup [.int 3, .int (-1), .tup []]), .va d, .un, .un, .un]) = _
  rw [g3]
  simp [b_passed, rdV, r_check_gate 3 [] (by omega) (by omega) KOk.nil (by simp), x_numbers d h]
theorem y_late (d : D) (h : d ∈ badR) : (gs dfs (n + 4)).dD n_lateness_of [d] = .err 1 := by
  show endD (evSs (gs dfs (n + 3)) b_lateness_of [.va d, .un, .un, .un, .un]) = _
  simp [b_lateness_of, rdV, x_numbers d h]
theorem y_least (d : D) (h : d ∈ badR) : (gs dfs (n + 5)).dD n_least_size [d] = .err 1 := by
  show endD (evSs (gs dfs (n + 4)) b_least_size [.va d]) = _
  simp [b_least_size, rdV, y_late d h]
theorem y_late11 : (gs dfs (n + 4)).dD n_lateness_of [.lst [.int 1, .int 1]] = .err 1 := by
  show endD (evSs (gs dfs (n + 3)) b_lateness_of [.va (.lst [.int 1, .int 1]), .un, .un, .un, .un]) = _
  have e : (gs dfs (n + 3)).dD n_are_numbers [.lst [.int 1, .int 1]] = .ok (.bl true) := r_are_numbers [1, 1] (by simp) (by simp)
  have p1 : putB (.dK [] []) (.int 1) (.bl true) = some (.dK [.inl 1] [.bl true]) := rfl
  have p2 : putB (.dK [.inl 1] [.bl true]) (.int 1) (.bl true) = some (.dK [.inl 1] [.bl true]) := rfl
  have ln : b1 .len (.dK [.inl 1] [.bl true]) = some (.int 1) := rfl
  simp [b_lateness_of, rdV, rdL, e, compDR_u, compD_c, p1, p2, wipeR, backR, ln]
theorem y_late020 : (gs dfs (n + 4)).dD n_lateness_of [.lst [.int 0, .int 2, .int 0]] = .err 1 := by
  show endD (evSs (gs dfs (n + 3)) b_lateness_of [.va (.lst [.int 0, .int 2, .int 0]), .un, .un, .un, .un]) = _
  have e : (gs dfs (n + 3)).dD n_are_numbers [.lst [.int 0, .int 2, .int 0]] = .ok (.bl true) := r_are_numbers [0, 2, 0] (by simp) (by simp)
  have p1 : putB (.dK [] []) (.int 0) (.bl true) = some (.dK [.inl 0] [.bl true]) := rfl
  have p2 : putB (.dK [.inl 0] [.bl true]) (.int 2) (.bl true) = some (.dK [.inl 0, .inl 2] [.bl true, .bl true]) := rfl
  have p3 : putB (.dK [.inl 0, .inl 2] [.bl true, .bl true]) (.int 0) (.bl true) = some (.dK [.inl 0, .inl 2] [.bl true, .bl true]) := rfl
  have ln : b1 .len (.dK [.inl 0, .inl 2] [.bl true, .bl true]) = some (.int 2) := rfl
  simp [b_lateness_of, rdV, rdL, e, compDR_u, compD_c, p1, p2, p3, wipeR, backR, ln]
theorem y_least020 : (gs dfs (n + 5)).dD n_least_size [.lst [.int 0, .int 2, .int 0]] = .err 1 := by
  show endD (evSs (gs dfs (n + 4)) b_least_size [.va (.lst [.int 0, .int 2, .int 0])]) = _
  simp [b_least_size, rdV, y_late020]
theorem y_new (d : D) (h : d ∈ [D.int 0, .int 1001, .non, .bl true]) : (gs dfs (n + 3)).dD n_new_gate [d] = .err 1 := by
  show endD (evSs (gs dfs (n + 2)) b_new_gate [.va d]) = _
  simp at h
  rcases h with rfl | rfl | rfl | rfl <;> simp [b_new_gate, rdV]
def badW : List D := [.non, .tup [.tup [.int 0, .int 0, .str "x"]], .lst [.tup [.int 0, .int 0]], .lst [.tup [.int 0, .int 0, .int 1]], .lst [.tup [.non, .int 0, .str "x"]], .lst [.tup [.int 0, .bl true, .str "x"]],
  .lst [.tup [.int 1, .int 0, .str "x"], .tup [.int 0, .int 0, .str "x"]], .lst [.lst [.int 0, .int 0, .str "x"]]]
theorem w_bad (d : D) (h : d ∈ [D.tup [.int 0, .int 0], .tup [.int 0, .int 0, .int 1], .tup [.non, .int 0, .str "x"], .tup [.int 0, .bl true, .str "x"], .lst [.int 0, .int 0, .str "x"]]) : (gs dfs (n + 2)).dD n_is_word [d] = .ok (.bl false) := by
  show endD (evSs (gs dfs (n + 1)) b_is_word [.va d]) = _
  have i0 : ∀ a b c : D, ixD (.tup [a, b, c]) (.int 0) = some a := fun _ _ _ => rfl
  have i1 : ∀ a b c : D, ixD (.tup [a, b, c]) (.int 1) = some b := fun _ _ _ => rfl
  have i2 : ∀ a b c : D, ixD (.tup [a, b, c]) (.int 2) = some c := fun _ _ _ => rfl
  simp at h
  rcases h with rfl | rfl | rfl | rfl | rfl <;> simp [b_is_word, rdL, rdV, isiD, i0, i1, i2]
theorem y_words (d : D) (h : d ∈ badW) : (gs dfs (n + 3)).dD n_check_words [.int 1, d] = .err 1 := by
  show endD (evSs (gs dfs (n + 2)) b_check_words [.va (.int 1), .va d, .un, .un]) = _
  have b1t : ∀ b : Bool, b1 .all (.lst [.bl b]) = some (.bl (b && true)) := fun _ => rfl
  have b2t : ∀ a b : Bool, b1 .all (.lst [.bl a, .bl b]) = some (.bl (a && (b && true))) := fun _ _ => rfl
  have q1 := w_bad (n := n) (.tup [.int 0, .int 0]) (by simp)
  have q2 := w_bad (n := n) (.tup [.int 0, .int 0, .int 1]) (by simp)
  have q3 := w_bad (n := n) (.tup [.non, .int 0, .str "x"]) (by simp)
  have q4 := w_bad (n := n) (.tup [.int 0, .bl true, .str "x"]) (by simp)
  have q5 := w_bad (n := n) (.lst [.int 0, .int 0, .str "x"]) (by simp)
  have q6 : ∀ a b : Int, (gs dfs (n + 2)).dD n_is_word [.tup [.int a, .int b, .str "x"]] = .ok (.bl true) := fun a b => r_is_word (a, b, "x")
  have z : zipD (.lst [.tup [.int 1, .int 0, .str "x"], .tup [.int 0, .int 0, .str "x"]]) (.lst [.tup [.int 0, .int 0, .str "x"]]) = some [.tup [.tup [.int 1, .int 0, .str "x"], .tup [.int 0, .int 0, .str "x"]]] := rfl
  have sl : slD (.lst [.tup [.int 1, .int 0, .str "x"], .tup [.int 0, .int 0, .str "x"]]) (some 1) none = some (.lst [.tup [.int 0, .int 0, .str "x"]]) := rfl
  have i0 : ∀ a b c : D, ixD (.tup [a, b, c]) (.int 0) = some a := fun _ _ _ => rfl
  simp [badW] at h
  rcases h with rfl | rfl | rfl | rfl | rfl | rfl | rfl | rfl <;> simp [b_check_words, rdL, rdV, isiD, compR_u, compL_c, evJ, wipeR, backR, b1t, b2t, fewI, q1, q2, q3, q4, q5, q6, z, sl, partD, i0]
theorem y_timely (d : D) (h : d ∈ badW) : (gs dfs (n + 4)).dD n_timely [.int 1, d] = .err 1 := by
  show endD (evSs (gs dfs (n + 3)) b_timely [.va (.int 1), .va d]) = _
  simp [b_timely, rdV, y_words d h]
theorem y_most (d : D) (h : d ∈ badW) : (gs dfs (n + 4)).dD n_most_kept [.int 1, d] = .err 1 := by
  show endD (evSs (gs dfs (n + 3)) b_most_kept [.va (.int 1), .va d]) = _
  simp [b_most_kept, rdV, y_words d h]
theorem y_wordsN (d : D) (h : d ∈ badN) : (gs dfs (n + 3)).dD n_check_words [d, .lst []] = .err 1 := by
  show endD (evSs (gs dfs (n + 2)) b_check_words [.va d, .va (.lst []), .un, .un]) = _
  simp [b_check_words, rdV, x_count d h]
theorem y_timelyN (d : D) (h : d ∈ badN) : (gs dfs (n + 4)).dD n_timely [d, .lst []] = .err 1 := by
  show endD (evSs (gs dfs (n + 3)) b_timely [.va d, .va (.lst [])]) = _
  simp [b_timely, rdV, y_wordsN d h]
theorem y_mostN (d : D) (h : d ∈ badN) : (gs dfs (n + 4)).dD n_most_kept [d, .lst []] = .err 1 := by
  show endD (evSs (gs dfs (n + 3)) b_most_kept [.va d, .va (.lst [])]) = _
  simp [b_most_kept, rdV, y_wordsN d h]
theorem y_forgN (d x : D) (h : d ∈ badN) : (gs dfs (n + 3)).dD n_forgetful [d, x] = .err 1 := by
  show endD (evSs (gs dfs (n + 2)) b_forgetful [.va d, .va x, .un, .un, .un, .un, .un]) = _
  simp [b_forgetful, rdV, x_within d h]
theorem y_forg1001 (x : D) : (gs dfs (n + 3)).dD n_forgetful [.int 1001, x] = .err 1 := by
  show endD (evSs (gs dfs (n + 2)) b_forgetful [.va (.int 1001), .va x, .un, .un, .un, .un, .un]) = _
  simp [b_forgetful, rdV]
def badT : List D := [.non, .tup [.str "a"], .lst [.int 1]]
theorem y_forgT (d : D) (h : d ∈ badT) : (gs dfs (n + 3)).dD n_forgetful [.int 1, d] = .err 1 := by
  show endD (evSs (gs dfs (n + 2)) b_forgetful [.va (.int 1), .va d, .un, .un, .un, .un, .un]) = _
  have b1t : ∀ b : Bool, b1 .all (.lst [.bl b]) = some (.bl (b && true)) := fun _ => rfl
  simp [badT] at h
  rcases h with rfl | rfl | rfl <;> simp [b_forgetful, rdL, rdV, isiD, compR_u, compL_c, evJ, wipeR, backR, b1t, fewI]
theorem y_in1 (d : D) (h : d ∈ badN) : (gs dfs (n + 3)).dD n_in_time [.int 0, .int 0, d] = .err 1 := by
  show endD (evSs (gs dfs (n + 2)) b_in_time [.va (.int 0), .va (.int 0), .va d]) = _
  simp [b_in_time, rdV, x_count d h]
theorem y_in2 : (gs dfs (n + 3)).dD n_in_time [.non, .int 0, .int 1] = .err 1 := by
  show endD (evSs (gs dfs (n + 2)) b_in_time [.va .non, .va (.int 0), .va (.int 1)]) = _
  simp [b_in_time, rdV]
theorem y_in3 : (gs dfs (n + 3)).dD n_in_time [.int 0, .bl true, .int 1] = .err 1 := by
  show endD (evSs (gs dfs (n + 2)) b_in_time [.va (.int 0), .va (.bl true), .va (.int 1)]) = _
  simp [b_in_time, rdV]
end
end Ev.W

end
section
set_option maxHeartbeats 4000000
namespace Ev.W
open PySem PySem.Spec PyProof.Rows L2 Ev
@[simp] theorem callM_1 (r : List D → List D → Cr (D × List D)) (ds xs : List D) (io : Bool) (s : Sl) (ρ : En) : Ev.callM 1 r ds (s :: .ow io xs :: ρ) = match r xs ds with | .ok (d, ys) => .ok d (s :: .ow io ys :: ρ) | _ => .bad := by
  unfold Ev.callM
  simp
  try (cases r xs ds <;> rfl)
@[simp] theorem rdO_1 (xs : List D) (io : Bool) (s : Sl) (ρ : En) : rdO (s :: .ow io xs :: ρ) 1 = .ok xs (s :: .ow io xs :: ρ) := (rfl)
theorem sm_ints (k : Nat) (ns : List Int) (h : ns.length ≤ 1000000) : sm (k + 1) (.lst (ns.map D.int)) := by
  refine ⟨by rw [List.length_map]; exact h, fun x hx => ?_⟩
  obtain ⟨i, _, rfl⟩ := List.mem_map.mp hx
  cases k <;> trivial
theorem sm_bls (k : Nat) (ns : List Bool) (h : ns.length ≤ 1000000) : sm (k + 1) (.lst (ns.map D.bl)) := by
  refine ⟨by rw [List.length_map]; exact h, fun x hx => ?_⟩
  obtain ⟨i, _, rfl⟩ := List.mem_map.mp hx
  cases k <;> trivial
theorem sm_gD (k : Nat) (z : Int) (ks : List Int) (h : ks.length ≤ 1000000) : sm (k + 2) (gD z ks) := by
  have sl := seen_len (z := z) (ks := ks)
  refine ⟨by simp, fun x hx => ?_⟩
  simp only [List.mem_cons, List.not_mem_nil, or_false] at hx
  rcases hx with rfl | rfl | rfl
  · trivial
  · trivial
  · refine ⟨by rw [List.length_map]; omega, fun y hy => ?_⟩
    obtain ⟨i, _, rfl⟩ := List.mem_map.mp hy
    cases k <;> trivial
theorem sm_l2 (k : Nat) (a b : D) (ha : sm k a) (hb : sm k b) : sm (k + 1) (.lst [a, b]) := by
  refine ⟨by simp, fun x hx => ?_⟩
  simp only [List.mem_cons, List.not_mem_nil, or_false] at hx
  rcases hx with rfl | rfl <;> assumption
theorem sm_t2 (k : Nat) (a b : D) (ha : sm k a) (hb : sm k b) : sm (k + 1) (.tup [a, b]) := by
  refine ⟨by simp, fun x hx => ?_⟩
  simp only [List.mem_cons, List.not_mem_nil, or_false] at hx
  rcases hx with rfl | rfl <;> assumption
theorem sm_b (k : Nat) (b : Bool) : sm k (.bl b) := by cases k <;> trivial
theorem sm_i (k : Nat) (b : Int) : sm k (.int b) := by cases k <;> trivial
theorem sameD (n k : Nat) (hk : k + 1 ≤ n + 8) (d e : D) (h : d = e) (hs : sm k d) : (gs dfs (n + 8)).dD n__law_same [d, e] = .ok (.bl true) := by
  subst h
  have := r_same k (n + 8 - k - 1) d hs
  rwa [show n + 8 - k - 1 + k + 1 = n + 8 by omega] at this
section
variable {n : Nat} {x0 x2 x3 x4 x13 x14 x24 x25 x26 : Sl}
theorem turnA (rest : Ss) (ns : List Int) (Q : Fl → En → Prop) (x4 x5 x6 x7 x8 x9 x10 x11 x12 x13 x15 x16 x17 x18 x19 x20 x21 x22 x23 : Sl) (h6 : Nt x6) (h7 : Nt x7) (h8 : Nt x8) (h9 : Nt x9) (h10 : Nt x10) (h15 : Nt x15) (h16 : Nt x16) (h17 : Nt x17) (h18 : Nt x18) (h19 : Nt x19)
    (hK : ∀ (ms : List Int) (x6 x7 x8 x9 x10 x15 x16 x17 x18 x19 : Sl), Nt x6 → Nt x7 → Nt x8 → Nt x9 → Nt x10 → Nt x15 → Nt x16 → Nt x17 → Nt x18 → Nt x19 → Wp (evSs (gs dfs (n + 8)) rest [x0, .ow false (.lst (ms.map D.int)), x2, x3, x4, x5, x6, x7, x8, x9, x10, x11, x12, x13, x14, x15, x16, x17, x18, x19, x20, x21, x22, x23, x24, x25, x26]) Q) :
    Wp (evSs (gs dfs (n + 8)) (.cons m1_l1_law <| .cons m2_l1_law <| .cons m3_l1_law <| .cons m4_l1_law <| .cons m5_l1_law <| .cons m6_l1_law <| .cons m7_l1_law <| .cons m8_l1_law <| .cons m9_l1_law <| .cons m10_l1_law rest) [x0, .ow false (.lst (ns.map D.int)), x2, x3, x4, x5, x6, x7, x8, x9, x10, x11, x12, x13, x14, x15, x16, x17, x18, x19, x20, x21, x22, x23, x24, x25, x26]) Q := by
  obtain ⟨z', n1, e1, z0, z1⟩ := r_takeX (n := n + 7) ns 6 (by omega)
  obtain ⟨xs, n2, e2, hx, hl⟩ := r_numbers (n := n + 5) n1
  obtain ⟨h', n3, e3, hh0, hh1⟩ := r_takeX (n := n + 7) n2 ((xs.length : Int) + 1) (by omega)
  obtain ⟨h, rfl⟩ := Int.eq_ofNat_of_zero_le hh0
  have hh : h ≤ xs.length := by omega
  obtain ⟨nb, n4, e4, nb0, nb1⟩ := r_takeX (n := n + 7) n3 30 (by omega)
  obtain ⟨z, hz⟩ : ∃ z, z = 1 + z' := ⟨_, rfl⟩
  have z2 : 1 ≤ z := by omega
  have z3 : z ≤ 1000 := by omega
  have g0 : D.tup [.int z, .int (-1), .tup []] = gD z [] := by
    have q1 : top_ [] = -1 := rfl
    have q2 : seen_ z [] = [] := by simp [seen_, sortZ]
    simp [gD, q1, q2]
  obtain ⟨tk, htk⟩ : ∃ tk, tk = xs.take h := ⟨_, rfl⟩
  obtain ⟨dk, hdk⟩ : ∃ dk, dk = xs.drop h := ⟨_, rfl⟩
  obtain ⟨tn, htn⟩ : ∃ tn, tn = tk ++ [nb] := ⟨_, rfl⟩
  have hxt : ∀ x ∈ tk, 0 ≤ x := fun x q => hx x (List.mem_of_mem_take (htk ▸ q))
  have hxd : ∀ x ∈ dk, 0 ≤ x := fun x q => hx x (List.mem_of_mem_drop (hdk ▸ q))
  have dl : dk.length = xs.length - h := by rw [hdk, List.length_drop]
  have kh := KOk.goP (z := z) (xs := tk) KOk.nil hxt
  have lt : tk.length = h := by rw [htk, List.length_take]; omega
  have l1 := goP_len2 z tk []
  rw [lt, List.length_nil] at l1
  have l2 := goP_len2 z xs []
  rw [List.length_nil] at l2
  have sp := goP_app z tk dk []
  rw [htk, hdk, List.take_append_drop, ← htk, ← hdk] at sp
  have sn := goP_app z tk [nb] []
  rw [← htn] at sn
  have la := goP_len z tk []
  rw [lt] at la
  have q1 := r_law_passed (n := n + 7) z xs (by omega)
  have q2 := r_new_gate (n := n + 4) z z2 z3
  have q3 := r_passed (n := n + 2) z [] xs z2 z3 KOk.nil hx (by simp; omega)
  have q4 := r_law_gate (n := n + 7) z (goP z [] xs).2 (by omega)
  have q5 := r_law_passed (n := n + 7) z tk (by omega)
  have q6 := r_law_gate (n := n + 7) z (goP z [] tk).2 (by omega)
  have q7 := r_is_gate (n := n + 4) z (goP z [] tk).2 z2 z3 kh (by omega)
  have q8 := r_passed (n := n + 2) z (goP z [] tk).2 dk z2 z3 kh hxd (by omega)
  have q9 := r_law_passed (n := n + 7) z tn (by rw [htn]; simp; omega)
  have q10 := r_let_through (n := n + 2) z (goP z [] tk).2 nb z2 z3 kh (by omega) nb0
  have q11 := r_law_gate (n := n + 7) z (goP z [] tn).2 (by have := goP_len2 z tn []; rw [htn] at this ⊢; simp at this; omega)
  have s1 : slD (.lst (xs.map D.int)) none (some (h : Int)) = some (.lst (tk.map D.int)) := by
    show some (D.lst (cutD _ _ _)) = _
    rw [cutD_to, htk, List.map_take]
  have s2 : slD (.lst (xs.map D.int)) (some (h : Int)) none = some (.lst (dk.map D.int)) := by
    show some (D.lst (cutD _ _ _)) = _
    rw [cutD_from, hdk, List.map_drop]
  have s3 : slD (.lst ((goP z [] xs).1.map D.bl)) (some (h : Int)) none = some (.lst ((goP z (goP z [] tk).2 dk).1.map D.bl)) := by
    show some (D.lst (cutD _ _ _)) = _
    rw [cutD_from, ← List.map_drop, sp, List.drop_left' la]
  have i1 : ∀ a b : D, ixD (.tup [a, b]) (.int 1) = some b := fun _ _ => rfl
  have ct : op2 .Add (.lst (tk.map D.int)) (.lst [.int nb]) = some (.lst (tn.map D.int)) := by
    rw [op_cat _ _ (by rw [List.length_map, lt]; simp; omega), htn, List.map_append]
    rfl
  have il : ixD (.lst ((goP z [] tn).1.map D.bl)) (.int (-1)) = some (.bl (fine z (goP z [] tk).2 nb)) := by
    rw [sn, List.map_append]
    exact ixD_last _ _
  have stl : (stp z (goP z [] tk).2 nb).length ≤ (goP z [] tk).2.length + 1 := by
    unfold stp
    split <;> simp
  have m1 : (gs dfs (n + 8)).dD n__law_same [.lst [gD z [], .tup [.lst ((goP z [] xs).1.map D.bl), gD z (goP z [] xs).2]], .lst [gD z [], .tup [.lst ((goP z [] xs).1.map D.bl), gD z (goP z [] xs).2]]] = .ok (.bl true) :=
    sameD n 4 (by omega) _ _ rfl (sm_l2 3 _ _ (sm_gD 1 z _ (by simp)) (sm_t2 2 _ _ (sm_bls 1 _ (by rw [goP_len]; omega)) (sm_gD 0 z _ (by omega))))
  have m2 : (gs dfs (n + 8)).dD n__law_same [.lst [.bl true, .tup [.lst ((goP z (goP z [] tk).2 dk).1.map D.bl), gD z (goP z (goP z [] tk).2 dk).2]], .lst [.bl true, .tup [.lst ((goP z (goP z [] tk).2 dk).1.map D.bl), gD z (goP z [] xs).2]]] = .ok (.bl true) :=
    sameD n 4 (by omega) _ _ (by rw [sp]) (sm_l2 3 _ _ (sm_b 3 _) (sm_t2 2 _ _ (sm_bls 1 _ (by rw [goP_len]; omega)) (sm_gD 0 z _ (by rw [sp] at l2; exact Nat.le_trans l2 (by omega)))))
  have m3 : (gs dfs (n + 8)).dD n__law_same [.tup [.bl (fine z (goP z [] tk).2 nb), gD z (stp z (goP z [] tk).2 nb)], .tup [.bl (fine z (goP z [] tk).2 nb), gD z (goP z [] tn).2]] = .ok (.bl true) :=
    sameD n 3 (by omega) _ _ (by rw [sn]; rfl) (sm_t2 2 _ _ (sm_b 2 _) (sm_gD 0 z _ (by omega)))
  simp [m1_l1_law, e1, e2, h15, h16]
  rw [← hz]
  simp [m2_l1_law, rdV, q1, h17, h18, m3_l1_law, told_3, q2, h7]
  simp [m4_l1_law, rdV, rdL, told_5, q3, q4, g0, m1]
  simp [m5_l1_law, rdL, e3, h8]
  simp [m6_l1_law, rdV, rdL, partD, s1, q5, i1, q6, h9]
  simp [m7_l1_law, rdV, rdL, partD, told_0, q7, told_5, s2, q8, s3, q4, m2]
  simp [m8_l1_law, e4, h10]
  simp [m9_l1_law, rdV, rdL, partD, s1, ct, q9, h6, h19]
  simp [m10_l1_law, rdV, rdL, told_4, q10, il, q11, m3]
  exact hK n4 _ _ _ _ _ _ _ _ _ _ (nt_va _) (nt_va _) (nt_va _) (nt_va _) (nt_va _) (nt_va _) (nt_va _) (nt_va _) (nt_va _) (nt_va _)
theorem turnC (rest : Ss) (ns : List Int) (Q : Fl → En → Prop) (x4 x5 x6 x7 x8 x9 x10 x11 x12 x13 x15 x16 x17 x18 x19 x20 x21 x22 x23 : Sl) (h5 : Nt x5) (h6 : Nt x6) (h20 : Nt x20) (h21 : Nt x21) (h22 : Nt x22)
    (hK : ∀ (ms : List Int) (x5 x6 x20 x21 x22 : Sl), Nt x5 → Nt x6 → Nt x20 → Nt x21 → Nt x22 → Wp (evSs (gs dfs (n + 8)) rest [x0, .ow false (.lst (ms.map D.int)), x2, x3, x4, x5, x6, x7, x8, x9, x10, x11, x12, x13, x14, x15, x16, x17, x18, x19, x20, x21, x22, x23, x24, x25, x26]) Q) :
    Wp (evSs (gs dfs (n + 8)) (.cons m16_l1_law <| .cons m17_l1_law <| .cons m18_l1_law <| .cons m19_l1_law <| .cons m20_l1_law rest) [x0, .ow false (.lst (ns.map D.int)), x2, x3, x4, x5, x6, x7, x8, x9, x10, x11, x12, x13, x14, x15, x16, x17, x18, x19, x20, x21, x22, x23, x24, x25, x26]) Q := by
  obtain ⟨sl, n1, e1, s0, s1⟩ := r_takeX (n := n + 7) ns 5 (by omega)
  obtain ⟨ws, n2, e2, hp, hl, hw⟩ := r_words (n := n + 5) n1
  have q1 := r_law_timely (n := n + 7) sl ws (by omega)
  have q2 := r_timely (n := n + 3) sl ws s0 hp (by omega)
  have q3 := r_most_kept (n := n + 3) sl ws s0 hp (by omega)
  have bl := boolL_len sl ws []
  obtain ⟨best, q4, b1', b2, b3⟩ := r_law_most (n := n + 7) sl ws (boolL sl [] ws) bl (by omega) hw
  have eb := best_is hp b1' b2 b3
  obtain ⟨s', n3, e3, t0, t1⟩ := r_takeX (n := n + 7) n2 20 (by omega)
  obtain ⟨t', n4, e4, t2, t3⟩ := r_takeX (n := n + 7) n3 20 (by omega)
  have m1 : (gs dfs (n + 8)).dD n__law_same [.lst [.lst ((boolL sl [] ws).map D.bl), .int ((manyL sl [] ws).foldl max 0)], .lst [.lst ((boolL sl [] ws).map D.bl), .int best]] = .ok (.bl true) :=
    sameD n 2 (by omega) _ _ (by rw [eb]) (sm_l2 1 _ _ (sm_bls 0 _ (by omega)) (sm_i 1 _))
  have q5 := r_in_time (n := n + 4) (s' - 10) (t' - 10) sl s0
  have tm : (decide (t' - 10 - sl ≤ s' - 10) && decide (s' - 10 ≤ t' - 10 + sl)) = decide ((if s' - 10 - (t' - 10) < 0 then -(s' - 10 - (t' - 10)) else s' - 10 - (t' - 10)) ≤ sl) := by
    rw [Bool.eq_iff_iff]
    simp only [Bool.and_eq_true, decide_eq_true_eq]
    split <;> omega
  rw [tm] at q5
  have m2 : ∀ b : Bool, (gs dfs (n + 8)).dD n__law_same [.bl b, .bl b] = .ok (.bl true) := fun b => sameD n 0 (by omega) _ _ rfl (sm_b 0 b)
  simp [m16_l1_law, e1, e2, h20, h5]
  simp [m17_l1_law, rdV, q1, h6]
  simp [m18_l1_law, rdV, rdL, told_6, q2, told_7, q3, q4, m1]
  simp [m19_l1_law, e3, e4, h21, h22]
  simp [m20_l1_law, rdV, told_9, q5, m2]
  exact hK n4 _ _ _ _ _ (nt_va _) (nt_va _) (nt_va _) (nt_va _) (nt_va _)
theorem turnD (rest : Ss) (ns : List Int) (Q : Fl → En → Prop) (x4 x5 x6 x7 x8 x9 x10 x11 x12 x13 x15 x16 x17 x18 x19 x20 x21 x22 x23 : Sl) (h4 : Nt x4) (h23 : Nt x23)
    (hK : ∀ (ms : List Int) (x4 x23 : Sl), Nt x4 → Nt x23 → Wp (evSs (gs dfs (n + 8)) rest [x0, .ow false (.lst (ms.map D.int)), x2, x3, x4, x5, x6, x7, x8, x9, x10, x11, x12, x13, x14, x15, x16, x17, x18, x19, x20, x21, x22, x23, x24, x25, x26]) Q) :
    Wp (evSs (gs dfs (n + 8)) (.cons m21_l1_law <| .cons m22_l1_law rest) [x0, .ow false (.lst (ns.map D.int)), x2, x3, x4, x5, x6, x7, x8, x9, x10, x11, x12, x13, x14, x15, x16, x17, x18, x19, x20, x21, x22, x23, x24, x25, x26]) Q := by
  obtain ⟨k', n1, e1, k0, k1⟩ := r_takeX (n := n + 7) ns 5 (by omega)
  obtain ⟨k, rfl⟩ := Int.eq_ofNat_of_zero_le k0
  obtain ⟨m', n2, e2, m0, m1⟩ := r_takeX (n := n + 7) n1 15 (by omega)
  obtain ⟨m, rfl⟩ := Int.eq_ofNat_of_zero_le m0
  simp [m21_l1_law, e1]
  refine wp_comp (f := fun j : Nat => D.int (j : Int)) (xs := List.range m) (ρ1 := [x0, .ow false (.lst (n2.map D.int)), x2, x3, x4, x5, x6, x7, x8, x9, x10, x11, x12, x13, x14, x15, x16, x17, x18, x19, x20, x21, x22, x23, x24, x25, x26])
    (fun ds us ρ => ∃ (ms : List Int) (row : List Str), ρ = [x0, .ow false (.lst (ms.map D.int)), x2, x3, x4, x5, x6, x7, x8, x9, x10, x11, x12, x13, x14, x15, x16, x17, x18, x19, x20, x21, x22, .un, x24, x25, x26] ∧ ds = row.map D.str ∧ ds.length + us.length = m) ?_ ⟨n2, [], rfl, rfl, by simp⟩ ?_ ?_
  · simp [evJ, rdL, e2, rng1n m (by omega)]
    rw [few_ok _ _ (by rw [nums_len]; omega), nums0]
  · rintro J hJ ds j us ρ ⟨ms, row, rfl, rfl, hl⟩
    obtain ⟨d, n3, e3, hd⟩ := r_pickX (n := n + 6) ms [.str "a", .str "b", .str "c", .str "d"] (by simp) (by simp)
    obtain ⟨x, rfl⟩ : ∃ x, d = .str x := by
      simp only [List.mem_cons, List.not_mem_nil, or_false] at hd
      rcases hd with rfl | rfl | rfl | rfl <;> exact ⟨_, rfl⟩
    rw [List.length_cons] at hl
    simp [e3, wipeR]
    exact hJ _ _ _ ⟨n3, row ++ [x], rfl, by simp, by simp at hl ⊢; omega⟩
  rintro ds ρ ⟨ms, row, rfl, rfl, hl⟩
  simp at hl
  have q1 := r_forgetful (n := n + 4) k row (by omega) (by omega)
  have q2 := r_law_forgetful (n := n + 7) k row (by omega) (by omega)
  have fl : ∀ (ws th : List Str), (fgL k th ws).length = ws.length := by
    intro ws
    induction ws with
    | nil => intro _; rfl
    | cons w ws ih => intro th; simp [fgL, ih]
  have m1 : (gs dfs (n + 8)).dD n__law_same [.lst ((fgL k [] row).map D.bl), .lst ((fgL k [] row).map D.bl)] = .ok (.bl true) :=
    sameD n 1 (by omega) _ _ rfl (sm_bls 0 _ (by rw [fl]; omega))
  cases x23 with
  | un =>
    simp [backR, h4]
    simp [m22_l1_law, rdV, rdL, told_8, q1, q2, m1]
    exact hK ms _ _ (nt_va _) (nt_va _)
  | va d =>
    simp [backR, h4]
    simp [m22_l1_law, rdV, rdL, told_8, q1, q2, m1]
    exact hK ms _ _ (nt_va _) (nt_va _)
  | ow io b =>
    simp [backR, h4]
    simp [m22_l1_law, rdV, rdL, told_8, q1, q2, m1]
    exact hK ms _ _ (nt_va _) (nt_va _)
end
end Ev.W

end
section
set_option maxHeartbeats 4000000
namespace Ev.W
open PySem PySem.Spec PyProof.Rows L2 Ev
def toI : D → Int
  | .int i => i
  | _ => 0
theorem ints_of_perm {ys : List D} {zs : List Int} (h : ys.Perm (zs.map D.int)) : ∃ us : List Int, ys = us.map D.int ∧ us.Perm zs := by
  refine ⟨ys.map toI, ?_, ?_⟩
  · rw [List.map_map]
    have : ∀ l : List D, (∀ y ∈ l, y ∈ zs.map D.int) → l = l.map (D.int ∘ toI) := by
      intro l
      induction l with
      | nil => intro _; rfl
      | cons y l ih =>
        intro hm
        obtain ⟨i, _, rfl⟩ := List.mem_map.mp (hm y List.mem_cons_self)
        rw [List.map_cons, ← ih fun u hu => hm u (List.mem_cons_of_mem _ hu)]
        rfl
    exact this ys fun y hy => h.mem_iff.mp hy
  · have := h.map toI
    rw [List.map_map] at this
    have e : (toI ∘ D.int) = id := rfl
    rw [e, List.map_id] at this
    exact this
/-- what some must be -/
structure SOk (vs : List Int) : Prop where
  nd : vs.Nodup
  b : ∀ v ∈ vs, 0 ≤ v ∧ v ≤ 16
  l : vs.length ≤ 8
theorem SOk.dbl {vs : List Int} (nd : vs.Nodup) (b : ∀ v ∈ vs, 0 ≤ v ∧ v ≤ 8) (l : vs.length ≤ 8) : SOk (vs.map fun v => 2 * v) := by
  refine ⟨?_, fun v hv => ?_, by rw [List.length_map]; exact l⟩
  · rw [List.Nodup, List.pairwise_map]
    exact nd.imp fun h e => h (by omega)
  · obtain ⟨u, hu, rfl⟩ := List.mem_map.mp hv
    have := b u hu
    omega
theorem lsz_ok {vs : List Int} (h : SOk vs) : 1 ≤ lsz vs ∧ lsz vs ≤ 29 := by
  unfold lsz
  obtain ⟨m1, m2, m3⟩ := foldmax (lates (-1) vs) 0
  rcases m1 with m1 | m1
  · omega
  · have := lates_le (B := 16) vs (-1) (by omega) h.b (by omega) _ m1
    omega
section
variable {n : Nat} {x0 x2 x3 x14 : Sl}
theorem turnB1 (rest : Ss) (ns : List Int) (Q : Fl → En → Prop) (x4 x5 x6 x7 x8 x9 x10 x11 x12 x13 x15 x16 x17 x18 x19 x20 x21 x22 x23 : Sl) (h11 : Nt x11)
    (hK : ∀ (ms vs : List Int), SOk vs → Wp (evSs (gs dfs (n + 8)) rest [x0, .ow false (.lst (ms.map D.int)), x2, x3, x4, x5, x6, x7, x8, x9, x10, .va (.lst (vs.map D.int)), x12, x13, x14, x15, x16, x17, x18, x19, x20, x21, x22, x23, .un, .un, .un]) Q) :
    Wp (evSs (gs dfs (n + 8)) (.cons m11_l1_law <| .cons m12_l1_law rest) [x0, .ow false (.lst (ns.map D.int)), x2, x3, x4, x5, x6, x7, x8, x9, x10, x11, x12, x13, x14, x15, x16, x17, x18, x19, x20, x21, x22, x23, .un, .un, .un]) Q := by
  obtain ⟨m', n1, e1, m0, m1⟩ := r_takeX (n := n + 7) ns 9 (by omega)
  obtain ⟨m, rfl⟩ := Int.eq_ofNat_of_zero_le m0
  obtain ⟨ys, n2, e2, hp⟩ := r_mixed (n := n + 6) n1 ((List.range m).map fun (k : Nat) => D.int (0 + (k : Int))) (by simp; omega)
  have hp2 : ys.Perm (((List.range m).map fun (k : Nat) => (0 : Int) + (k : Int)).map D.int) := by
    rw [List.map_map]
    exact hp
  obtain ⟨us, rfl, hu⟩ := ints_of_perm hp2
  have und : us.Nodup := hu.nodup_iff.mpr (by
    rw [List.Nodup, List.pairwise_map]
    exact List.nodup_range.imp fun h e => h (by omega))
  have ub : ∀ v ∈ us, 0 ≤ v ∧ v ≤ 8 := fun v hv => by
    obtain ⟨k, hk, rfl⟩ := List.mem_map.mp (hu.mem_iff.mp hv)
    have := List.mem_range.mp hk
    omega
  have ul : us.length ≤ 8 := by
    have := hu.length_eq
    rw [List.length_map, List.length_range] at this
    omega
  obtain ⟨c, n3, e3, c0, c1⟩ := r_takeX (n := n + 7) n2 3 (by omega)
  have rg : rgL [.int (m : Int)] = some ((List.range m).map fun (k : Nat) => D.int (0 + (k : Int))) := by
    show (if 0 ≤ (m : Int) ∧ (m : Int) ≤ 16777216 then some ((List.range (m : Int).toNat).map fun (k : Nat) => D.int (0 + (k : Int))) else none) = _
    rw [if_pos ⟨by omega, by omega⟩, Int.toNat_natCast]
  simp only [Int.zero_add] at rg e2
  have h8 : n + 6 + 2 = n + 8 := by omega
  rw [h8] at e2
  simp [m11_l1_law, e1, rg, e2, h11]
  by_cases hc : c = 0
  · simp [m12_l1_law, e3, hc]
    refine wp_comp (f := D.int) (xs := us) (ρ1 := [x0, .ow false (.lst (n3.map D.int)), x2, x3, x4, x5, x6, x7, x8, x9, x10, .va (.lst (us.map D.int)), x12, x13, x14, x15, x16, x17, x18, x19, x20, x21, x22, x23, .un, .un, .un]) (fun ds ws ρ => ρ = [x0, .ow false (.lst (n3.map D.int)), x2, x3, x4, x5, x6, x7, x8, x9, x10, .va (.lst (us.map D.int)), x12, x13, x14, x15, x16, x17, x18, x19, x20, x21, x22, x23, .un, .un, .un] ∧ ds ++ ws.map (fun w => D.int (2 * w)) = (us.map fun w => 2 * w).map D.int) ?_ ⟨rfl, by simp⟩ ?_ ?_
    · simp [evJ, rdV]
      rw [fewI, if_pos (by simp; omega)]
    · rintro J hJ ds w ws ρ ⟨rfl, hd⟩
      simp [rdV, op_mul 2 w (mulOk_l _ _ ⟨by omega, by omega⟩), wipeR]
      exact hJ _ _ _ ⟨rfl, by rw [← hd]; simp⟩
    rintro ds ρ ⟨rfl, hd⟩
    simp only [List.map_nil, List.append_nil] at hd
    subst hd
    have fin := hK n3 (us.map fun w => 2 * w) (SOk.dbl und ub ul)
    simp [backR]
    simpa using fin
  · have fin := hK n3 us ⟨und, fun v hv => by have := ub v hv; omega, ul⟩
    simp [m12_l1_law, e3, hc, rdV]
    simpa using fin
theorem turnB2 (rest : Ss) (ms vs : List Int) (hs : SOk vs) (Q : Fl → En → Prop) (x4 x5 x6 x7 x8 x9 x10 x12 x13 x15 x16 x17 x18 x19 x20 x21 x22 x23 : Sl) (h12 : Nt x12)
    (hK : ∀ (x23 : Sl), Nt x23 → Wp (evSs (gs dfs (n + 8)) rest [x0, .ow false (.lst (ms.map D.int)), x2, x3, x4, x5, x6, x7, x8, x9, x10, .va (.lst (vs.map D.int)), .va (.lst ((lates (-1) vs).map D.int)), x13, x14, x15, x16, x17, x18, x19, x20, x21, x22, x23, .un, .un, .un]) Q) :
    Wp (evSs (gs dfs (n + 8)) (.cons m13_l1_law rest) [x0, .ow false (.lst (ms.map D.int)), x2, x3, x4, x5, x6, x7, x8, x9, x10, .va (.lst (vs.map D.int)), x12, x13, x14, x15, x16, x17, x18, x19, x20, x21, x22, x23, .un, .un, .un]) Q := by
  have vl := hs.l
  simp [m13_l1_law]
  refine wp_comp (f := fun j : Nat => D.int (j : Int)) (xs := List.range vs.length) (ρ1 := [x0, .ow false (.lst (ms.map D.int)), x2, x3, x4, x5, x6, x7, x8, x9, x10, .va (.lst (vs.map D.int)), x12, x13, x14, x15, x16, x17, x18, x19, x20, x21, x22, x23, .un, .un, .un])
    (fun ds us ρ => ρ = [x0, .ow false (.lst (ms.map D.int)), x2, x3, x4, x5, x6, x7, x8, x9, x10, .va (.lst (vs.map D.int)), x12, x13, x14, x15, x16, x17, x18, x19, x20, x21, x22, .un, .un, .un, .un] ∧ ds ++ us.map (fun k => D.int (max 0 ((vs.take k).foldl max (-1) - vs.getD k 0))) = (lates (-1) vs).map D.int ∧ ∀ u ∈ us, u < vs.length) ?_ ⟨rfl, ?_, fun u hu => List.mem_range.mp hu⟩ ?_ ?_
  · simp [evJ, rdL, rng1n vs.length (by omega)]
    rw [few_ok _ _ (by rw [nums_len]; omega), nums0]
  · rw [lates_is, List.map_map]
    rfl
  · rintro J hJ ds j us ρ ⟨rfl, hd, hu⟩
    have hj := hu j List.mem_cons_self
    obtain ⟨v, hv⟩ : ∃ v, v = vs[j] := ⟨_, rfl⟩
    have gv : vs[j]? = some v := by rw [List.getElem?_eq_getElem hj, hv]
    have gd : vs.getD j 0 = v := by rw [List.getD_eq_getElem?_getD, gv]; rfl
    have v0 : 0 ≤ v := (hs.b v (List.mem_of_getElem? gv)).1
    obtain ⟨tj, htj⟩ : ∃ tj, tj = vs.take j := ⟨_, rfl⟩
    have tl : tj.length ≤ 8 := by rw [htj, List.length_take]; omega
    have sl : slD (.lst (vs.map D.int)) none (some (j : Int)) = some (.lst (tj.map D.int)) := by
      show some (D.lst (cutD _ _ _)) = _
      rw [cutD_to, htj, List.map_take]
    have ix : ixD (.lst (vs.map D.int)) (.int (j : Int)) = some (.int v) := ixD_ls _ _ _ (by rw [List.getElem?_map, gv]; rfl)
    simp [rdV, rdL]
    refine wp_comp (f := D.int) (xs := tj) (ρ1 := [x0, .ow false (.lst (ms.map D.int)), x2, x3, x4, x5, x6, x7, x8, x9, x10, .va (.lst (vs.map D.int)), x12, x13, x14, x15, x16, x17, x18, x19, x20, x21, x22, .va (.int (j : Int)), .un, .un, .un]) (fun ds ws ρ => ρ = [x0, .ow false (.lst (ms.map D.int)), x2, x3, x4, x5, x6, x7, x8, x9, x10, .va (.lst (vs.map D.int)), x12, x13, x14, x15, x16, x17, x18, x19, x20, x21, x22, .va (.int (j : Int)), .un, .un, .un] ∧ ds ++ ws.map (fun w => D.int (w - v)) = (tj.map fun w => w - v).map D.int) ?_ ⟨rfl, by simp⟩ ?_ ?_
    · simp [evJ, rdV, rdL, partD, sl]
      rw [fewI, if_pos (by simp; omega)]
    · rintro J2 hJ2 ds2 w ws ρ ⟨rfl, hd2⟩
      simp [rdV, rdL, ix, wipeR]
      exact hJ2 _ _ _ ⟨rfl, by rw [← hd2]; simp⟩
    rintro ds2 ρ ⟨rfl, hd2⟩
    simp only [List.map_nil, List.append_nil] at hd2
    subst hd2
    have ct : op2 .Add (.lst [.int 0]) (.lst ((tj.map fun w => w - v).map D.int)) = some (.lst (.int 0 :: (tj.map fun w => w - v).map D.int)) := op_cat _ _ (by simp; omega)
    have mx : b1 .max (.lst (.int 0 :: (tj.map fun w => w - v).map D.int)) = some (.int (max 0 (tj.foldl max (-1) - v))) := by
      rw [← fold_sub0 v v0 tj]
      exact b1_maxI (0 :: tj.map fun w => w - v)
    simp only [List.map_map] at ct mx
    simp [backR, ct, mx, wipeR]
    rw [List.map_cons, gd, ← htj] at hd
    refine hJ _ _ _ ⟨rfl, by rw [← hd]; simp, fun u q => hu u (List.mem_cons_of_mem _ q)⟩
  rintro ds ρ ⟨rfl, hd, _⟩
  simp only [List.map_nil, List.append_nil] at hd
  subst hd
  cases x23 with
  | un =>
    simp [backR, h12]
    exact hK _ nt_un
  | va d =>
    simp [backR, h12]
    exact hK _ (nt_va _)
  | ow io b =>
    simp [backR, h12]
    exact hK _ nt_un
theorem turnB3 (rest : Ss) (ms vs : List Int) (hs : SOk vs) (Q : Fl → En → Prop) (x4 x5 x6 x7 x8 x9 x10 x13 x15 x16 x17 x18 x19 x20 x21 x22 x23 : Sl) (h13 : Nt x13)
    (hK : ∀ (x13 : Sl), Nt x13 → Wp (evSs (gs dfs (n + 8)) rest [x0, .ow false (.lst (ms.map D.int)), x2, x3, x4, x5, x6, x7, x8, x9, x10, .va (.lst (vs.map D.int)), .va (.lst ((lates (-1) vs).map D.int)), x13, x14, x15, x16, x17, x18, x19, x20, x21, x22, x23, .un, .un, .un]) Q) :
    Wp (evSs (gs dfs (n + 8)) (.cons m14_l1_law <| .cons m15_l1_law rest) [x0, .ow false (.lst (ms.map D.int)), x2, x3, x4, x5, x6, x7, x8, x9, x10, .va (.lst (vs.map D.int)), .va (.lst ((lates (-1) vs).map D.int)), x13, x14, x15, x16, x17, x18, x19, x20, x21, x22, x23, .un, .un, .un]) Q := by
  have vl := hs.l
  obtain ⟨z1, z2⟩ := lsz_ok hs
  have h0 : ∀ x ∈ vs, 0 ≤ x := fun x hx => (hs.b x hx).1
  simp [m14_l1_law]
  refine wp_comp (f := fun j : Nat => D.int (1 + (j : Int))) (xs := List.range 29) (ρ1 := [x0, .ow false (.lst (ms.map D.int)), x2, x3, x4, x5, x6, x7, x8, x9, x10, .va (.lst (vs.map D.int)), .va (.lst ((lates (-1) vs).map D.int)), x13, x14, x15, x16, x17, x18, x19, x20, x21, x22, x23, .un, .un, .un])
    (fun ds us ρ => ρ = [x0, .ow false (.lst (ms.map D.int)), x2, x3, x4, x5, x6, x7, x8, x9, x10, .va (.lst (vs.map D.int)), .va (.lst ((lates (-1) vs).map D.int)), x13, x14, x15, x16, x17, x18, x19, x20, x21, x22, x23, .un, .un, .un] ∧ ∃ k : Nat, us = (List.range 29).drop k ∧ k ≤ 29 ∧ ((k : Int) < lsz vs → ds = []) ∧ (lsz vs ≤ (k : Int) → ds[0]? = some (.int (lsz vs)))) ?_ ⟨rfl, 0, rfl, by omega, fun _ => rfl, fun h => by omega⟩ ?_ ?_
  · simp [evJ, rng_2 1 30 ⟨by omega, by omega, by omega, by omega⟩]
    rfl
  · rintro J hJ ds j us ρ ⟨rfl, k, hk, k1, d1, d2⟩
    have k2 : k < 29 := by
      have := congrArg List.length hk
      rw [List.length_drop, List.length_range, List.length_cons] at this
      omega
    have hd := List.drop_eq_getElem_cons (l := List.range 29) (i := k) (by rw [List.length_range]; exact k2)
    rw [hd, List.getElem_range] at hk
    obtain ⟨rfl, rfl⟩ := List.cons.inj hk
    have q := r_law_passed (n := n + 7) (1 + (j : Int)) vs (by omega)
    have i0 : ∀ a b : D, ixD (.tup [a, b]) (.int 0) = some a := fun _ _ => rfl
    have iff := lsz_is (1 + (j : Int)) vs (by omega) hs.nd
    cases hb : (goP (1 + (j : Int)) [] vs).1.all id with
    | true =>
      have le := iff.mp hb
      simp [rdV, q, i0, cmp_ninB, hb, wipeR]
      refine hJ _ _ _ ⟨rfl, j + 1, rfl, by omega, fun h => by omega, fun h => ?_⟩
      by_cases c : lsz vs ≤ (j : Int)
      · have := d2 c
        rw [List.getElem?_append_left (by
          by_cases e : ds = []
          · subst e; cases this
          · exact List.length_pos_iff.mpr e)]
        exact this
      · rw [d1 (by omega)]
        show some (D.int (1 + (j : Int))) = _
        rw [show lsz vs = 1 + (j : Int) by omega]
    | false =>
      have nle : ¬ lsz vs ≤ 1 + (j : Int) := fun h => by
        have := iff.mpr h
        rw [hb] at this
        cases this
      simp [rdV, q, i0, cmp_ninB, hb, wipeR]
      exact hJ _ _ _ ⟨rfl, j + 1, rfl, by omega, fun h => d1 (by omega), fun h => by omega⟩
  rintro ds ρ ⟨rfl, k, hk, k1, d1, d2⟩
  have k2 : k = 29 := by
    have := congrArg List.length hk
    rw [List.length_drop, List.length_range, List.length_nil] at this
    omega
  have ix : ixD (.lst ds) (.int 0) = some (.int (lsz vs)) := ixD_ls ds 0 _ (d2 (by omega))
  have q1 := r_lateness (n := n + 3) vs hs.nd h0 (by omega)
  have q2 := r_least_size (n := n + 2) vs hs.nd h0 (by omega)
  have m1 : (gs dfs (n + 8)).dD n__law_same [.lst [.lst ((lates (-1) vs).map D.int), .int (lsz vs)], .lst [.lst ((lates (-1) vs).map D.int), .int (lsz vs)]] = .ok (.bl true) :=
    sameD n 2 (by omega) _ _ rfl (sm_l2 1 _ _ (sm_ints 0 _ (by rw [lates_len]; omega)) (sm_i 1 _))
  simp [backR, ix, h13]
  simp [m15_l1_law, rdV, rdL, told_1, q1, told_2, q2, m1]
  exact hK _ (nt_va _)
end
end Ev.W

end
section
set_option maxHeartbeats 4000000
namespace Ev.W
open PySem PySem.Spec PyProof.Rows L2 Ev
section
variable {n : Nat} {x0 x2 x3 x14 : Sl}
theorem turn_ok (ns : List Int) (Q : Fl → En → Prop) (x4 x5 x6 x7 x8 x9 x10 x11 x12 x13 x15 x16 x17 x18 x19 x20 x21 x22 x23 : Sl)
    (h4 : Nt x4) (h5 : Nt x5) (h6 : Nt x6) (h7 : Nt x7) (h8 : Nt x8) (h9 : Nt x9) (h10 : Nt x10) (h11 : Nt x11) (h12 : Nt x12) (h13 : Nt x13) (h15 : Nt x15) (h16 : Nt x16) (h17 : Nt x17) (h18 : Nt x18) (h19 : Nt x19) (h20 : Nt x20) (h21 : Nt x21) (h22 : Nt x22) (h23 : Nt x23)
    (hK : ∀ (ms : List Int) (x4 x5 x6 x7 x8 x9 x10 x11 x12 x13 x15 x16 x17 x18 x19 x20 x21 x22 x23 : Sl), Nt x4 → Nt x5 → Nt x6 → Nt x7 → Nt x8 → Nt x9 → Nt x10 → Nt x11 → Nt x12 → Nt x13 → Nt x15 → Nt x16 → Nt x17 → Nt x18 → Nt x19 → Nt x20 → Nt x21 → Nt x22 → Nt x23 →
      Q .nx [x0, .ow false (.lst (ms.map D.int)), x2, x3, x4, x5, x6, x7, x8, x9, x10, x11, x12, x13, x14, x15, x16, x17, x18, x19, x20, x21, x22, x23, .un, .un, .un]) :
    Wp (evSs (gs dfs (n + 8)) l1_law [x0, .ow false (.lst (ns.map D.int)), x2, x3, x4, x5, x6, x7, x8, x9, x10, x11, x12, x13, x14, x15, x16, x17, x18, x19, x20, x21, x22, x23, .un, .un, .un]) Q := by
  unfold l1_law
  refine turnA _ ns Q _ _ _ _ _ _ _ _ _ _ _ _ _ _ _ _ _ _ _ h6 h7 h8 h9 h10 h15 h16 h17 h18 h19 ?_
  intro ms x6 x7 x8 x9 x10 x15 x16 x17 x18 x19 h6 h7 h8 h9 h10 h15 h16 h17 h18 h19
  refine turnB1 _ ms Q _ _ _ _ _ _ _ _ _ _ _ _ _ _ _ _ _ _ _ h11 ?_
  intro ms vs hs
  refine turnB2 _ ms vs hs Q _ _ _ _ _ _ _ _ _ _ _ _ _ _ _ _ _ _ h12 ?_
  intro x23 h23
  refine turnB3 _ ms vs hs Q _ _ _ _ _ _ _ _ _ _ _ _ _ _ _ _ _ h13 ?_
  intro x13 h13
  refine turnC _ ms Q _ _ _ _ _ _ _ _ _ _ _ _ _ _ _ _ _ _ _ h5 h6 h20 h21 h22 ?_
  intro ms x5 x6 x20 x21 x22 h5 h6 h20 h21 h22
  refine turnD _ ms Q _ _ _ _ _ _ _ _ _ _ _ _ _ _ _ _ _ _ _ h4 h23 ?_
  intro ms x4 x23 h4 h23
  simp
  exact hK ms _ _ _ _ _ _ _ _ _ _ _ _ _ _ _ _ _ _ _ h4 h5 h6 h7 h8 h9 h10 (nt_va _) (nt_va _) h13 h15 h16 h17 h18 h19 h20 h21 h22 h23
end
theorem cmp_eqS22 : cmpD .Eq (.lst (List.replicate 22 (.str "not right"))) (.lst (List.replicate 22 (.str "not right"))) = some true := by rfl
theorem law_gen (n : Nat) (ns : List Int) (hl : ns.length ≤ 63) : (gs dfs (n + 9)).dD n_law [.scr ns] = .ok (.bl true) := by
  show endD (evSs (gs dfs (n + 8)) b_law ([.va (.scr ns)] ++ List.replicate 26 .un)) = _
  obtain ⟨n1, e1⟩ := r_draws (n := n + 7) ns hl
  refine endD_wp ?_
  simp [b_law, m1_law, rdV, e1, m2_law, rng_1 5 ⟨by omega, by omega⟩]
  refine wp_forN (fun k ρ => ∃ (ms : List Int) (x2 x4 x5 x6 x7 x8 x9 x10 x11 x12 x13 x15 x16 x17 x18 x19 x20 x21 x22 x23 : Sl), ρ = [.va (.scr ns), .ow false (.lst (ms.map D.int)), x2, .un, x4, x5, x6, x7, x8, x9, x10, x11, x12, x13, .un, x15, x16, x17, x18, x19, x20, x21, x22, x23, .un, .un, .un] ∧ Nt x2 ∧ Nt x4 ∧ Nt x5 ∧ Nt x6 ∧ Nt x7 ∧ Nt x8 ∧ Nt x9 ∧ Nt x10 ∧ Nt x11 ∧ Nt x12 ∧ Nt x13 ∧ Nt x15 ∧ Nt x16 ∧ Nt x17 ∧ Nt x18 ∧ Nt x19 ∧ Nt x20 ∧ Nt x21 ∧ Nt x22 ∧ Nt x23)
    ⟨n1, .un, .un, .un, .un, .un, .un, .un, .un, .un, .un, .un, .un, .un, .un, .un, .un, .un, .un, .un, .un, rfl, trivial, trivial, trivial, trivial, trivial, trivial, trivial, trivial, trivial, trivial, trivial, trivial, trivial, trivial, trivial, trivial, trivial, trivial, trivial, trivial⟩ ?_ ?_
  · rintro J hJ k ρ hk ⟨ms, x2, x4, x5, x6, x7, x8, x9, x10, x11, x12, x13, x15, x16, x17, x18, x19, x20, x21, x22, x23, rfl, h2, h4, h5, h6, h7, h8, h9, h10, h11, h12, h13, h15, h16, h17, h18, h19, h20, h21, h22, h23⟩
    simp [h2]
    refine turn_ok (n := n) ms _ _ _ _ _ _ _ _ _ _ _ _ _ _ _ _ _ _ _ _ h4 h5 h6 h7 h8 h9 h10 h11 h12 h13 h15 h16 h17 h18 h19 h20 h21 h22 h23 ?_
    intro ms x4 x5 x6 x7 x8 x9 x10 x11 x12 x13 x15 x16 x17 x18 x19 x20 x21 x22 x23 h4 h5 h6 h7 h8 h9 h10 h11 h12 h13 h15 h16 h17 h18 h19 h20 h21 h22 h23
    exact hJ _ _ ⟨ms, .va (.int (0 + (k : Int))), x4, x5, x6, x7, x8, x9, x10, x11, x12, x13, x15, x16, x17, x18, x19, x20, x21, x22, x23, by simp, trivial, h4, h5, h6, h7, h8, h9, h10, h11, h12, h13, h15, h16, h17, h18, h19, h20, h21, h22, h23⟩
  · intro ρ hI
    obtain ⟨ms, x2, x4, x5, x6, x7, x8, x9, x10, x11, x12, x13, x15, x16, x17, x18, x19, x20, x21, x22, x23, e0, h2, h4, h5, h6, h7, h8, h9, h10, h11, h12, h13, h15, h16, h17, h18, h19, h20, h21, h22, h23⟩ := hI
    rw [e0]
    obtain ⟨ga, n2, e2, hga⟩ := r_pickX (n := n + 6) ms badG (by simp [badG]) (by simp [badG])
    obtain ⟨nu, n3, e3, hnu⟩ := r_pickX (n := n + 6) n2 badN (by simp [badN]) (by simp [badN])
    obtain ⟨ro, n4, e4, hro⟩ := r_pickX (n := n + 6) n3 badR (by simp [badR]) (by simp [badR])
    obtain ⟨wo, n5, e5, hwo⟩ := r_pickX (n := n + 6) n4 badW (by simp [badW]) (by simp [badW])
    obtain ⟨te, n6, e6, hte⟩ := r_pickX (n := n + 6) n5 badT (by simp [badT]) (by simp [badT])
    have c1 : op2 .Add (.lst [.non, .tup [], .lst [.int 3, .int (-1), .tup []], .tup [.int 3, .int (-1)], .tup [.int 0, .int (-1), .tup []], .tup [.int 1001, .int (-1), .tup []], .tup [.int 3, .int (-2), .tup []], .tup [.int 3, .int 5, .tup []],
  .tup [.int 3, .int 5, .tup [.int 3, .int 4]], .tup [.int 3, .int 5, .tup [.int 2, .int 5]]]) (.lst [.tup [.int 3, .int 5, .tup [.int 5, .int 3]], .tup [.int 3, .int 5, .tup [.int 5, .int 5]]]) = some (.lst (badG.take 12)) := rfl
    have c2 : op2 .Add (.lst (badG.take 12)) (.lst [.tup [.int 3, .int 5, .tup [.int 5, .int 6]], .tup [.int 3, .int (-1), .tup [.int 0]],
  .tup [.int 3, .int 5, .lst [.int 5]], .tup [.int 3, .bl true, .tup [.int 1]], .tup [.int 9, .int 1, .tup [.int (-1), .int 1]], .tup [.int 3, .int 1, .tup [.bl true]]]) = some (.lst badG) := rfl
    obtain ⟨g12, hg12⟩ : ∃ g, g = badG.take 12 := ⟨_, rfl⟩
    rw [← hg12] at c1 c2
    simp [m3_law, m4_law, rdV, c1]
    simp [m5_law, rdV, c2]
    have hR : op2 .Mult (.lst [.bl false]) (.int 18) = some (.lst (badG.map fun _ => D.bl false)) := rfl
    have sa : (gs dfs (n + 8)).dD n__law_same [.lst (badG.map fun _ => D.bl false), .lst (badG.map fun _ => D.bl false)] = .ok (.bl true) :=
      sameD n 1 (by omega) _ _ rfl (by
        have := sm_bls 0 (List.replicate 18 false) (by decide)
        rw [List.map_replicate] at this
        exact this)
    simp [m6_law]
    refine wp_comp (f := fun d : D => d) (xs := badG) (ρ1 := [.va (.scr ns), .ow false (.lst (ms.map D.int)), x2, .va (.lst badG), x4, x5, x6, x7, x8, x9, x10, x11, x12, x13, .un, x15, x16, x17, x18, x19, x20, x21, x22, x23, .un, .un, .un])
      (fun ds us ρ => ρ = [.va (.scr ns), .ow false (.lst (ms.map D.int)), x2, .va (.lst badG), x4, x5, x6, x7, x8, x9, x10, x11, x12, x13, .un, x15, x16, x17, x18, x19, x20, x21, x22, x23, .un, .un, .un] ∧ ds ++ us.map (fun _ => D.bl false) = badG.map (fun _ => D.bl false) ∧ ∀ u ∈ us, u ∈ badG) ?_ ⟨rfl, rfl, fun u hu => hu⟩ ?_ ?_
    · simp [evJ, rdV]
      rw [few_ok _ _ (by simp [badG])]
    · rintro J hJ ds u us ρ ⟨rfl, hd, hu⟩
      simp [rdV, told_0, x_is_gate (n := n + 4) u (hu u List.mem_cons_self), wipeR]
      exact hJ _ _ _ ⟨rfl, by rw [← hd]; simp, fun v hv => hu v (List.mem_cons_of_mem _ hv)⟩
    rintro ds ρ ⟨rfl, hd, _⟩
    simp only [List.map_nil, List.append_nil] at hd
    subst hd
    simp [backR, hR, sa]
    have k1 := y_let (n := n + 2) ga (.int 0) hga
    have k2 := y_passed (n := n + 2) ga (.lst []) hga
    have k3 := y_let3 (n := n + 2) nu hnu
    have k4 := y_passed3 (n := n + 2) ro hro
    have k5 := y_late (n := n + 3) ro hro
    have k6 := y_least (n := n + 2) ro hro
    have k7 := y_late11 (n := n + 3)
    have k8 := y_least020 (n := n + 2)
    have k9 := y_new (n := n + 4) (.int 0) (by simp)
    have k10 := y_new (n := n + 4) (.int 1001) (by simp)
    have k11 := y_new (n := n + 4) .non (by simp)
    have k12 := y_new (n := n + 4) (.bl true) (by simp)
    have k13 := y_timely (n := n + 3) wo hwo
    have k14 := y_most (n := n + 3) wo hwo
    have k15 := y_timelyN (n := n + 3) nu hnu
    have k16 := y_mostN (n := n + 3) nu hnu
    have k17 := y_forgN (n := n + 4) nu (.lst []) hnu
    have k18 := y_forg1001 (n := n + 4) (.lst [])
    have k19 := y_forgT (n := n + 4) te hte
    have k20 := y_in1 (n := n + 4) nu hnu
    have k21 := y_in2 (n := n + 4)
    have k22 := y_in3 (n := n + 4)
    simp [m7_law, rdV, e2]
    rw [show (D.lst [.int (-1), .non, .bl true, .str "1"]) = .lst badN from rfl]
    simp [e3, h10]
    simp [m8_law]
    rw [show (D.lst [.non, .tup [.int 1], .lst [.int 1, .int (-1)], .lst [.non], .lst [.bl true]]) = .lst badR from rfl]
    simp [e4, h4]
    simp [m9_law]
    rw [show (D.lst [.non, .tup [.tup [.int 0, .int 0, .str "x"]], .lst [.tup [.int 0, .int 0]], .lst [.tup [.int 0, .int 0, .int 1]], .lst [.tup [.non, .int 0, .str "x"]], .lst [.tup [.int 0, .bl true, .str "x"]],
  .lst [.tup [.int 1, .int 0, .str "x"], .tup [.int 0, .int 0, .str "x"]], .lst [.lst [.int 0, .int 0, .str "x"]]]) = .lst badW from rfl]
    simp [e5, h5]
    simp [m10_law, rdV, told_4, k1, told_5, k2, k3, k4, h6]
    simp [m11_law, rdV, catRI, told_1, k5, told_2, k6, k7, k8]
    simp [m12_law, rdV, catRI, op_catI, compR_u, compL_c, evJ, wipeR, backR, fewI, told_3, k9, k10, k11, k12, told_6, k13, told_7, k14]
    simp [m13_law, rdV, catRI, op_catI, compR_u, compL_c, evJ, wipeR, backR, fewI, told_6, told_7, told_8, k15, k16, k17, k18]
    simp [m14_law, rdO]
    rw [show (D.lst [.non, .tup [.str "a"], .lst [.int 1]]) = .lst badT from rfl]
    simp [e6, told_8, k19, appFI]
    have r22 := op_rep1 (.str "not right") 22 (by omega) (by omega)
    have n22 := cmp_eqS22
    simp only [show Int.toNat 22 = 22 from rfl, List.replicate] at r22 n22
    simp [m15_law, rdV, catRI, told_9, k20, k21, k22, m16_law, r22, n22]
theorem law_true (ns : List Int) (hl : ns.length ≤ 63) : (gs dfs 60).dD n_law [.scr ns] = .ok (.bl true) := law_gen 51 ns hl
end Ev.W

end
theorem PySem.Challenge.cw_oncecodes_k44_whole_gates_and_fresh_word_holds : PySem.Challenge.rw_oncecodes_k44_whole_gates_and_fresh_word.Holds := by
  exact holds_of Ev.W.law_true
