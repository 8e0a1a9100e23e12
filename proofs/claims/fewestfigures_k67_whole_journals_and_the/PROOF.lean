import PyProof.Rows.All
import Wide.All
import OpenK.AllK
import Wide.FinOn
import HandS.ForMost
import HandS.Exc
import HandS.ExcOwn
import HandS.TryOnly
import HandS.CallSlots
import HandS.Walk
import HandS.Wide
import PyProof.Draws
import PyProof.EnumMake
import HandS.TupMul
import HandS.FStr
import HandS.Style
import HandS.IsInst
import HandS.StrMore
import HandS.Deep
import HandS.TupLe
import HandS.WideBits
import PyProof.StrBlock2
import PyProof.Rows.StrPadFill
import HandS.Defaults
import HandS.Words
import HandS.WordsExc
import HandS.HeadEnd
import HandS.HeadHook1
import HandS.HeadHook2
import HandS.HeadHook3
import HandS.HeadHook4
import HandS.Head0
import HandS.Head1
import HandS.Head2
import PyProof.ExcBaseAll.ValueError
import HandS.EndBits
import PySem.Challenge.RW_fewestfigures_k67_whole_journals_and_the
set_option Elab.async false
set_option linter.all false
set_option maxRecDepth 100000
/-! FW1: data, states of a def's run, the relation with the hand layer's heaps -/
namespace FW
open PySem PySem.Spec L2

/-- plain data -/
inductive D where
  | non | bl (b : Bool) | int (i : Int) | str (s : List Nat) | tup (l : List D) | lst (l : List D)
  | dic (l : List (D × D))
  -- the script: a list of ints, locked
  | scr (l : List Int)
  deriving Inhabited
/-- what a name holds: shared data, a list of its own, an instance of its own -/
inductive O where
  | fz (d : D) | lst (l : List D) | ins (c : Nat) (fs : List (Str × O))
  deriving Inhabited
abbrev En := List (Option O)
inductive R (α : Type) where
  | ok (a : α) (ρ : En) | exc (c : Nat) (ρ : En) | stuck
abbrev M (α : Type) := En → R α
def ret {α} (a : α) : M α := fun ρ => .ok a ρ
def stk {α} : M α := fun _ => .stuck
def bnd {α β} (m : M α) (f : α → M β) : M β := fun ρ => match m ρ with
  | .ok a ρ' => f a ρ'
  | .exc c ρ' => .exc c ρ'
  | .stuck => .stuck
def ofOpt {α} (o : Option α) : M α := fun ρ => match o with
  | some a => .ok a ρ
  | none => .stuck
theorem bnd_ok {α β} {m : M α} {f : α → M β} {ρ ρ' : En} {a : α} (h : m ρ = .ok a ρ') : bnd m f ρ = f a ρ' := by
  unfold bnd; rw [h]
theorem bnd_ret {α β} (a : α) (f : α → M β) : bnd (ret a) f = f a := rfl
theorem bnd_some {α β} (a : α) (f : α → M β) : bnd (ofOpt (some a)) f = f a := rfl

/-- the class's place, what constants of the text are -/
structure Gx where
  K : PySem.W.Frag
  /-- objects of the text that are plain data -/
  KD : Addr → D → Prop
  cls : Nat → Addr

def RelD (G : Gx) (Z : Addr → Option D) : V → D → Prop
  | .non, .non => True
  | .bl b, .bl c => b = c
  | .int i, .int j => i = j
  | .str x, .str s => x = ⟨s.toArray⟩
  | .ref p, d => Z p = some d ∨ G.KD p d
  | _, _ => False
abbrev RelDs (G : Gx) (Z : Addr → Option D) : List V → List D → Prop := Paired (RelD G Z)

def keyD : Key → D
  | .inl i => .int i
  | .inr x => .str x.cps.toList

/-- what stands at p -/
def Cont (G : Gx) (Z : Addr → Option D) (H : Hp) (p : Addr) : D → Prop
  | .tup ds => ∃ vs, SqT G.K H p vs ∧ RelDs G Z vs ds
  | .lst ds => ∃ vs, H p = some (.lst vs) ∧ RelDs G Z vs ds
  | .scr ns => SqL G.K H p (ns.map V.int)
  | .dic kvs => ∃ hk : List (Key × V), Rd H p (.dK hk) ∧ Paired (fun a b => keyD a.1 = b.1 ∧ RelD G Z a.2 b.2) hk kvs
  | _ => False
def ZOk (G : Gx) (Z : Addr → Option D) (H : Hp) : Prop := ∀ p d, Z p = some d → H p ≠ none ∧ Cont G Z H p d
/-- the constants are what they are, whatever is tracked -/
def KOk (G : Gx) : Prop := ∀ p d, G.KD p d → ∀ Z H, Cont G Z H p d

def Le (Z Z' : Addr → Option D) : Prop := ∀ p d, Z p = some d → Z' p = some d
theorem Le.refl (Z : Addr → Option D) : Le Z Z := fun _ _ h => h
theorem Le.trans {Z Z' Z'' : Addr → Option D} (a : Le Z Z') (b : Le Z' Z'') : Le Z Z'' := fun p d h => b p d (a p d h)
theorem RelD.mono {G : Gx} {Z Z' : Addr → Option D} {v : V} {d : D} (h : RelD G Z v d) (l : Le Z Z') : RelD G Z' v d := by
  cases v with
  | ref p =>
    rcases h with h | h
    · exact .inl (l p d h)
    · exact .inr h
  | non => cases d <;> first | trivial | exact h
  | bl b => cases d <;> first | trivial | exact h
  | int b => cases d <;> first | trivial | exact h
  | str b => cases d <;> first | trivial | exact h
  | byt b => exact h
  | flt b => exact h
  | ty b => exact h
theorem RelDs.mono {G : Gx} {Z Z' : Addr → Option D} {vs : List V} {ds : List D} (h : RelDs G Z vs ds) (l : Le Z Z') : RelDs G Z' vs ds := by
  induction h with
  | nil => exact .nil
  | cons a _ ih => exact .cons (a.mono l) ih

/-- all that was tracked stands as it stood (but what M names) -/
def Ext (M : Addr → Prop) (Z : Addr → Option D) (H : Hp) (Z' : Addr → Option D) (H' : Hp) : Prop :=
  ∀ p o, H p = some o → ¬ M p → H' p = some o ∧ Z' p = Z p
theorem Ext.refl {M Z H} : Ext M Z H Z H := fun _ _ h _ => ⟨h, rfl⟩
theorem Ext.trans {M Z H Z1 H1 Z2 H2} (a : Ext M Z H Z1 H1) (b : Ext M Z1 H1 Z2 H2) : Ext M Z H Z2 H2 := fun p o h n =>
  have x := a p o h n
  have y := b p o x.1 n
  ⟨y.1, y.2.trans x.2⟩
def noM : Addr → Prop := fun _ => False
theorem Ext.le {Z H Z' H'} {G : Gx} (zok : ZOk G Z H) (e : Ext noM Z H Z' H') : Le Z Z' := fun p d h => by
  have q := (zok p d h).1
  cases hp : H p with
  | none => exact absurd hp q
  | some o => rw [(e p o hp id).2]; exact h
theorem Ext.any {M Z H Z' H'} (e : Ext noM Z H Z' H') : Ext M Z H Z' H' := fun p o h _ => e p o h id

/-- who owns an object -/
inductive Ow where
  | slot (i : Nat) | res | fld (w : Ow) (f : Str) | dx (w : Ow)
  deriving DecidableEq

mutual
inductive RelO (G : Gx) (U : Addr → Option Ow) (Z : Addr → Option D) (H : Hp) : Ow → V → O → Prop
  | fz {w : Ow} {v : V} {d : D} : RelD G Z v d → RelO G U Z H w v (.fz d)
  | lst {w : Ow} {p : Addr} {vs : List V} {l : List D} : U p = some w → H p = some (.lst vs) → RelDs G Z vs l → RelO G U Z H w (.ref p) (.lst l)
  | ins {w : Ow} {p dx : Addr} {c : Nat} {fs : List (Str × V)} {os : List (Str × O)} : U p = some w → U dx = some (.dx w) → H p = some (.ins (G.cls c) dx fs) → H dx = some (.own p) → RelFs G U Z H w fs os →
      RelO G U Z H w (.ref p) (.ins c os)
inductive RelFs (G : Gx) (U : Addr → Option Ow) (Z : Addr → Option D) (H : Hp) : Ow → List (Str × V) → List (Str × O) → Prop
  | nil {w : Ow} : RelFs G U Z H w [] []
  | cons {w : Ow} {f : Str} {v : V} {o : O} {fs : List (Str × V)} {os : List (Str × O)} : RelO G U Z H (.fld w f) v o → RelFs G U Z H w fs os → RelFs G U Z H w ((f, v) :: fs) ((f, o) :: os)
end

section
variable {G : Gx} {U U' : Addr → Option Ow} {Z Z' : Addr → Option D} {H H' : Hp}
mutual
theorem RelO.move {w : Ow} {v : V} {o : O} (φ : Ow → Ow) (hf : ∀ w f, φ (.fld w f) = .fld (φ w) f) (hx : ∀ w, φ (.dx w) = .dx (φ w)) (Q : Ow → Prop) (hq : ∀ w f, Q w → Q (.fld w f)) (hqx : ∀ w, Q w → Q (.dx w))
    (l : Le Z Z') (k : ∀ p w, U p = some w → Q w → U' p = some (φ w) ∧ H' p = H p) : RelO G U Z H w v o → Q w → RelO G U' Z' H' (φ w) v o
  | .fz d, _ => .fz (d.mono l)
  | .lst u h r, q => .lst (k _ _ u q).1 ((k _ _ u q).2.trans h) (r.mono l)
  | .ins u ux h hd r, q => .ins (k _ _ u q).1 (by rw [← hx]; exact (k _ _ ux (hqx _ q)).1) ((k _ _ u q).2.trans h) ((k _ _ ux (hqx _ q)).2.trans hd) (RelFs.move φ hf hx Q hq hqx l k r q)
theorem RelFs.move {w : Ow} {fs : List (Str × V)} {os : List (Str × O)} (φ : Ow → Ow) (hf : ∀ w f, φ (.fld w f) = .fld (φ w) f) (hx : ∀ w, φ (.dx w) = .dx (φ w)) (Q : Ow → Prop) (hq : ∀ w f, Q w → Q (.fld w f)) (hqx : ∀ w, Q w → Q (.dx w))
    (l : Le Z Z') (k : ∀ p w, U p = some w → Q w → U' p = some (φ w) ∧ H' p = H p) : RelFs G U Z H w fs os → Q w → RelFs G U' Z' H' (φ w) fs os
  | .nil, _ => .nil
  | .cons a r, q => .cons (by rw [← hf]; exact RelO.move φ hf hx Q hq hqx l k a (hq _ _ q)) (RelFs.move φ hf hx Q hq hqx l k r q)
end
theorem RelO.keep {w : Ow} {v : V} {o : O} (l : Le Z Z') (k : ∀ p w, U p = some w → H' p = H p) (h : RelO G U Z H w v o) : RelO G U Z' H' w v o :=
  h.move id (fun _ _ => rfl) (fun _ => rfl) (fun _ => True) (fun _ _ _ => trivial) (fun _ _ => trivial) l (fun p w e _ => ⟨e, k p w e⟩) trivial
end

/-- the root of an owner -/
def Ow.root : Ow → Ow
  | .slot i => .slot i
  | .res => .res
  | .fld w _ => w.root
  | .dx w => w.root
/-- the root told anew -/
def Ow.sub (r : Ow) : Ow → Ow
  | .slot _ => r
  | .res => r
  | .fld w f => .fld (Ow.sub r w) f
  | .dx w => .dx (Ow.sub r w)

/-- a def's run began so -/
structure Bs where
  Z0 : Addr → Option D
  H0 : Hp
  M0 : Addr → Prop

structure UOk (B : Bs) (U : Addr → Option Ow) (Z : Addr → Option D) (H : Hp) : Prop where
  z : ∀ p w, U p = some w → Z p = none
  h : ∀ p w, U p = some w → H p ≠ none
  b : ∀ p w, U p = some w → B.H0 p = none ∨ B.M0 p

def EnvR (G : Gx) (U : Addr → Option Ow) (Z : Addr → Option D) (H : Hp) (σ : St) (ρ : En) : Prop :=
  ∀ i o, ρ[i]? = some (some o) → ∃ v, σ[i]? = some (some v) ∧ RelO G U Z H (.slot i) v o

/-- the run stands here -/
structure Rl (G : Gx) (B : Bs) (Z : Addr → Option D) (H : Hp) (σ : St) (ρ : En) : Prop where
  zok : ZOk G Z H
  ext : Ext B.M0 B.Z0 B.H0 Z H
  len : ρ.length ≤ σ.length
  env : ∃ U, UOk B U Z H ∧ EnvR G U Z H σ ρ
/-- .. and has this value in hand -/
structure RlR (G : Gx) (B : Bs) (Z : Addr → Option D) (H : Hp) (σ : St) (ρ : En) (v : V) (o : O) : Prop where
  zok : ZOk G Z H
  ext : Ext B.M0 B.Z0 B.H0 Z H
  len : ρ.length ≤ σ.length
  env : ∃ U, UOk B U Z H ∧ EnvR G U Z H σ ρ ∧ RelO G U Z H .res v o

/-- a new state by new things alone, with a value -/
structure NewR (G : Gx) (Z : Addr → Option D) (H : Hp) (Z' : Addr → Option D) (H' : Hp) (v : V) (o : O) : Prop where
  ext : Ext noM Z H Z' H'
  zok : ZOk G Z' H'
  val : ∃ U, (∀ p w, U p = some w → H p = none ∧ Z' p = none ∧ H' p ≠ none) ∧ RelO G U Z' H' .res v o

section
variable {G : Gx} {B : Bs} {Z Z' : Addr → Option D} {H H' : Hp} {σ : St} {ρ : En} {v : V} {o : O} {d : D}
theorem RlR.rl (h : RlR G B Z H σ ρ v o) : Rl G B Z H σ ρ := ⟨h.zok, h.ext, h.len, let ⟨U, a, b, _⟩ := h.env; ⟨U, a, b⟩⟩
theorem RlR.relD (h : RlR G B Z H σ ρ v (.fz d)) : RelD G Z v d := by
  obtain ⟨U, _, _, r⟩ := h.env
  cases r with
  | fz r => exact r
theorem Rl.fz (h : Rl G B Z H σ ρ) (r : RelD G Z v d) : RlR G B Z H σ ρ v (.fz d) := ⟨h.zok, h.ext, h.len, let ⟨U, a, b⟩ := h.env; ⟨U, a, b, .fz r⟩⟩

theorem Rl.new (h : Rl G B Z H σ ρ) (n : NewR G Z H Z' H' v o) : RlR G B Z' H' σ ρ v o := by
  obtain ⟨U, uok, er⟩ := h.env
  obtain ⟨Un, un, rn⟩ := n.val
  have l : Le Z Z' := n.ext.le h.zok
  refine ⟨n.zok, h.ext.trans n.ext.any, h.len, fun p => match Un p with | some w => some w | none => U p, ?_, ?_, ?_⟩
  · have key : ∀ p w, (match Un p with | some w => some w | none => U p) = some w → Un p = some w ∨ (Un p = none ∧ U p = some w) := fun p w e => by
      cases q : Un p with
      | some w' => rw [q] at e; exact .inl e
      | none => rw [q] at e; exact .inr ⟨rfl, e⟩
    refine ⟨fun p w e => ?_, fun p w e => ?_, fun p w e => ?_⟩
    · rcases key p w e with e | ⟨_, e⟩
      · exact (un p w e).2.1
      · cases hp : H p with
        | none => exact absurd hp (uok.h p w e)
        | some ob => rw [(n.ext p ob hp id).2]; exact uok.z p w e
    · rcases key p w e with e | ⟨_, e⟩
      · exact (un p w e).2.2
      · cases hp : H p with
        | none => exact absurd hp (uok.h p w e)
        | some ob => rw [(n.ext p ob hp id).1]; exact fun z => nomatch z
    · rcases key p w e with e | ⟨_, e⟩
      · cases hb : B.H0 p with
        | none => exact .inl rfl
        | some ob =>
          refine .inr (Classical.byContradiction fun hm => ?_)
          have := (h.ext p ob hb hm).1
          rw [(un p w e).1] at this
          cases this
      · exact uok.b p w e
  · intro i ob e
    obtain ⟨x, e1, r⟩ := er i ob e
    refine ⟨x, e1, ?_⟩
    refine r.move id (fun _ _ => rfl) (fun _ => rfl) (fun _ => True) (fun _ _ _ => trivial) (fun _ _ => trivial) l (fun p w u _ => ?_) trivial
    have hn : Un p = none := by
      cases q : Un p with
      | none => rfl
      | some w' => exact absurd (un p w' q).1 (uok.h p w u)
    refine ⟨by show (match Un p with | some w => some w | none => U p) = some w; rw [hn]; exact u, ?_⟩
    cases hp : H p with
    | none => exact absurd hp (uok.h p w u)
    | some ob => exact (n.ext p ob hp id).1
  · refine rn.move id (fun _ _ => rfl) (fun _ => rfl) (fun _ => True) (fun _ _ _ => trivial) (fun _ _ => trivial) (Le.refl _) (fun p w u _ => ⟨?_, rfl⟩) trivial
    show (match Un p with | some w => some w | none => U p) = some w
    rw [u]
/-- only the frozen part of the value counts -/
theorem NewR.of_fz (e : Ext noM Z H Z' H') (z : ZOk G Z' H') (r : RelD G Z' v d) : NewR G Z H Z' H' v (.fz d) :=
  ⟨e, z, fun _ => none, ⟨fun _ _ h => (nomatch h), RelO.fz r⟩⟩
theorem NewR.old (z : ZOk G Z H) (r : RelD G Z v d) : NewR G Z H Z H v (.fz d) := .of_fz .refl z r

def updZ (Z : Addr → Option D) (a : Addr) (d : D) : Addr → Option D := fun b => if b = a then some d else Z b
theorem updZ_same {Z : Addr → Option D} {a : Addr} {d : D} : updZ Z a d a = some d := if_pos rfl
theorem updZ_ne {Z : Addr → Option D} {a b : Addr} {d : D} (h : b ≠ a) : updZ Z a d b = Z b := if_neg h
theorem updZ_le {Z : Addr → Option D} {a : Addr} {d : D} (h : Z a = none) : Le Z (updZ Z a d) := fun p e q => by
  have hp : p ≠ a := by intro z; rw [z, h] at q; cases q
  rw [updZ_ne hp]; exact q

theorem Rd.new {H : Hp} {p a : Addr} {o u : HO} (h : Rd H p u) (n : H a = none) : Rd (upd H a o) p u := by
  rcases h with h | ⟨x, h⟩
  · exact .inl (by rw [upd_ne (ne_of_none h n)]; exact h)
  · exact .inr ⟨x, by rw [upd_ne (ne_of_none h n)]; exact h⟩
theorem Rd.same {H H' : Hp} {p : Addr} {u : HO} (h : Rd H p u) (e : H' p = H p) : Rd H' p u := by
  unfold Rd at *; rw [e]; exact h
theorem SqL.same {K : PySem.W.Frag} {H H' : Hp} {p : Addr} {vs : List V} (h : SqL K H p vs) (e : H' p = H p) : SqL K H' p vs := by
  rcases h with h | h
  · exact .inl (Rd.same h e)
  · exact .inr h
theorem SqT.same {K : PySem.W.Frag} {H H' : Hp} {p : Addr} {vs : List V} (h : SqT K H p vs) (e : H' p = H p) : SqT K H' p vs := by
  rcases h with h | h
  · exact .inl (Rd.same h e)
  · exact .inr h
theorem PairedD.mono {G : Gx} {hk : List (Key × V)} {kvs : List (D × D)} (l : Le Z Z') (h : Paired (fun (a : Key × V) (b : D × D) => keyD a.1 = b.1 ∧ RelD G Z a.2 b.2) hk kvs) : Paired (fun (a : Key × V) (b : D × D) => keyD a.1 = b.1 ∧ RelD G Z' a.2 b.2) hk kvs := by
  induction h with
  | nil => exact .nil
  | cons a _ ih => exact .cons ⟨a.1, a.2.mono l⟩ ih
theorem Cont.same {G : Gx} {p : Addr} (h : Cont G Z H p d) (l : Le Z Z') (e : H' p = H p) : Cont G Z' H' p d := by
  cases d with
  | tup ds => obtain ⟨vs, a, b⟩ := h; exact ⟨vs, SqT.same a e, b.mono l⟩
  | lst ds => obtain ⟨vs, a, b⟩ := h; exact ⟨vs, by rw [e]; exact a, b.mono l⟩
  | scr ns => exact SqL.same h e
  | dic ds => obtain ⟨vs, a, b⟩ := h; exact ⟨vs, Rd.same a e, PairedD.mono l b⟩
  | _ => exact h
theorem ZOk.upd_free {G : Gx} {a : Addr} {o : HO} (z : ZOk G Z H) (hz : Z a = none) : ZOk G Z (upd H a o) := fun p d h => by
  have hp : p ≠ a := by intro e; rw [e, hz] at h; cases h
  exact ⟨by rw [upd_ne hp]; exact (z p d h).1, (z p d h).2.same (Le.refl _) (upd_ne hp)⟩
theorem ZOk.free {G : Gx} {a : Addr} (z : ZOk G Z H) (h : H a = none) : Z a = none := by
  cases q : Z a with
  | none => rfl
  | some d => exact absurd h (z a d q).1
theorem ZOk.upd_new {G : Gx} {a : Addr} {o : HO} (z : ZOk G Z H) (n : H a = none) (c : Cont G (updZ Z a d) (upd H a o) a d) : ZOk G (updZ Z a d) (upd H a o) := fun p e h => by
  have hz := z.free n
  by_cases hp : p = a
  · subst hp
    rw [updZ_same] at h; cases h
    exact ⟨(by rw [upd_same]; exact fun z => (nomatch z)), c⟩
  · rw [updZ_ne hp] at h
    exact ⟨by rw [upd_ne hp]; exact (z p e h).1, (z p e h).2.same (updZ_le hz) (upd_ne hp)⟩
theorem Ext.upd_new {a : Addr} {o : HO} {Z' : Addr → Option D} (n : H a = none) (hz : ∀ p, p ≠ a → Z' p = Z p) : Ext noM Z H Z' (upd H a o) := fun p ob h _ => by
  have hp : p ≠ a := ne_of_none h n
  exact ⟨by rw [upd_ne hp]; exact h, hz p hp⟩
theorem NewR.lst {p : Addr} {vs : List V} {l : List D} (z : ZOk G Z H) (n : H p = none) (r : RelDs G Z vs l) : NewR G Z H Z (upd H p (.lst vs)) (.ref p) (.lst l) := by
  refine ⟨.upd_new n fun _ _ => rfl, z.upd_free (z.free n), fun q => if q = p then some .res else none, fun q w e => ?_, .lst (if_pos rfl) upd_same r⟩
  by_cases h : q = p
  · subst h; exact ⟨n, z.free n, by rw [upd_same]; exact fun z => (nomatch z)⟩
  · dsimp only at e; rw [if_neg h] at e; cases e
theorem NewR.tup {p : Addr} {vs : List V} {l : List D} (z : ZOk G Z H) (n : H p = none) (r : RelDs G Z vs l) : NewR G Z H (updZ Z p (.tup l)) (upd H p (.tup vs)) (.ref p) (.fz (.tup l)) :=
  .of_fz (.upd_new n fun q h => updZ_ne h) (z.upd_new n ⟨vs, SqT.of upd_same, r.mono (updZ_le (z.free n))⟩) (.inl updZ_same)
theorem NewR.trans {Z1 : Addr → Option D} {H1 : Hp} (e : Ext noM Z H Z1 H1) (n : NewR G Z1 H1 Z' H' v o) : NewR G Z H Z' H' v o :=
  ⟨e.trans n.ext, n.zok, let ⟨U, a, b⟩ := n.val; ⟨U, fun p w h => ⟨(by
    cases q : H p with
    | none => rfl
    | some ob => have := (e p ob q id).1; rw [(a p w h).1] at this; cases this), (a p w h).2⟩, b⟩⟩
/-- a list of one's own becomes shared data -/
def O.frz : O → Option D
  | .fz d => some d
  | .lst l => some (.lst l)
  | .ins _ _ => none
theorem RlR.frz (h : RlR G B Z H σ ρ v o) (e : o.frz = some d) : ∃ Z', Rl G B Z' H σ ρ ∧ RelD G Z' v d ∧ Le Z Z' := by
  obtain ⟨U, uok, er, r⟩ := h.env
  cases r with
  | fz r => cases e; exact ⟨Z, h.rl, r, Le.refl _⟩
  | @lst _ p vs l u hp r =>
    cases e
    have hz := uok.z p _ u
    have le : Le Z (updZ Z p (.lst l)) := updZ_le hz
    refine ⟨updZ Z p (.lst l), ⟨fun q e he => ?_, fun q ob hq hm => ?_, h.len, fun q => if q = p then none else U q, ⟨fun q w e => ?_, fun q w e => ?_, fun q w e => ?_⟩, fun i ob e => ?_⟩, .inl updZ_same, le⟩
    · by_cases hqp : q = p
      · subst hqp
        rw [updZ_same] at he; cases he
        exact ⟨uok.h _ _ u, vs, hp, r.mono le⟩
      · rw [updZ_ne hqp] at he
        exact ⟨(h.zok q e he).1, (h.zok q e he).2.same le rfl⟩
    · obtain ⟨a, b⟩ := h.ext q ob hq hm
      refine ⟨a, ?_⟩
      have : q ≠ p := by
        intro z; subst z
        rcases uok.b _ _ u with x | x
        · rw [hq] at x; cases x
        · exact hm x
      rw [updZ_ne this]; exact b
    · by_cases hqp : q = p
      · rw [if_pos hqp] at e; cases e
      · rw [if_neg hqp] at e; rw [updZ_ne hqp]; exact uok.z q w e
    · by_cases hqp : q = p
      · rw [if_pos hqp] at e; cases e
      · rw [if_neg hqp] at e; exact uok.h q w e
    · by_cases hqp : q = p
      · rw [if_pos hqp] at e; cases e
      · rw [if_neg hqp] at e; exact uok.b q w e
    · obtain ⟨x, e1, rr⟩ := er i ob e
      refine ⟨x, e1, rr.move id (fun _ _ => rfl) (fun _ => rfl) (fun w => w.root = .slot i) (fun _ _ h => h) (fun _ h => h) le (fun q w u' hq => ⟨?_, rfl⟩) rfl⟩
      have : q ≠ p := by
        intro z; subst z
        rw [u] at u'; cases u'; cases hq
      rw [if_neg this]; exact u'
  | ins => cases e
/-- a value is stored in a slot -/
theorem RlR.store {i : Nat} (h : RlR G B Z H σ ρ v o) : Rl G B Z H (σ.set i (some v)) (ρ.set i (some o)) := by
  obtain ⟨U, uok, er, r⟩ := h.env
  let U' : Addr → Option Ow := fun p => match U p with
    | some w => if w.root = .res then some (Ow.sub (.slot i) w) else if w.root = .slot i then none else some w
    | none => none
  have sub_root : ∀ (w : Ow), (Ow.sub (.slot i) w).root = .slot i := fun w => by
    induction w with
    | slot j => rfl
    | res => rfl
    | fld w f ih => exact ih
    | dx w ih => exact ih
  have key : ∀ p w, U' p = some w → ∃ w', U p = some w' := fun p w e => by
    cases q : U p with
    | none => simp only [U', q] at e; cases e
    | some w' => exact ⟨w', rfl⟩
  refine ⟨h.zok, h.ext, by simpa using h.len, U', ⟨fun p w e => ?_, fun p w e => ?_, fun p w e => ?_⟩, fun j ob e => ?_⟩
  · obtain ⟨w', e'⟩ := key p w e; exact uok.z p w' e'
  · obtain ⟨w', e'⟩ := key p w e; exact uok.h p w' e'
  · obtain ⟨w', e'⟩ := key p w e; exact uok.b p w' e'
  · by_cases hj : j = i
    · subst hj
      have hl : j < ρ.length := by
        by_cases hl : j < ρ.length
        · exact hl
        · rw [List.getElem?_eq_none (by simpa using hl)] at e; cases e
      rw [List.getElem?_set_self hl] at e
      cases e
      refine ⟨v, List.getElem?_set_self (Nat.lt_of_lt_of_le hl h.len), ?_⟩
      exact r.move (Ow.sub (.slot j)) (fun _ _ => rfl) (fun _ => rfl) (fun w => w.root = .res) (fun _ _ h => h) (fun _ h => h) (Le.refl _) (fun p w u hq => ⟨by simp only [U', u]; rw [if_pos hq], rfl⟩) rfl
    · rw [List.getElem?_set_ne (Ne.symm hj)] at e
      obtain ⟨x, e1, rr⟩ := er j ob e
      refine ⟨x, by rw [List.getElem?_set_ne (Ne.symm hj)]; exact e1, ?_⟩
      refine rr.move id (fun _ _ => rfl) (fun _ => rfl) (fun w => w.root = .slot j) (fun _ _ h => h) (fun _ h => h) (Le.refl _) (fun p w u hq => ⟨?_, rfl⟩) rfl
      simp only [U', u]
      rw [if_neg (by rw [hq]; exact fun z => nomatch z), if_neg (by rw [hq]; intro z; injection z with z; exact hj z)]
      rfl
/-- a slot is forgotten -/
theorem Rl.weak {ρ' : En} (h : Rl G B Z H σ ρ) (hl : ρ'.length ≤ σ.length) (w : ∀ (i : Nat) (o : O), ρ'[i]? = some (some o) → ρ[i]? = some (some o)) : Rl G B Z H σ ρ' :=
  ⟨h.zok, h.ext, hl, let ⟨U, a, b⟩ := h.env; ⟨U, a, fun i o e => b i o (w i o e)⟩⟩
/-- a slot is taken out -/
theorem Rl.take {i : Nat} (h : Rl G B Z H σ ρ) (e : ρ[i]? = some (some o)) : ∃ v, σ[i]? = some (some v) ∧ RlR G B Z H σ (ρ.set i none) v o := by
  obtain ⟨U, uok, er⟩ := h.env
  obtain ⟨v, ev, r⟩ := er i o e
  let U' : Addr → Option Ow := fun p => match U p with
    | some w => if w.root = .slot i then some (Ow.sub .res w) else if w.root = .res then none else some w
    | none => none
  have key : ∀ p w, U' p = some w → ∃ w', U p = some w' := fun p w e => by
    cases q : U p with
    | none => simp only [U', q] at e; cases e
    | some w' => exact ⟨w', rfl⟩
  refine ⟨v, ev, h.zok, h.ext, by simpa using h.len, U', ⟨fun p w e => ?_, fun p w e => ?_, fun p w e => ?_⟩, fun j ob ej => ?_, ?_⟩
  · obtain ⟨w', e'⟩ := key p w e; exact uok.z p w' e'
  · obtain ⟨w', e'⟩ := key p w e; exact uok.h p w' e'
  · obtain ⟨w', e'⟩ := key p w e; exact uok.b p w' e'
  · by_cases hj : j = i
    · subst hj
      by_cases hl : j < ρ.length
      · rw [List.getElem?_set_self hl] at ej; cases ej
      · rw [List.getElem?_eq_none (by simpa using hl)] at ej; cases ej
    · rw [List.getElem?_set_ne (Ne.symm hj)] at ej
      obtain ⟨x, e1, rr⟩ := er j ob ej
      refine ⟨x, e1, rr.move id (fun _ _ => rfl) (fun _ => rfl) (fun w => w.root = .slot j) (fun _ _ h => h) (fun _ h => h) (Le.refl _) (fun p w u hq => ⟨?_, rfl⟩) rfl⟩
      simp only [U', u]
      rw [if_neg (by rw [hq]; intro z; injection z with z; exact hj z), if_neg (by rw [hq]; exact fun z => nomatch z)]
      rfl
  · exact r.move (Ow.sub .res) (fun _ _ => rfl) (fun _ => rfl) (fun w => w.root = .slot i) (fun _ _ h => h) (fun _ h => h) (Le.refl _) (fun p w u hq => ⟨by simp only [U', u]; rw [if_pos hq], rfl⟩) rfl
/-- a shared value in a slot -/
theorem Rl.get {i : Nat} (h : Rl G B Z H σ ρ) (e : ρ[i]? = some (some (.fz d))) : ∃ v, σ[i]? = some (some v) ∧ RelD G Z v d := by
  obtain ⟨U, uok, er⟩ := h.env
  obtain ⟨v, ev, r⟩ := er i _ e
  cases r with
  | fz r => exact ⟨v, ev, r⟩
theorem Rl.setFz {i : Nat} (h : Rl G B Z H σ ρ) (hi : σ[i]? = some (some v)) (r : RelD G Z v d) : Rl G B Z H σ (ρ.set i (some (.fz d))) := by
  have h2 := (h.fz r).store (i := i)
  have e : σ.set i (some v) = σ := by
    apply List.ext_getElem?
    intro j
    by_cases hj : j = i
    · subst hj; rw [List.getElem?_set_self (List.getElem?_eq_some_iff.mp hi).1, hi]
    · rw [List.getElem?_set_ne (Ne.symm hj)]
  rw [e] at h2
  exact h2
end
section
variable {G : Gx} {B : Bs} {Z Z' : Addr → Option D} {H H' : Hp} {σ : L2.St} {ρ : En}
theorem Rl.to (h : Rl G B Z H σ ρ) (e : Ext noM Z H Z' H') (z : ZOk G Z' H') : Rl G B Z' H' σ ρ := (h.new (NewR.of_fz e z (v := .non) (d := .non) trivial)).rl
/-- the value in hand is kept while the run goes on without it -/
theorem RlR.guard {v : V} {o : O} (h : RlR G B Z H σ ρ v o) : ∃ B' : Bs, Rl G B' Z H σ ρ ∧ ∀ Z' H' σ' ρ', Rl G B' Z' H' σ' ρ' → RlR G B Z' H' σ' ρ' v o := by
  obtain ⟨U, uok, er, r⟩ := h.env
  refine ⟨⟨Z, H, fun p => ∃ w, U p = some w ∧ w.root ≠ .res⟩, ⟨h.zok, .refl, h.len, fun p => match U p with
    | some w => if w.root = .res then none else some w
    | none => none, ⟨fun p w e => ?_, fun p w e => ?_, fun p w e => ?_⟩, fun i ob e => ?_⟩, fun Z' H' σ' ρ' h' => ?_⟩
  case refine_1 | refine_2 | refine_3 =>
    cases q : U p with
    | none => rw [q] at e; cases e
    | some w' =>
      rw [q] at e
      by_cases hw : w'.root = .res
      · simp only [hw, if_true] at e; cases e
      · simp only [hw, if_false] at e
        first | exact uok.z p w' q | exact uok.h p w' q | exact .inr ⟨w', q, hw⟩
  case refine_4 =>
    obtain ⟨x, e1, rr⟩ := er i ob e
    refine ⟨x, e1, rr.move id (fun _ _ => rfl) (fun _ => rfl) (fun w => w.root = .slot i) (fun _ _ h => h) (fun _ h => h) (Le.refl _) (fun p w u hq => ⟨?_, rfl⟩) rfl⟩
    simp only [u]
    rw [if_neg (by rw [hq]; exact fun z => nomatch z)]
    rfl
  case refine_5 =>
    obtain ⟨U', uok', er'⟩ := h'.env
    have key : ∀ p w, U p = some w → w.root = .res → H' p = H p ∧ Z' p = Z p ∧ U' p = none := fun p w u hw => by
      have hm : ¬ ∃ w, U p = some w ∧ w.root ≠ .res := fun ⟨w', u', h2⟩ => by rw [u] at u'; cases u'; exact h2 hw
      cases hp : H p with
      | none => exact absurd hp (uok.h p w u)
      | some ob =>
        obtain ⟨a, b⟩ := h'.ext p ob hp hm
        refine ⟨a, b, ?_⟩
        cases q : U' p with
        | none => rfl
        | some w' =>
          rcases uok'.b p w' q with x | x
          · rw [show H p = none from x] at hp; cases hp
          · exact absurd x hm
    have le : Le Z Z' := fun p d hz => by
      have hp := (h.zok p d hz).1
      cases q : H p with
      | none => exact absurd q hp
      | some ob =>
        rw [(h'.ext p ob q fun ⟨w, u, _⟩ => by rw [uok.z p w u] at hz; cases hz).2]; exact hz
    have back : ∀ p w, U p = some w → B.H0 p = none ∨ B.M0 p := uok.b
    have cases' : ∀ p w, (match U p with | some w => if w.root = .res then some w else U' p | none => U' p) = some w → (U p = some w ∧ w.root = .res) ∨ U' p = some w := fun p w e => by
      cases q : U p with
      | none => rw [q] at e; exact .inr e
      | some w' =>
        rw [q] at e
        by_cases hw : w'.root = .res
        · simp only [hw, if_true] at e; cases e; exact .inl ⟨rfl, hw⟩
        · simp only [hw, if_false] at e; exact .inr e
    refine ⟨h'.zok, fun p ob hp hm => ?_, h'.len, fun p => match U p with | some w => if w.root = .res then some w else U' p | none => U' p, ⟨fun p w e => ?_, fun p w e => ?_, fun p w e => ?_⟩, fun i ob e => ?_, ?_⟩
    · obtain ⟨a, b⟩ := h.ext p ob hp hm
      have hn : ¬ ∃ w, U p = some w ∧ w.root ≠ .res := fun ⟨w, u, _⟩ => by
        rcases uok.b p w u with x | x
        · rw [hp] at x; cases x
        · exact hm x
      obtain ⟨c, d⟩ := h'.ext p ob a hn
      exact ⟨c, d.trans b⟩
    · rcases cases' p w e with ⟨u, hw⟩ | u
      · rw [(key p w u hw).2.1]; exact uok.z p w u
      · exact uok'.z p w u
    · rcases cases' p w e with ⟨u, hw⟩ | u
      · rw [(key p w u hw).1]; exact uok.h p w u
      · exact uok'.h p w u
    · rcases cases' p w e with ⟨u, hw⟩ | u
      · exact uok.b p w u
      · rcases uok'.b p w u with x | ⟨w', x, _⟩
        · cases hb : B.H0 p with
          | none => exact .inl rfl
          | some ob =>
            refine .inr (Classical.byContradiction fun hm => ?_)
            have := (h.ext p ob hb hm).1
            rw [show H p = none from x] at this; cases this
        · exact uok.b p w' x
    · obtain ⟨x, e1, rr⟩ := er' i ob e
      refine ⟨x, e1, rr.move id (fun _ _ => rfl) (fun _ => rfl) (fun _ => True) (fun _ _ _ => trivial) (fun _ _ => trivial) (Le.refl _) (fun p w u _ => ⟨?_, rfl⟩) trivial⟩
      show (match U p with | some w => if w.root = .res then some w else U' p | none => U' p) = some w
      cases q : U p with
      | none => exact u
      | some w' =>
        by_cases hw : w'.root = .res
        · rw [(key p w' q hw).2.2] at u; cases u
        · simp only [hw, if_false]; exact u
    · refine r.move id (fun _ _ => rfl) (fun _ => rfl) (fun w => w.root = .res) (fun _ _ h => h) (fun _ h => h) le (fun p w u hw => ⟨?_, (key p w u hw).1⟩) rfl
      show (match U p with | some w => if w.root = .res then some w else U' p | none => U' p) = some w
      rw [u]
      simp only [hw, if_true]
/-- the list in hand is changed -/
theorem RlR.updL {p : Addr} {l l' : List D} {vs' : List V} (h : RlR G B Z H σ ρ (.ref p) (.lst l)) (r : RelDs G Z vs' l') : RlR G B Z (upd H p (.lst vs')) σ ρ (.ref p) (.lst l') := by
  obtain ⟨U, uok, er, rr⟩ := h.env
  cases rr with
  | @lst _ _ vs _ u hp rd =>
    have hz := uok.z p _ u
    have hx : ∀ q w, U q = some w → w.root ≠ .res → q ≠ p := fun q w uq hw e => by
      rw [e, u] at uq; cases uq; exact hw rfl
    refine ⟨h.zok.upd_free hz, fun q ob hq hm => ?_, h.len, U, ⟨uok.z, fun q w e => ?_, uok.b⟩, fun i ob e => ?_, .lst u upd_same r⟩
    · have : q ≠ p := fun e => by
        rw [e] at hq hm
        rcases uok.b p _ u with x | x
        · rw [hq] at x; cases x
        · exact hm x
      rw [upd_ne this]
      exact h.ext q ob hq hm
    · by_cases hq : q = p
      · rw [hq, upd_same]; exact fun z => nomatch z
      · rw [upd_ne hq]; exact uok.h q w e
    · obtain ⟨x, e1, r1⟩ := er i ob e
      refine ⟨x, e1, r1.move id (fun _ _ => rfl) (fun _ => rfl) (fun w => w.root = .slot i) (fun _ _ h => h) (fun _ h => h) (Le.refl _) (fun q w uq hq => ⟨uq, upd_ne (hx q w uq (by rw [hq]; exact fun z => nomatch z))⟩) rfl⟩
theorem RlR.lst_inv {v : V} {l : List D} (h : RlR G B Z H σ ρ v (.lst l)) : ∃ p vs, v = .ref p ∧ H p = some (.lst vs) ∧ RelDs G Z vs l := by
  obtain ⟨U, uok, er, rr⟩ := h.env
  cases rr with
  | lst u hp rd => exact ⟨_, _, rfl, hp, rd⟩
end
end FW
set_option Elab.async false
set_option linter.all false
set_option maxRecDepth 100000
/-! FW2: readings by a run's own functions; rules for expressions -/
namespace FW
open PySem PySem.Spec L2

/-- a run's outcome: K behind it, the wish W if it raises -/
def Wp (G : Gx) (B : Bs) (W : WX) (Z : Addr → Option D) (σ : L2.St) {α : Type} (r : R α) (K : α → En → Prop) : Prop := match r with
  | .ok a ρ => K a ρ
  | .exc c ρ => ∀ Z' H', Rl G B Z' H' σ ρ → Le Z Z' → W (.ref (G.cls c)) none σ H'
  | .stuck => False
section
variable {G : Gx} {B : Bs} {W : WX} {Z Z1 : Addr → Option D} {σ : L2.St} {α β : Type}
theorem Wp.mono {r : R α} {K K' : α → En → Prop} (h : Wp G B W Z σ r K) (l : Le Z Z1) (k : ∀ a ρ, K a ρ → K' a ρ) : Wp G B W Z1 σ r K' := by
  cases r with
  | ok a ρ => exact k a ρ h
  | exc c ρ => exact fun Z' H' hr hl => h Z' H' hr (l.trans hl)
  | stuck => exact h
theorem Wp.bnd {m : M α} {f : α → M β} {ρ : En} {K : β → En → Prop} (h : Wp G B W Z σ (bnd m f ρ) K) : Wp G B W Z σ (m ρ) fun a ρ1 => Wp G B W Z σ (f a ρ1) K := by
  unfold FW.bnd at h
  cases e : m ρ with
  | ok a ρ1 => rw [e] at h; exact h
  | exc c ρ1 => rw [e] at h; exact h
  | stuck => rw [e] at h; exact h
end

/-- the readings -/
def tO (G : Gx) (W : WX) (m : M O) : TE := fun σ H Q => ∃ B Z ρ, Rl G B Z H σ ρ ∧ Wp G B W Z σ (m ρ) fun o ρ' => ∀ v Z' H', RlR G B Z' H' σ ρ' v o → Le Z Z' → Q v H'
def tE (G : Gx) (W : WX) (m : M D) : TE := fun σ H Q => ∃ B Z ρ, Rl G B Z H σ ρ ∧ Wp G B W Z σ (m ρ) fun d ρ' => ∀ v Z' H', Rl G B Z' H' σ ρ' → RelD G Z' v d → Le Z Z' → Q v H'
def tAs (G : Gx) (W : WX) (m : M (List D)) : TA := fun σ H Q => ∃ B Z ρ, Rl G B Z H σ ρ ∧ Wp G B W Z σ (m ρ) fun ds ρ' => ∀ vs Z' H', Rl G B Z' H' σ ρ' → RelDs G Z' vs ds → Le Z Z' → Q vs H'
def tB (G : Gx) (W : WX) (m : M Bool) : TT := fun σ H Q => ∃ B Z ρ, Rl G B Z H σ ρ ∧ Wp G B W Z σ (m ρ) fun b ρ' => ∀ Z' H', Rl G B Z' H' σ ρ' → Le Z Z' → Q b H'

section
variable {X : Cx} {e a b c : Expr} {es : List Expr} {pos : Pos}
theorem PE.imp {t t' : TE} (h : PE X e t) (k : ∀ σ H Q, t' σ H Q → t σ H Q) : PE X e t' := ⟨fun pins s σ H Q I q => h.run pins s σ H Q I (k σ H Q q)⟩
theorem PT.imp {t t' : TT} (h : PT X e t) (k : ∀ σ H Q, t' σ H Q → t σ H Q) : PT X e t' := ⟨fun pins s σ H Q I q => h.run pins s σ H Q I (k σ H Q q)⟩
theorem PW.imp {t t' : TT} (h : PW X e t) (k : ∀ σ H Q, t' σ H Q → t σ H Q) : PW X e t' := ⟨fun wh pins s σ H Q I q => h.run wh pins s σ H Q I (k σ H Q q)⟩
theorem PA.imp {t t' : TA} (h : PA X es t) (k : ∀ σ H Q, t' σ H Q → t σ H Q) : PA X es t' := ⟨fun pos pins s σ H Q I q => h.run pos pins s σ H Q I (k σ H Q q)⟩
end

/-- shared from own -/
def frzM (o : O) : M D := fun ρ => match o.frz with
  | some d => .ok d ρ
  | none => .stuck
/-- a result: a list is a new one -/
def own : D → O
  | .lst l => .lst l
  | d => .fz d
def ownM (o : Option D) : M O := fun ρ => match o with
  | some d => .ok (own d) ρ
  | none => .stuck
/-- a shared value read -/
def fzM (m : M D) : M O := bnd m fun d => ret (.fz d)

section
variable {G : Gx} {W : WX} {B : Bs} {X : Cx} {e a b c : Expr} {es : List Expr} {pos : Pos} {Z : Addr → Option D} {H : Hp} {σ : L2.St} {ρ : En}
theorem pe_frz {m : M O} (h : PE X e (tO G W m)) : PE X e (tE G W (bnd m frzM)) := by
  refine PE.imp h fun σ H Q ⟨B, Z, ρ, hr, hw⟩ => ⟨B, Z, ρ, hr, hw.bnd.mono (Le.refl _) fun o ρ1 h1 v Z1 H1 r1 l1 => ?_⟩
  unfold frzM at h1
  cases q : o.frz with
  | none => rw [q] at h1; exact h1.elim
  | some d =>
    rw [q] at h1
    obtain ⟨Z2, r2, d2, l2⟩ := r1.frz q
    exact h1 v Z2 H1 r2 d2 (l1.trans l2)
theorem pe_fz {m : M D} (h : PE X e (tE G W m)) : PE X e (tO G W (fzM m)) := by
  refine PE.imp h fun σ H Q ⟨B, Z, ρ, hr, hw⟩ => ⟨B, Z, ρ, hr, hw.bnd.mono (Le.refl _) fun d ρ1 h1 v Z1 H1 r1 d1 l1 => ?_⟩
  exact h1 v Z1 H1 (r1.fz d1) l1
/-- a constant, shared -/
theorem pe_cst {t : TE} {d : D} {v : V} (h : PE X e t) (ht : ∀ σ H (Q : VK), Q v H → t σ H Q) (hr : ∀ Z, RelD G Z v d) : PE X e (tE G W (ret d)) := by
  refine PE.imp h fun σ H Q ⟨B, Z, ρ, hl, hw⟩ => ht σ H Q (hw v Z H hl (hr Z) (Le.refl _))

/-- a name's value, shared from now on -/
def rdv (i : Nat) : M D := fun ρ => match (ρ[i]?).getD none with
  | some (.fz d) => .ok d ρ
  | some (.lst l) => .ok (.lst l) (ρ.set i (some (.fz (.lst l))))
  | _ => .stuck
theorem getD_some {i : Nat} {o : O} (e : (ρ[i]?).getD none = some o) : ρ[i]? = some (some o) := by
  cases q : ρ[i]? with
  | none => rw [q] at e; cases e
  | some x => rw [q] at e; cases e; rfl
theorem set_none_set {i : Nat} {x : Option O} : ((ρ.set i none).set i x) = ρ.set i x := by rw [List.set_set]
theorem rd_slot {i : Nat} (hr : Rl G B Z H σ ρ) {d : D} {ρ' : En} (e : rdv i ρ = .ok d ρ') : ∃ v Z', σ[i]? = some (some v) ∧ Rl G B Z' H σ ρ' ∧ RelD G Z' v d ∧ Le Z Z' := by
  unfold rdv at e
  cases q : (ρ[i]?).getD none with
  | none => rw [q] at e; cases e
  | some o =>
    rw [q] at e
    cases o with
    | fz d' =>
      cases e
      obtain ⟨v, ev, rd⟩ := hr.get (getD_some q)
      exact ⟨v, Z, ev, hr, rd, Le.refl _⟩
    | lst l =>
      cases e
      obtain ⟨v, ev, rr⟩ := hr.take (getD_some q)
      obtain ⟨Z2, r2, d2, l2⟩ := rr.frz (d := .lst l) rfl
      refine ⟨v, Z2, ev, ?_, d2, l2⟩
      have := r2.setFz ev d2
      rw [set_none_set] at this
      exact this
    | ins c fs => cases e
theorem pe_rd {i : Nat} (h : PE X e (tVar i)) : PE X e (tE G W (rdv i)) := by
  refine PE.imp h fun σ H Q ⟨B, Z, ρ, hr, hw⟩ => ?_
  cases q : rdv i ρ with
  | ok d ρ1 =>
    rw [q] at hw
    obtain ⟨v, Z2, ev, r2, d2, l2⟩ := rd_slot hr q
    exact ⟨v, ev, hw v Z2 H r2 d2 l2⟩
  | exc c ρ1 =>
    exfalso
    unfold rdv at q
    split at q <;> cases q
  | stuck => rw [q] at hw; exact hw.elim
/-- a name's value moved out -/
def mvv (i : Nat) : M O := fun ρ => match (ρ[i]?).getD none with
  | some o => .ok o (ρ.set i none)
  | none => .stuck
theorem pe_mv {i : Nat} (h : PE X e (tVar i)) : PE X e (tO G W (mvv i)) := by
  refine PE.imp h fun σ H Q ⟨B, Z, ρ, hr, hw⟩ => ?_
  unfold mvv at hw
  cases q : (ρ[i]?).getD none with
  | none => rw [q] at hw; exact hw.elim
  | some o =>
    rw [q] at hw
    obtain ⟨v, ev, rr⟩ := hr.take (getD_some q)
    exact ⟨v, ev, hw v Z H rr (Le.refl _)⟩

/-! ### values to values -/
/-- r asks no more than that g answers -/
def CompatL (G : Gx) (r : List V → Hp → VK → Prop) (g : List D → Option D) : Prop :=
  ∀ Z H vs ds f Q, ZOk G Z H → RelDs G Z vs ds → g ds = some f → (∀ v Z' H', NewR G Z H Z' H' v (own f) → Q v H') → r vs H Q
def Compat2 (G : Gx) (r : R2) (g : D → D → Option D) : Prop :=
  ∀ Z H x y d e f Q, ZOk G Z H → RelD G Z x d → RelD G Z y e → g d e = some f → (∀ v Z' H', NewR G Z H Z' H' v (own f) → Q v H') → r x y H Q
def Compat1 (G : Gx) (r : V → Hp → VK → Prop) (g : D → Option D) : Prop :=
  ∀ Z H x d f Q, ZOk G Z H → RelD G Z x d → g d = some f → (∀ v Z' H', NewR G Z H Z' H' v (own f) → Q v H') → r x H Q
/-- .. to what stood or is flat, shared -/
def CompatF (G : Gx) (r : R2) (g : D → D → Option D) : Prop :=
  ∀ Z H x y d e f Q, ZOk G Z H → RelD G Z x d → RelD G Z y e → g d e = some f → (∀ v, RelD G Z v f → Q v H) → r x y H Q

theorem end2 {f : Option D} {Q : VK} {Z0 : Addr → Option D} (hr : Rl G B Z H σ ρ) (l0 : Le Z0 Z) (h : Wp G B W Z0 σ (ownM f ρ) fun o ρ' => ∀ v Z' H', RlR G B Z' H' σ ρ' v o → Le Z0 Z' → Q v H') :
    ∃ d, f = some d ∧ ∀ v Z' H', NewR G Z H Z' H' v (own d) → Q v H' := by
  unfold ownM at h
  cases f with
  | none => exact h.elim
  | some d => exact ⟨d, rfl, fun v Z' H' n => h v Z' H' (hr.new n) (l0.trans (n.ext.le hr.zok))⟩
theorem endF {f : Option D} {Q : VK} {Z0 : Addr → Option D} (hr : Rl G B Z H σ ρ) (l0 : Le Z0 Z) (h : Wp G B W Z0 σ (ofOpt f ρ) fun d ρ' => ∀ v Z' H', Rl G B Z' H' σ ρ' → RelD G Z' v d → Le Z0 Z' → Q v H') :
    ∃ d, f = some d ∧ ∀ v, RelD G Z v d → Q v H := by
  unfold ofOpt at h
  cases f with
  | none => exact h.elim
  | some d => exact ⟨d, rfl, fun v r => h v Z H hr r l0⟩
theorem two_of {ta tb : TE} {ma mb : M D} {r : R2} {g : D → D → M O} (hta : ta = tE G W ma) (htb : tb = tE G W mb) (h : ∀ B Z H σ ρ Z0 x y d e Q, Rl G B Z H σ ρ → Le Z0 Z → RelD G Z x d → RelD G Z y e →
    Wp G B W Z0 σ (g d e ρ) (fun o ρ' => ∀ v Z' H', RlR G B Z' H' σ ρ' v o → Le Z0 Z' → Q v H') → r x y H Q) : ∀ σ H Q, tO G W (bnd ma fun x => bnd mb fun y => g x y) σ H Q → tOp r ta tb σ H Q := by
  subst hta htb
  rintro σ H Q ⟨B, Z, ρ, hr, hw⟩
  refine ⟨B, Z, ρ, hr, hw.bnd.mono (Le.refl _) fun d ρ1 h1 v1 Z1 H1 r1 d1 l1 => ?_⟩
  refine ⟨B, Z1, ρ1, r1, h1.bnd.mono l1 fun d' ρ2 h2 v2 Z2 H2 r2 d2 l2 => ?_⟩
  exact h B Z2 H2 σ ρ2 Z v1 v2 d d' Q r2 (l1.trans l2) (d1.mono l2) d2 h2
theorem two_own {ma mb : M D} {r : R2} {g : D → D → Option D} (hg : Compat2 G r g) : ∀ σ H Q, tO G W (bnd ma fun x => bnd mb fun y => ownM (g x y)) σ H Q → tOp r (tE G W ma) (tE G W mb) σ H Q :=
  two_of rfl rfl fun B Z H σ ρ Z0 x y d e Q hr l0 rx ry hw => by
    obtain ⟨f, ef, hf⟩ := end2 hr l0 hw
    exact hg Z H x y d e f Q hr.zok rx ry ef hf
/-- a op b -/
theorem pe_bin {op : Operator} {ma mb : M D} {r : R2} {g : D → D → Option D} (ho : OpR X (binaryOp op) r) (hg : Compat2 G r g) (ha : PE X a (tE G W ma)) (hb : PE X b (tE G W mb)) :
    PE X (.BinOp a op b pos) (tO G W (bnd ma fun x => bnd mb fun y => ownM (g x y))) := PE.imp (pe_op ho ha hb) (two_own hg)
/-- a cmp b -/
theorem pe_cmp2 {op : CmpOp} {ma mb : M D} {r : R2} {g : D → D → Option D} (ho : OpR X (compareOp op) r) (hg : Compat2 G r g) (hm : behindInMarks op b = false) (ha : PE X a (tE G W ma)) (hb : PE X b (tE G W mb)) :
    PE X (.Compare a [op] [b] pos) (tO G W (bnd ma fun x => bnd mb fun y => ownM (g x y))) := PE.imp (pe_cmpR ho ha hb hm) (two_own hg)
theorem pe_un1 {op : UnaryOp} {ma : M D} {r : V → Hp → VK → Prop} {g : D → Option D} (ho : UnR X (unaryOp op) r) (hg : Compat1 G r g) (ha : PE X a (tE G W ma)) :
    PE X (.UnaryOp op a pos) (tO G W (bnd ma fun x => ownM (g x))) := PE.imp (pe_un ho ha) fun σ H Q ⟨B, Z, ρ, hr, hw⟩ => ⟨B, Z, ρ, hr, hw.bnd.mono (Le.refl _) fun d ρ1 h1 v1 Z1 H1 r1 d1 l1 => by
  obtain ⟨f, ef, hf⟩ := end2 r1 l1 h1
  exact hg Z1 H1 v1 d f Q r1.zok d1 ef hf⟩
/-- a[b], by a rule that makes nothing -/
theorem pe_idx {ma mb : M D} {r : R2} {g : D → D → Option D} (hi : IxR X r) (hg : CompatF G r g) (hs : PlainIx b) (ha : PE X a (tE G W ma)) (hb : PE X b (tE G W mb)) :
    PE X (.Subscript a b pos) (tE G W (bnd ma fun x => bnd mb fun y => ofOpt (g x y))) := PE.imp (pe_ix hi ha hb hs) fun σ H Q ⟨B, Z, ρ, hr, hw⟩ => by
  refine ⟨B, Z, ρ, hr, hw.bnd.mono (Le.refl _) fun d ρ1 h1 v1 Z1 H1 r1 d1 l1 => ?_⟩
  refine ⟨B, Z1, ρ1, r1, h1.bnd.mono l1 fun d' ρ2 h2 v2 Z2 H2 r2 d2 l2 => ?_⟩
  obtain ⟨f, ef, hf⟩ := endF r2 (l1.trans l2) h2
  exact hg Z2 H2 v1 v2 d d' f Q r2.zok (d1.mono l2) d2 ef hf

/-! ### argument lists -/
theorem pa_nil' : PA X [] (tAs G W (ret [])) := PA.imp pa_nil fun σ H Q ⟨B, Z, ρ, hr, hw⟩ => hw [] Z H hr .nil (Le.refl _)
theorem pa_cons' {m : M D} {ms : M (List D)} (ha : PE X e (tE G W m)) (hr : PA X es (tAs G W ms)) (hs : starEach (e :: es) X.env = (false, eval e X.env) :: starEach es X.env) :
    PA X (e :: es) (tAs G W (bnd m fun d => bnd ms fun ds => ret (d :: ds))) := PA.imp (pa_cons ha hr hs) fun σ H Q ⟨B, Z, ρ, hr, hw⟩ => by
  refine ⟨B, Z, ρ, hr, hw.bnd.mono (Le.refl _) fun d ρ1 h1 v1 Z1 H1 r1 d1 l1 => ?_⟩
  refine ⟨B, Z1, ρ1, r1, h1.bnd.mono l1 fun ds ρ2 h2 vs Z2 H2 r2 d2 l2 => ?_⟩
  exact h2 (v1 :: vs) Z2 H2 r2 (.cons (d1.mono l2) d2) (l1.trans l2)
theorem RelDs.length {vs : List V} {ds : List D} (h : RelDs G Z vs ds) : vs.length = ds.length := Paired.length h
/-- a display's size -/
def tupM (ds : List D) : M O := fun ρ => if ds.length ≤ sizeLine then .ok (.fz (.tup ds)) ρ else .stuck
def lstM (ds : List D) : M O := fun ρ => if ds.length ≤ sizeLine then .ok (.lst ds) ρ else .stuck
theorem pe_tupD {ms : M (List D)} {k : Nat} (h : PA X es (tAs G W ms)) : PE X (.Tuple es k pos) (tO G W (bnd ms tupM)) := PE.imp (pe_tup h) fun σ H Q ⟨B, Z, ρ, hr, hw⟩ => by
  refine ⟨B, Z, ρ, hr, hw.bnd.mono (Le.refl _) fun ds ρ1 h1 vs Z1 H1 r1 d1 l1 => ?_⟩
  unfold tupM at h1
  by_cases hz : ds.length ≤ sizeLine
  · rw [if_pos hz] at h1
    refine ⟨by rw [d1.length]; exact hz, fun p np => ?_⟩
    have n := NewR.tup r1.zok np d1
    exact h1 _ _ _ (r1.new n) (l1.trans (n.ext.le r1.zok))
  · rw [if_neg hz] at h1; exact h1.elim
theorem pe_lstD {ms : M (List D)} (h : PA X es (tAs G W ms)) : PE X (.List es pos) (tO G W (bnd ms lstM)) := PE.imp (pe_lst h) fun σ H Q ⟨B, Z, ρ, hr, hw⟩ => by
  refine ⟨B, Z, ρ, hr, hw.bnd.mono (Le.refl _) fun ds ρ1 h1 vs Z1 H1 r1 d1 l1 => ?_⟩
  unfold lstM at h1
  by_cases hz : ds.length ≤ sizeLine
  · rw [if_pos hz] at h1
    refine ⟨by rw [d1.length]; exact hz, fun p np => ?_⟩
    have n := NewR.lst r1.zok np d1
    exact h1 _ _ _ (r1.new n) (l1.trans (n.ext.le r1.zok))
  · rw [if_neg hz] at h1; exact h1.elim
/-- a reading of arguments, then a rule by values -/
theorem args_own {ms : M (List D)} {r : List V → Hp → VK → Prop} {g : List D → Option D} (hg : CompatL G r g) : ∀ σ H Q, tO G W (bnd ms fun ds => ownM (g ds)) σ H Q → tCB r (tAs G W ms) σ H Q := by
  rintro σ H Q ⟨B, Z, ρ, hr, hw⟩
  refine ⟨B, Z, ρ, hr, hw.bnd.mono (Le.refl _) fun ds ρ1 h1 vs Z1 H1 r1 d1 l1 => ?_⟩
  obtain ⟨f, ef, hf⟩ := end2 r1 l1 h1
  exact hg Z1 H1 vs ds f Q r1.zok d1 ef hf

/-! ### tests -/
def asB (d : D) : M Bool := fun ρ => match d with
  | .bl b => .ok b ρ
  | _ => .stuck
theorem RelD.bl_inv {v : V} {k : Bool} (r : RelD G Z v (.bl k)) (zok : ZOk G Z H) (kok : KOk G) : v = .bl k := by
  cases v with
  | bl c => exact congrArg V.bl r
  | ref p =>
    rcases r with r | r
    · exact ((zok p _ r).2).elim
    · exact (kok p _ r Z H).elim
  | _ => exact r.elim
/-- .. of a comparison -/
theorem pt_of_o {m : M O} {t : TE} (h : PT X e (tTest t)) (kok : KOk G) (k : ∀ σ H Q, tO G W m σ H Q → t σ H Q) : PT X e (tB G W (bnd m fun o => bnd (frzM o) asB)) := PT.imp h fun σ H Q ⟨B, Z, ρ, hr, hw⟩ => by
  refine k σ H _ ⟨B, Z, ρ, hr, hw.bnd.mono (Le.refl _) fun o ρ1 h1 v Z1 H1 r1 l1 => ?_⟩
  have h2 := h1.bnd
  unfold frzM at h2
  cases q : o.frz with
  | none => rw [q] at h2; exact h2.elim
  | some d =>
    rw [q] at h2
    obtain ⟨Z2, r2, d2, l2⟩ := r1.frz q
    cases d with
    | bl b => exact ⟨b, d2.bl_inv r2.zok kok, h2 Z2 H1 r2 (l1.trans l2)⟩
    | _ => exact h2.elim
theorem pt_cmp2 {op : CmpOp} {ma mb : M D} {r : R2} {g : D → D → Option D} (kok : KOk G) (ho : OpR X (compareOp op) r) (hg : Compat2 G r g) (hm : behindInMarks op b = false) (ha : PE X a (tE G W ma)) (hb : PE X b (tE G W mb)) :
    PT X (.Compare a [op] [b] pos) (tB G W (bnd (bnd ma fun x => bnd mb fun y => ownM (g x y)) fun o => bnd (frzM o) asB)) := pt_of_o (pt_cmpR ho ha hb hm) kok (two_own hg)
end
end FW
set_option Elab.async false
set_option linter.all false
set_option maxRecDepth 100000
namespace FW
open PySem PySem.Spec L2
/-! ### the signs of a text, counted -/
def Ites (x : Str) : It :=
  ⟨fun i _ => i < x.cps.size, fun i H v H' => ∃ T c, v = .ref T ∧ H T = none ∧ H' = upd H T (.tup [.int (i : Nat), .str ⟨#[c]⟩]) ∧ x.cps[i]? = some c, fun i _ => i = x.cps.size⟩
theorem draws_str {prog : Program} {w : World} {A : Around} (hh : A.handled = none) (it : Addr) (x : Str) (t : Tok) : Draws prog w A it [it] x.cps.size (SignAt x) (fun i h => h.IsStrIter it (strIterType x) x t i) := by
  unfold strIterType
  split
  · exact Draws.strAscii hh it x t
  · exact Draws.strWide hh it x t
theorem turn_enumS {P : Program} {w : World} {K : PySem.W.Frag} {elts : List Expr} {kk : Nat} {tpos : Pos} (x : Str) (t : Tok) (e it : Addr) :
    Turn P w K (.Tuple elts kk tpos) (Ites x) [e, it] e (fun i h => (∃ old, IsEnum h e it ((i : Nat) : Int) old) ∧ h.IsStrIter it (strIterType x) x t i ∧ e ≠ it) where
  mem := by simp
  obj := fun i h st b hb => by
    obtain ⟨⟨old, he⟩, ⟨o, ho, hc, hd⟩, _⟩ := st
    have e' : b = e ∨ b = it := by simpa using hb
    rcases e' with z | z
    · rw [z]; exact ⟨_, he, fun v q => nomatch q⟩
    · rw [z]; exact ⟨o, ho, fun v q => by rw [hd] at q; cases q⟩
  keep := fun i h h' st k => let ⟨⟨old, he⟩, ⟨o, ho, r⟩, hne⟩ := st; ⟨⟨old, k e (by simp) _ he⟩, ⟨o, k it (by simp) o ho, r⟩, hne⟩
  item := by
    intro X hP hw hK hc i pins s σ H E I hf st hg
    subst hP hw hK
    obtain ⟨⟨old, he⟩, hit, hne⟩ := st
    have hel : e < s.heap.objs.size := Heap.lt_size he
    have hil : it < s.heap.objs.size := by obtain ⟨_, q, _⟩ := hit; exact Heap.lt_size q
    refine wpAny_pyNext_enum_itemD (draws_str (A := X.A.in1) (I.ok.hd hc) it x t) he hit hg hne (by simpa using hne) fun u h' tk hP ho hit' hT hsz hk => ?_
    obtain ⟨c, tu, hcx, rfl⟩ := hP
    refine ⟨_, rfl, wpAny_letOwnedTupleGo_enum (s := { s with heap := h', toks := tk + 1 }) ho fun h'' he' sb => ?_⟩
    have hT2 : h''.get? s.heap.objs.size = some { cls := .type "tuple", data := .seq #[.int i tk, .str ⟨#[c]⟩ tu] } := (sb.2 _ (Nat.ne_of_gt hel)).trans hT
    have new : ObjOk X.prog X.w (upd H s.heap.objs.size (.tup [.int (i : Nat), .str ⟨#[c]⟩])) h'' s.heap.objs.size (.tup [.int (i : Nat), .str ⟨#[c]⟩]) :=
      ⟨by show 2 ≤ sizeLine; decide, [.int i tk, .str ⟨#[c]⟩ tu], .cons ⟨_, rfl⟩ (.cons ⟨_, rfl⟩ .nil), ⟨_, hT2, rfl, _, rfl⟩⟩
    have I1 : Inv X pins σ (upd H s.heap.objs.size (.tup [.int (i : Nat), .str ⟨#[c]⟩])) { s with heap := h'', toks := tk + 1 } :=
      I.turnedNew (ch := [e, it]) (fun b ob hb q => (sb.2 b (fun z => hb (by simp [z]))).trans (hk b ob (fun z => hb (by simp [z])) (fun z => hb (by simp [z])) q)) hf (Nat.le_refl _) new
    refine ⟨.ref s.heap.objs.size, _, I1, rfl, ⟨_, c, rfl, I.hok.fresh (Nat.le_refl _), rfl, hcx⟩, ⟨⟨.str ⟨#[c]⟩ tu, ?_⟩, ?_, hne⟩, fun b hb => ?_⟩
    · have e1 : ((i + 1 : Nat) : Int) = (i : Int) + 1 := by omega
      rw [e1]; exact he'
    · obtain ⟨o, ho, r⟩ := hit'
      exact ⟨o, (sb.2 it (Ne.symm hne)).trans ho, r⟩
    · have hb' : b < s.heap.objs.size := by
        have e' : b = e ∨ b = it := by simpa using hb
        rcases e' with z | z
        · rw [z]; exact hel
        · rw [z]; exact hil
      rw [upd_ne (Nat.ne_of_lt hb')]
      exact (hf b hb).1
  done := by
    intro X hP hw hK hc i pins s σ H E I hf st hg
    subst hP hw hK
    obtain ⟨⟨old, he⟩, hit, hne⟩ := st
    obtain ⟨f0, f1, f2, f3, f4, f5⟩ := hf it (by simp)
    have hg : i = x.cps.size := hg
    refine wpAny_pyNext_enum_endD (draws_str (A := X.A.in1) (I.ok.hd hc) it x t) he (by rw [← hg]; exact hit) fun h' eb => ⟨rfl, I.turned (t' := s.toks) (fun b o hb q => eb b o hb q) f0 f1 f3 f4 f5⟩
  self := fun A i s Q E st h => let ⟨⟨_, he⟩, _⟩ := st; wpAny_pyIter_enum he h
def iEnumS (ta : TA) : TI := fun σ H R => ta σ H fun vs H1 => ∃ x, vs = [.str x] ∧ R (Ites x) H1
theorem pi_enumS {X : Cx} {e : Expr} {ta : TA} {p pos tpos : Pos} {elts : List Expr} {kk : Nat} (hg : Gl X "enumerate") (hm : X.mg "enumerate" = none) (ha : PA X [e] ta) (hs : starEach [e] X.env = [(false, eval e X.env)] := by rfl) :
    PI X (.Tuple elts kk tpos) (.Call (.Name "enumerate" p) [e] [] pos) (iEnumS ta) := by
  refine ⟨fun pins s σ H R I h => ?_⟩
  refine PyProof.Rows.Call_ (ld_blt I hg hm PyProof.Rows.boot_enumerate (PyProof.Rows.callWith_type1 (thn (ha.run pos pins s σ H _ I h) fun us s1 ⟨vs, H1, I1, r1, q1⟩ => ?_) hs rfl))
  obtain ⟨x, ex, q⟩ := q1
  subst ex
  cases r1 with
  | cons r rr =>
    cases rr
    obtain ⟨t, rfl⟩ := r
    refine call_enumerate_str fun h' he hit hsz hk => wpAny_pyIter_enum he ?_
    have I2 : Inv X pins σ H1 { s1 with heap := h' } := I1.kept (t' := s1.toks) hk
    refine ⟨s1.heap.objs.size + 1, [s1.heap.objs.size + 1, s1.heap.objs.size], _, _, H1, rfl, I2, turn_enumS x t (s1.heap.objs.size + 1) s1.heap.objs.size, ⟨⟨.none, he⟩, hit, Nat.succ_ne_self _⟩, fun b hb => ?_, q⟩
    have e' : b = s1.heap.objs.size + 1 ∨ b = s1.heap.objs.size := by simpa using hb
    have hle : s1.heap.objs.size ≤ b := by
      rcases e' with z | z
      · rw [z]; exact Nat.le_add_right _ _
      · rw [z]; exact Nat.le_refl _
    exact I1.fpOk hle (I1.hok.fresh hle)
end FW
set_option Elab.async false
set_option linter.all false
set_option maxRecDepth 100000
/-! FW3: tests, calls, iterators, comprehensions, statements -/
namespace FW
open PySem PySem.Spec L2

section
variable {G : Gx} {W : WX} {B : Bs} {X : Cx} {e a b c : Expr} {es : List Expr} {pos : Pos} {Z : Addr → Option D} {H : Hp} {σ : L2.St} {ρ : En}

/-! ### chains, tests -/
def chainM (ma mb mc : M D) (g g' : D → D → Option D) : M O := bnd ma fun x => bnd mb fun y => bnd (ownM (g x y)) fun z => bnd (bnd (frzM z) asB) fun k => if k then bnd mc fun w => ownM (g' y w) else ret (.fz (.bl false))
theorem chain_to {ma mb mc : M D} {r r' : R2} {g g' : D → D → Option D} (kok : KOk G) (hg : Compat2 G r g) (hg' : Compat2 G r' g') : ∀ σ H Q, tO G W (chainM ma mb mc g g') σ H Q → tChain r r' (tE G W ma) (tE G W mb) (tE G W mc) σ H Q := by
  rintro σ H Q ⟨B, Z, ρ, hr, hw⟩
  refine ⟨B, Z, ρ, hr, hw.bnd.mono (Le.refl _) fun d ρ1 h1 v1 Z1 H1 r1 d1 l1 => ?_⟩
  refine ⟨B, Z1, ρ1, r1, h1.bnd.mono l1 fun d' ρ2 h2 v2 Z2 H2 r2 d2 l2 => ?_⟩
  have h3 := h2.bnd
  unfold ownM at h3
  cases q : g d d' with
  | none => rw [q] at h3; exact h3.elim
  | some f =>
    rw [q] at h3
    refine hg Z2 H2 v1 v2 d d' f _ r2.zok (d1.mono l2) d2 q fun v Z3 H3 n => ?_
    have h4 : Wp G B W Z σ (bnd (bnd (frzM (own f)) asB) (fun k => if k then bnd mc fun w => ownM (g' d' w) else ret (.fz (.bl false))) ρ2) _ := h3
    have l3 := n.ext.le r2.zok
    cases f with
    | bl k =>
      have r3 := r2.new n
      have ev : v = .bl k := r3.relD.bl_inv r3.zok kok
      refine ⟨k, ev, ?_⟩
      cases k with
      | false => exact h4 (.bl false) Z3 H3 (r3.rl.fz rfl) (l1.trans (l2.trans l3))
      | true =>
        refine ⟨B, Z3, ρ2, r3.rl, (Wp.bnd (f := fun w => ownM (g' d' w)) h4).mono (l1.trans (l2.trans l3)) fun dw ρ4 h5 v4 Z4 H4 r4 d4 l4 => ?_⟩
        obtain ⟨f', ef, hf⟩ := end2 r4 (l1.trans (l2.trans (l3.trans l4))) h5
        exact hg' Z4 H4 v2 v4 d' dw f' Q r4.zok (d2.mono (l3.trans l4)) d4 ef hf
    | _ => exact h4.elim
theorem pe_chain2 {op op' : CmpOp} {ma mb mc : M D} {r r' : R2} {g g' : D → D → Option D} (kok : KOk G) (ho : OpR X (compareOp op) r) (ho' : OpR X (compareOp op') r') (hg : Compat2 G r g) (hg' : Compat2 G r' g') (hm : lastMarks [op, op'] [b, c] = false)
    (ha : PE X a (tE G W ma)) (hb : PE X b (tE G W mb)) (hc : PE X c (tE G W mc)) : PE X (.Compare a [op, op'] [b, c] pos) (tO G W (chainM ma mb mc g g')) := PE.imp (pe_chain ho ho' ha hb hc hm) (chain_to kok hg hg')
theorem pt_chain2 {op op' : CmpOp} {ma mb mc : M D} {r r' : R2} {g g' : D → D → Option D} (kok : KOk G) (ho : OpR X (compareOp op) r) (ho' : OpR X (compareOp op') r') (hg : Compat2 G r g) (hg' : Compat2 G r' g') (hm : lastMarks [op, op'] [b, c] = false)
    (ha : PE X a (tE G W ma)) (hb : PE X b (tE G W mb)) (hc : PE X c (tE G W mc)) : PT X (.Compare a [op, op'] [b, c] pos) (tB G W (bnd (chainM ma mb mc g g') fun o => bnd (frzM o) asB)) := pt_of_o (pt_chain ho ho' ha hb hc hm) kok (chain_to kok hg hg')

/-- a value's truth -/
def truD : D → Option Bool
  | .non => some false
  | .bl b => some b
  | .int i => some (i != 0)
  | .str s => if s.length ≤ sizeLine then some ((s.length : Int) != 0) else none
  | .lst l => some (!l.isEmpty)
  | .tup l => some (!l.isEmpty)
  | .dic _ => none
  | .scr _ => none
theorem RelDs.isEmpty {vs : List V} {ds : List D} (h : RelDs G Z vs ds) : vs.isEmpty = ds.isEmpty := by cases h <;> rfl
theorem ref_cont {p : Addr} {d : D} (zok : ZOk G Z H) (kok : KOk G) (r : Z p = some d ∨ G.KD p d) : Cont G Z H p d := by
  rcases r with r | r
  · exact (zok p d r).2
  · exact kok p d r Z H
theorem tru_ok' {v : V} {d : D} {k : Bool} (zok : ZOk G Z H) (kok : KOk G) (r : RelD G Z v d) (h : truD d = some k) : TruV G.K v H k := by
  cases v with
  | ref p =>
    have ct := ref_cont zok kok r
    cases d with
    | lst l => obtain ⟨vs, s, rd⟩ := ct; cases h; exact .inl ⟨vs, SqL.of s, by rw [rd.isEmpty]⟩
    | tup l => obtain ⟨vs, s, rd⟩ := ct; cases h; exact .inr (.inl ⟨vs, s, by rw [rd.isEmpty]⟩)
    | dic l => cases h
    | scr l => cases h
    | _ => exact ct.elim
  | non => cases d <;> first | exact r.elim | (cases h; rfl)
  | bl b => cases d <;> first | exact r.elim | (cases h; exact Eq.symm r)
  | int b => cases d <;> first | exact r.elim | (cases h; cases (show b = _ from r); rfl)
  | str b =>
    cases d with
    | str l =>
      cases (show b = ⟨l.toArray⟩ from r)
      have h' : (if l.length ≤ sizeLine then some ((l.length : Int) != 0) else none) = some k := h
      by_cases hz : l.length ≤ sizeLine
      · rw [if_pos hz] at h'; cases h'; exact ⟨hz, rfl⟩
      · rw [if_neg hz] at h'; cases h'
    | _ => exact r.elim
  | _ => exact r.elim
def truM (m : M D) : M Bool := bnd m fun d => ofOpt (truD d)
theorem pt_truM {m : M D} (kok : KOk G) (h : PE X e (tE G W m)) (he : ∀ whole, isTrue e X.env whole = (do let v ← whole; standAt e.pos; holding [v] (truthy v))) (hk : X.K = G.K) : PT X e (tB G W (truM m)) :=
  PT.imp (pt_truth h he) fun σ H Q ⟨B, Z, ρ, hr, hw⟩ => ⟨B, Z, ρ, hr, hw.bnd.mono (Le.refl _) fun d ρ1 h1 v1 Z1 H1 r1 d1 l1 => by
    unfold ofOpt at h1
    cases q : truD d with
    | none => rw [q] at h1; exact h1.elim
    | some k => rw [q] at h1; exact ⟨k, by rw [hk]; exact tru_ok' r1.zok kok d1 q, h1 Z1 H1 r1 l1⟩⟩
theorem pt_notM {m : M Bool} (h : PT X a (tB G W m)) : PT X (.UnaryOp .Not a pos) (tB G W (bnd m fun k => ret (!k))) := PT.imp (pt_not h) fun σ H Q ⟨B, Z, ρ, hr, hw⟩ =>
  ⟨B, Z, ρ, hr, hw.bnd.mono (Le.refl _) fun k ρ1 h1 Z1 H1 r1 l1 => h1 Z1 H1 r1 l1⟩
theorem pw_and1M {m : M Bool} (h : PT X a (tB G W m)) : PW X (.BoolOp .And [a] pos) (tB G W m) := pw_and1 h
theorem pw_or1M {m : M Bool} (h : PT X a (tB G W m)) : PW X (.BoolOp .Or [a] pos) (tB G W m) := pw_or1 h
def andM (m n : M Bool) : M Bool := bnd m fun k => if k then n else ret false
def orM (m n : M Bool) : M Bool := bnd m fun k => if k then ret true else n
theorem and_to {m n : M Bool} : ∀ σ H Q, tB G W (andM m n) σ H Q → tAnd (tB G W m) (tB G W n) σ H Q := fun σ H Q ⟨B, Z, ρ, hr, hw⟩ => ⟨B, Z, ρ, hr, hw.bnd.mono (Le.refl _) fun k ρ1 h1 Z1 H1 r1 l1 => by
  cases k with
  | true => exact ⟨B, Z1, ρ1, r1, h1.mono l1 fun k2 ρ2 h2 Z2 H2 r2 l2 => h2 Z2 H2 r2 (l1.trans l2)⟩
  | false => exact h1 Z1 H1 r1 l1⟩
theorem or_to {m n : M Bool} : ∀ σ H Q, tB G W (orM m n) σ H Q → tOr (tB G W m) (tB G W n) σ H Q := fun σ H Q ⟨B, Z, ρ, hr, hw⟩ => ⟨B, Z, ρ, hr, hw.bnd.mono (Le.refl _) fun k ρ1 h1 Z1 H1 r1 l1 => by
  cases k with
  | false => exact ⟨B, Z1, ρ1, r1, h1.mono l1 fun k2 ρ2 h2 Z2 H2 r2 l2 => h2 Z2 H2 r2 (l1.trans l2)⟩
  | true => exact h1 Z1 H1 r1 l1⟩
theorem pw_andM {m n : M Bool} {rest : List Expr} (ha : PT X a (tB G W m)) (hb : PW X (.BoolOp .And (b :: rest) pos) (tB G W n)) : PW X (.BoolOp .And (a :: b :: rest) pos) (tB G W (andM m n)) := PW.imp (pw_and ha hb) and_to
theorem pw_orM {m n : M Bool} {rest : List Expr} (ha : PT X a (tB G W m)) (hb : PW X (.BoolOp .Or (b :: rest) pos) (tB G W n)) : PW X (.BoolOp .Or (a :: b :: rest) pos) (tB G W (orM m n)) := PW.imp (pw_or ha hb) or_to
/-- a if t else b -/
def iteM {α : Type} (t : M Bool) (m n : M α) : M α := bnd t fun k => if k then m else n
theorem pe_iteO {t : M Bool} {m n : M O} (hc : PT X c (tB G W t)) (ha : PE X a (tO G W m)) (hb : PE X b (tO G W n)) : PE X (.IfExp c a b pos) (tO G W (iteM t m n)) := PE.imp (pe_ifExp hc ha hb) fun σ H Q ⟨B, Z, ρ, hr, hw⟩ =>
  ⟨B, Z, ρ, hr, hw.bnd.mono (Le.refl _) fun k ρ1 h1 Z1 H1 r1 l1 => by
  cases k with
  | true => rw [if_pos rfl]; exact ⟨B, Z1, ρ1, r1, Wp.mono (r := m ρ1) h1 l1 fun k2 ρ2 h2 v Z2 H2 r2 l2 => h2 v Z2 H2 r2 (l1.trans l2)⟩
  | false => rw [if_neg Bool.false_ne_true]; exact ⟨B, Z1, ρ1, r1, Wp.mono (r := n ρ1) h1 l1 fun k2 ρ2 h2 v Z2 H2 r2 l2 => h2 v Z2 H2 r2 (l1.trans l2)⟩⟩

/-! ### calls -/
inductive FR where
  | ok (r : O) (s : Option O) | exc (c : Nat) (s : Option O) | stuck
/-- a def's promise: shared values in; out what Fn answers -/
def spF (G : Gx) (Fn : List O → FR) (n : Nat) : Sp := fun vs H Q E => ∃ Z ds, ZOk G Z H ∧ RelDs G Z vs ds ∧ ds.length = n ∧ match Fn (ds.map .fz) with
  | .ok r _ => ∀ v Z' H', NewR G Z H Z' H' v r → Q v H'
  | .exc c _ => ∀ Z' H', Ext noM Z H Z' H' → ZOk G Z' H' → E (.ref (G.cls c)) none H'
  | .stuck => False
def callM (Fn : List O → FR) (ds : List D) : M O := fun ρ => match Fn (ds.map .fz) with
  | .ok r _ => .ok r ρ
  | .exc c _ => .exc c ρ
  | .stuck => .stuck
theorem args_call {ms : M (List D)} {Fn : List O → FR} {n : Nat} : ∀ σ H Q, tO G W (bnd ms fun ds => if ds.length = n then callM Fn ds else stk) σ H Q → tCallS (spF G Fn n) (WE W) (tAs G W ms) σ H Q := by
  rintro σ H Q ⟨B, Z, ρ, hr, hw⟩
  refine ⟨B, Z, ρ, hr, hw.bnd.mono (Le.refl _) fun ds ρ1 h1 vs Z1 H1 r1 d1 l1 => ?_⟩
  by_cases hn : ds.length = n
  · rw [if_pos hn] at h1
    refine ⟨Z1, ds, r1.zok, d1, hn, ?_⟩
    unfold callM at h1
    cases q : Fn (ds.map .fz) with
    | ok r s => rw [q] at h1; exact fun v Z' H' n => h1 v Z' H' (r1.new n) (l1.trans (n.ext.le r1.zok))
    | exc c s => rw [q] at h1; exact fun Z' H' e z => h1 Z' H' (r1.to e z) (l1.trans (e.le r1.zok))
    | stuck => rw [q] at h1; exact h1
  · rw [if_neg hn] at h1; exact h1.elim

/-! ### what is walked -/
/-- J yields ds, while what is shared stays -/
def WalkD (G : Gx) (J : It) (ds : List D) (Z0 : Addr → Option D) : Prop := ∀ Z H, Le Z0 Z → ZOk G Z H → ∀ i, (i < ds.length → J.go i H ∧ ∀ x H', J.yld i H x H' → ∃ d Z', ds[i]? = some d ∧ NewR G Z H Z' H' x (.fz d)) ∧ (i = ds.length → J.stop i H)
theorem WalkD.of {J : It} {ds : List D} {Z0 : Addr → Option D} (h : ∀ Z H, Le Z0 Z → ZOk G Z H → ∀ i, (i < ds.length → J.go i H ∧ ∀ x H', J.yld i H x H' → ∃ d Z', ds[i]? = some d ∧ NewR G Z H Z' H' x (.fz d)) ∧ (ds.length ≤ i → J.stop i H)) : WalkD G J ds Z0 :=
  fun Z H l z i => ⟨(h Z H l z i).1, fun e => (h Z H l z i).2 (Nat.le_of_eq e.symm)⟩
def tI (G : Gx) (W : WX) (m : M (List D)) : TI := fun σ H R => ∃ B Z ρ, Rl G B Z H σ ρ ∧ Wp G B W Z σ (m ρ) fun ds ρ' => ∀ J Z' H', Rl G B Z' H' σ ρ' → Le Z Z' → WalkD G J ds Z' → R J H'
theorem PI.imp {tg it : Expr} {t t' : TI} (h : PI X tg it t) (k : ∀ σ H Q, t' σ H Q → t σ H Q) : PI X tg it t' := ⟨fun pins s σ H Q I q => h.run pins s σ H Q I (k σ H Q q)⟩
/-- a sequence's items -/
def itemsD : D → Option (List D)
  | .lst l => some l
  | .tup l => some l
  | .str s => some (s.map fun c => .str [c])
  | .scr ns => some (ns.map .int)
  | _ => none
theorem RelDs.at {vs : List V} {ds : List D} (h : RelDs G Z vs ds) : ∀ {i : Nat} {x : V}, vs[i]? = some x → ∃ d, ds[i]? = some d ∧ RelD G Z x d := by
  induction h with
  | nil => intro i x e; simp at e
  | cons a _ ih =>
    intro i x e
    cases i with
    | zero => simp at e; subst e; exact ⟨_, rfl, a⟩
    | succ i => simp at e; simpa using ih e
theorem walkD_list {p : Addr} {ds : List D} {Z0 : Addr → Option D} (kok : KOk G) (h : Z0 p = some (.lst ds) ∨ G.KD p (.lst ds)) : WalkD G (Itl G.K p) ds Z0 := WalkD.of fun Z H l zok i => by
  obtain ⟨vs, s0, rd⟩ := ref_cont (d := .lst ds) zok kok (h.imp (l p _) id)
  have s : SqL G.K H p vs := SqL.of s0
  refine ⟨fun hi => ⟨⟨vs, vs[i]'(by rw [rd.length]; exact hi), s, List.getElem?_eq_getElem _⟩, fun x H' y => ?_⟩, fun hi => ⟨vs, s, by rw [rd.length]; exact hi⟩⟩
  obtain ⟨rfl, y⟩ := y
  obtain ⟨d, e, r⟩ := rd.at (y vs s)
  exact ⟨d, Z, e, .old zok r⟩
theorem walkD_scr {p : Addr} {ns : List Int} {Z0 : Addr → Option D} (kok : KOk G) (h : Z0 p = some (.scr ns) ∨ G.KD p (.scr ns)) : WalkD G (Itl G.K p) (ns.map .int) Z0 := WalkD.of fun Z H l zok i => by
  have s : SqL G.K H p (ns.map V.int) := ref_cont (d := .scr ns) zok kok (h.imp (l p _) id)
  refine ⟨fun hi => ⟨⟨_, (ns.map V.int)[i]'(by simpa using hi), s, List.getElem?_eq_getElem _⟩, fun x H' y => ?_⟩, fun hi => ⟨_, s, by simpa using hi⟩⟩
  obtain ⟨rfl, y⟩ := y
  have e := y _ s
  rw [List.getElem?_map] at e
  cases q : ns[i]? with
  | none => rw [q] at e; cases e
  | some n => rw [q] at e; cases e; exact ⟨.int n, Z, by rw [List.getElem?_map, q]; rfl, .old zok rfl⟩
theorem walkD_tup {p : Addr} {ds : List D} {Z0 : Addr → Option D} (kok : KOk G) (h : Z0 p = some (.tup ds) ∨ G.KD p (.tup ds)) : WalkD G (Itt G.K p) ds Z0 := WalkD.of fun Z H l zok i => by
  obtain ⟨vs, s, rd⟩ := ref_cont (d := .tup ds) zok kok (h.imp (l p _) id)
  refine ⟨fun hi => ⟨⟨vs, vs[i]'(by rw [rd.length]; exact hi), s, List.getElem?_eq_getElem _⟩, fun x H' y => ?_⟩, fun hi => ⟨vs, s, by rw [rd.length]; exact hi⟩⟩
  obtain ⟨rfl, y⟩ := y
  obtain ⟨d, e, r⟩ := rd.at (y vs s)
  exact ⟨d, Z, e, .old zok r⟩
theorem walkD_str {s : List Nat} {Z0 : Addr → Option D} : WalkD G (Its ⟨s.toArray⟩) (s.map fun c => .str [c]) Z0 := WalkD.of fun Z H l zok i => by
  refine ⟨fun hi => ⟨(show i < s.toArray.size by simpa using hi), fun x H' y => ?_⟩, fun hi => (show s.toArray.size ≤ i by simpa using hi)⟩
  obtain ⟨rfl, c, e, rfl⟩ := y
  refine ⟨.str [c], Z, ?_, .old zok rfl⟩
  rw [List.getElem?_map]
  have : s[i]? = some c := by simpa using e
  rw [this]; rfl
theorem walkD_range {lo : Int} {n : Nat} {Z0 : Addr → Option D} : WalkD G (Itr lo n) ((List.range n).map fun (i : Nat) => .int (lo + i)) Z0 := WalkD.of fun Z H l zok i => by
  refine ⟨fun hi => ⟨(show i < n by simpa using hi), fun x H' y => ?_⟩, fun hi => (show n ≤ i by simpa using hi)⟩
  obtain ⟨rfl, rfl⟩ := y
  refine ⟨.int (lo + i), Z, ?_, .old zok rfl⟩
  have : i < n := by simpa using hi
  simp [List.getElem?_map, List.getElem?_range this]
theorem walkD_enum {p : Addr} {ds : List D} {Z0 : Addr → Option D} (kok : KOk G) (h : Z0 p = some (.lst ds) ∨ G.KD p (.lst ds)) : WalkD G (Ite G.K p) (ds.mapIdx fun i d => .tup [.int i, d]) Z0 := WalkD.of fun Z H l zok i => by
  obtain ⟨vs, s0, rd⟩ := ref_cont (d := .lst ds) zok kok (h.imp (l p _) id)
  have s : SqL G.K H p vs := SqL.of s0
  refine ⟨fun hi => ?_, fun hi => ⟨vs, s, by rw [rd.length]; simpa using hi⟩⟩
  have hi : i < vs.length := by rw [rd.length]; simpa using hi
  refine ⟨⟨vs, vs[i], s, List.getElem?_eq_getElem _⟩, fun x H' y => ?_⟩
  obtain ⟨T, x2, rfl, nT, rfl, e2⟩ := y
  obtain ⟨d, e, r⟩ := rd.at (e2 vs s)
  refine ⟨.tup [.int i, d], _, ?_, NewR.tup zok nT (.cons rfl (.cons r .nil))⟩
  rw [List.getElem?_mapIdx, e]; rfl
theorem walkD_rev {p : Addr} {ds : List D} {Z0 : Addr → Option D} (kok : KOk G) (h : Z0 p = some (.lst ds) ∨ G.KD p (.lst ds)) : WalkD G (Itv G.K p ds.length) ds.reverse Z0 := WalkD.of fun Z H l zok i => by
  obtain ⟨vs, s0, rd⟩ := ref_cont (d := .lst ds) zok kok (h.imp (l p _) id)
  have s : SqL G.K H p vs := SqL.of s0
  refine ⟨fun hi => ?_, fun hi => (show ds.length ≤ i by simpa using hi)⟩
  have hi : i < ds.length := by simpa using hi
  have hj : ds.length - 1 - i < vs.length := by rw [rd.length]; omega
  refine ⟨⟨hi, vs, vs[ds.length - 1 - i], s, List.getElem?_eq_getElem _⟩, fun x H' y => ?_⟩
  obtain ⟨rfl, y⟩ := y
  obtain ⟨d, e, r⟩ := rd.at (y vs s)
  exact ⟨d, Z, by rw [List.getElem?_reverse hi]; exact e, .old zok r⟩
theorem walkD_zip {p q : Addr} {ds es : List D} {Z0 : Addr → Option D} (kok : KOk G) (h : Z0 p = some (.lst ds) ∨ G.KD p (.lst ds)) (h' : Z0 q = some (.lst es) ∨ G.KD q (.lst es)) : WalkD G (Itz G.K p q) (ds.zipWith (fun d e => .tup [d, e]) es) Z0 := WalkD.of fun Z H l zok i => by
  obtain ⟨vs, s0, rd⟩ := ref_cont (d := .lst ds) zok kok (h.imp (l p _) id)
  have s : SqL G.K H p vs := SqL.of s0
  obtain ⟨ws, s0', rd'⟩ := ref_cont (d := .lst es) zok kok (h'.imp (l q _) id)
  have s' : SqL G.K H q ws := SqL.of s0'
  refine ⟨fun hi => ?_, fun hi => ⟨vs, ws, s, s', by rw [rd.length, rd'.length]; have hi : min ds.length es.length ≤ i := (by simpa using hi); omega⟩⟩
  have hi : i < min ds.length es.length := by simpa using hi
  have h1 : i < vs.length := by rw [rd.length]; omega
  have h2 : i < ws.length := by rw [rd'.length]; omega
  refine ⟨⟨vs, ws, vs[i], ws[i], s, s', List.getElem?_eq_getElem _, List.getElem?_eq_getElem _⟩, fun x H' y => ?_⟩
  obtain ⟨T, x1, x2, rfl, nT, rfl, e1, e2⟩ := y
  obtain ⟨d, e, r⟩ := rd.at (e1 vs s)
  obtain ⟨d', e', r'⟩ := rd'.at (e2 ws s')
  refine ⟨.tup [d, d'], _, ?_, NewR.tup zok nT (.cons r (.cons r' .nil))⟩
  rw [List.getElem?_zipWith, e, e']
/-! ### iterators from expressions -/
theorem PI.or {tg it : Expr} {t t' : TI} (h : PI X tg it t) (h' : PI X tg it t') : PI X tg it (fun σ H R => t σ H R ∨ t' σ H R) := ⟨fun pins s σ H R I q => q.elim (h.run pins s σ H R I) (h'.run pins s σ H R I)⟩
theorem Wp.ok {α : Type} {m : M α} {a : α} {ρ' : En} {K : α → En → Prop} (q : m ρ = .ok a ρ') (h : Wp G B W Z σ (m ρ) K) : K a ρ' := by rw [q] at h; exact h
/-- for one way of a run's outcome -/
theorem tE_of {m : M D} {Q : VK} (hr : Rl G B Z H σ ρ) (h : Wp G B W Z σ (m ρ) fun d ρ' => ∀ v Z' H', Rl G B Z' H' σ ρ' → RelD G Z' v d → Le Z Z' → Q v H') : tE G W m σ H Q := ⟨B, Z, ρ, hr, h⟩
/-- the items of a shared list | tuple | text -/
theorem pi_seq {tg : Expr} {m : M D} (kok : KOk G) (hk : X.K = G.K) (h : PE X e (tE G W m)) : PI X tg e (tI G W (bnd m fun d => ofOpt (itemsD d))) :=
  PI.imp (PI.or (PI.or (pi_list h) (pi_tup h)) (pi_str h)) fun σ H R ⟨B, Z, ρ, hr, hw⟩ => by
    have hw := hw.bnd
    cases q : m ρ with
    | stuck => rw [q] at hw; exact hw.elim
    | exc c ρ1 => rw [q] at hw; exact .inr ⟨B, Z, ρ, hr, by rw [q]; exact hw⟩
    | ok d ρ1 =>
      rw [q] at hw
      have hw : Wp G B W Z σ (ofOpt (itemsD d) ρ1) _ := hw
      cases d with
      | lst ds =>
        refine .inl (.inl ⟨B, Z, ρ, hr, ?_⟩)
        rw [q]
        intro v Z1 H1 r1 d1 l1
        cases v with
        | ref p =>
          obtain ⟨vs, s, _⟩ := ref_cont r1.zok kok d1
          rw [hk]
          exact ⟨p, rfl, ⟨vs, SqL.of s⟩, hw _ Z1 H1 r1 l1 (walkD_list kok d1)⟩
        | _ => exact d1.elim
      | scr ns =>
        refine .inl (.inl ⟨B, Z, ρ, hr, ?_⟩)
        rw [q]
        intro v Z1 H1 r1 d1 l1
        cases v with
        | ref p =>
          have s : SqL G.K H1 p (ns.map V.int) := ref_cont r1.zok kok d1
          rw [hk]
          exact ⟨p, rfl, ⟨_, s⟩, hw _ Z1 H1 r1 l1 (walkD_scr kok d1)⟩
        | _ => exact d1.elim
      | tup ds =>
        refine .inl (.inr ⟨B, Z, ρ, hr, ?_⟩)
        rw [q]
        intro v Z1 H1 r1 d1 l1
        cases v with
        | ref p =>
          obtain ⟨vs, s, _⟩ := ref_cont r1.zok kok d1
          rw [hk]
          exact ⟨p, rfl, ⟨vs, s⟩, hw _ Z1 H1 r1 l1 (walkD_tup kok d1)⟩
        | _ => exact d1.elim
      | str ss =>
        refine .inr ⟨B, Z, ρ, hr, ?_⟩
        rw [q]
        intro v Z1 H1 r1 d1 l1
        cases v with
        | ref p => exact (ref_cont r1.zok kok d1).elim
        | str x => cases (show x = ⟨ss.toArray⟩ from d1); exact ⟨_, rfl, hw _ Z1 H1 r1 l1 walkD_str⟩
        | _ => exact d1.elim
      | _ => exact hw.elim
theorem RelDs.one {vs : List V} {d : D} (h : RelDs G Z vs [d]) : ∃ v, vs = [v] ∧ RelD G Z v d := by
  cases h with
  | cons a t => cases t; exact ⟨_, rfl, a⟩
theorem RelDs.two {vs : List V} {d d' : D} (h : RelDs G Z vs [d, d']) : ∃ v v', vs = [v, v'] ∧ RelD G Z v d ∧ RelD G Z v' d' := by
  cases h with
  | cons a t => obtain ⟨w, rfl, r⟩ := RelDs.one t; exact ⟨_, w, rfl, a, r⟩
theorem RelDs.three {vs : List V} {d d' d'' : D} (h : RelDs G Z vs [d, d', d'']) : ∃ v v' v'', vs = [v, v', v''] ∧ RelD G Z v d ∧ RelD G Z v' d' ∧ RelD G Z v'' d'' := by
  cases h with
  | cons a t => obtain ⟨w, w', rfl, r⟩ := RelDs.two t; exact ⟨_, w, w', rfl, a, r⟩
theorem RelD.int_inv {v : V} {i : Int} (r : RelD G Z v (.int i)) (zok : ZOk G Z H) (kok : KOk G) : v = .int i := by
  cases v with
  | int c => exact congrArg V.int r
  | ref p => exact (ref_cont zok kok r).elim
  | _ => exact r.elim
theorem RelD.str_inv {v : V} {i : List Nat} (r : RelD G Z v (.str i)) (zok : ZOk G Z H) (kok : KOk G) : v = .str ⟨i.toArray⟩ := by
  cases v with
  | str c => exact congrArg V.str r
  | ref p => exact (ref_cont zok kok r).elim
  | _ => exact r.elim
theorem RelD.non_inv {v : V} (r : RelD G Z v .non) (zok : ZOk G Z H) (kok : KOk G) : v = .non := by
  cases v with
  | non => rfl
  | ref p => exact (ref_cont zok kok r).elim
  | _ => exact r.elim
theorem RelD.lst_inv {v : V} {l : List D} (r : RelD G Z v (.lst l)) (zok : ZOk G Z H) (kok : KOk G) : ∃ p vs, v = .ref p ∧ H p = some (.lst vs) ∧ RelDs G Z vs l := by
  cases v with
  | ref p => obtain ⟨vs, s, rd⟩ := ref_cont zok kok r; exact ⟨p, vs, rfl, s, rd⟩
  | _ => exact r.elim
theorem RelD.tup_inv {v : V} {l : List D} (r : RelD G Z v (.tup l)) (zok : ZOk G Z H) (kok : KOk G) : ∃ p vs, v = .ref p ∧ SqT G.K H p vs ∧ RelDs G Z vs l := by
  cases v with
  | ref p => obtain ⟨vs, s, rd⟩ := ref_cont zok kok r; exact ⟨p, vs, rfl, s, rd⟩
  | _ => exact r.elim
/-- an iterator from a reading of its arguments -/
theorem pi_args {tg : Expr} {wi : TI} {ms : M (List D)} {g : List D → Option (List D)} (h : PI X tg e wi)
    (k : ∀ σ H R, tAs G W ms σ H (fun vs H1 => ∃ ds l Z, RelDs G Z vs ds ∧ ZOk G Z H1 ∧ g ds = some l ∧ ∀ J, WalkD G J l Z → R J H1) → wi σ H R) : PI X tg e (tI G W (bnd ms fun ds => ofOpt (g ds))) :=
  PI.imp h fun σ H R ⟨B, Z, ρ, hr, hw⟩ => k σ H R ⟨B, Z, ρ, hr, hw.bnd.mono (Le.refl _) fun ds ρ1 h1 vs Z1 H1 r1 d1 l1 => by
    unfold ofOpt at h1
    cases q : g ds with
    | none => rw [q] at h1; exact h1.elim
    | some l => rw [q] at h1; exact ⟨ds, l, Z1, d1, r1.zok, q, fun J w => h1 J Z1 H1 r1 l1 w⟩⟩
theorem PAas.mono {ms : M (List D)} {Q Q' : List V → Hp → Prop} (h : tAs G W ms σ H Q) (k : ∀ vs H, Q vs H → Q' vs H) : tAs G W ms σ H Q' := by
  obtain ⟨B, Z, ρ, hr, hw⟩ := h
  exact ⟨B, Z, ρ, hr, hw.mono (Le.refl _) fun ds ρ1 h1 vs Z1 H1 r1 d1 l1 => k _ _ (h1 vs Z1 H1 r1 d1 l1)⟩
def big62 (i : Int) : Bool := decide (-(2 ^ 62) ≤ i) && decide (i < 2 ^ 62)
def rangeG : List D → Option (List D)
  | [.int j] => if big62 j then some ((List.range j.toNat).map fun (i : Nat) => .int (0 + i)) else none
  | [.int i, .int j] => if big62 i && big62 j then some ((List.range (j - i).toNat).map fun (k : Nat) => .int (i + k)) else none
  | _ => none
theorem pi_rng1 {tg a : Expr} {ms : M (List D)} {p : Pos} (kok : KOk G) (hg : Gl X "range") (hm : X.mg "range" = none) (ha : PA X [a] (tAs G W ms)) (hs : starEach [a] X.env = [(false, eval a X.env)]) :
    PI X tg (.Call (.Name "range" p) [a] [] pos) (tI G W (bnd ms fun ds => ofOpt (if ds.length = 1 then rangeG ds else none))) :=
  pi_args (pi_range1 hg hm ha hs) fun σ H R h => PAas.mono h fun vs H1 ⟨ds, l, Z, rd, zok, hl, k⟩ => by
    split at hl
    · match ds, rd, hl with
      | [.int j], rd, hl =>
        obtain ⟨v, rfl, r⟩ := RelDs.one rd
        cases r.int_inv zok kok
        simp only [rangeG] at hl
        split at hl
        · rename_i hb
          cases hl
          simp only [big62, Bool.and_eq_true, decide_eq_true_eq] at hb
          exact ⟨j, rfl, hb.1, hb.2, k _ walkD_range⟩
        · cases hl
    · cases hl
theorem pi_rng2 {tg a b : Expr} {ms : M (List D)} {p : Pos} (kok : KOk G) (hg : Gl X "range") (hm : X.mg "range" = none) (ha : PA X [a, b] (tAs G W ms)) (hs : starEach [a, b] X.env = [(false, eval a X.env), (false, eval b X.env)]) (hs2 : starEach [b] X.env = [(false, eval b X.env)]) :
    PI X tg (.Call (.Name "range" p) [a, b] [] pos) (tI G W (bnd ms fun ds => ofOpt (if ds.length = 2 then rangeG ds else none))) :=
  pi_args (pi_range2 hg hm ha hs hs2) fun σ H R h => PAas.mono h fun vs H1 ⟨ds, l, Z, rd, zok, hl, k⟩ => by
    split at hl
    · match ds, rd, hl with
      | [.int i, .int j], rd, hl =>
        obtain ⟨v, v', rfl, r, r'⟩ := RelDs.two rd
        cases r.int_inv zok kok
        cases r'.int_inv zok kok
        simp only [rangeG] at hl
        split at hl
        · rename_i hb
          cases hl
          simp only [big62, Bool.and_eq_true, decide_eq_true_eq] at hb
          exact ⟨i, j, rfl, ⟨hb.1.1, hb.1.2, hb.2.1, hb.2.2⟩, k _ walkD_range⟩
        · cases hl
    · cases hl
def enumG : List D → Option (List D)
  | [.lst ds] => some (ds.mapIdx fun i d => .tup [.int i, d])
  | [.str s] => some (s.mapIdx fun i c => .tup [.int i, .str [c]])
  | _ => none
theorem walkD_enumS {s : List Nat} {Z0 : Addr → Option D} : WalkD G (Ites ⟨s.toArray⟩) (s.mapIdx fun i c => .tup [.int i, .str [c]]) Z0 := fun Z H l zok i => by
  refine ⟨fun hi => ⟨(show i < s.toArray.size by simpa using hi), fun x H' y => ?_⟩, fun hi => (show i = s.toArray.size by simpa using hi)⟩
  obtain ⟨T, c, rfl, nT, rfl, e⟩ := y
  refine ⟨.tup [.int i, .str [c]], _, ?_, NewR.tup zok nT (.cons rfl (.cons rfl .nil))⟩
  have : s[i]? = some c := by simpa using e
  rw [List.getElem?_mapIdx, this]; rfl
theorem pi_enumL {a : Expr} {ms : M (List D)} {p tpos : Pos} {elts : List Expr} {kk : Nat} (kok : KOk G) (hk : X.K = G.K) (hg : Gl X "enumerate") (hm : X.mg "enumerate" = none) (ha : PA X [a] (tAs G W ms)) (hs : starEach [a] X.env = [(false, eval a X.env)]) :
    PI X (.Tuple elts kk tpos) (.Call (.Name "enumerate" p) [a] [] pos) (tI G W (bnd ms fun ds => ofOpt (enumG ds))) :=
  PI.imp (PI.or (pi_enum hg hm ha hs) (pi_enumS hg hm ha hs)) fun σ H R ⟨B, Z, ρ, hr, hw⟩ => by
    have hw := hw.bnd
    cases q : ms ρ with
    | stuck => rw [q] at hw; exact hw.elim
    | exc c ρ1 => rw [q] at hw; exact .inr ⟨B, Z, ρ, hr, by rw [q]; exact hw⟩
    | ok ds ρ1 =>
      rw [q] at hw
      have hw : Wp G B W Z σ (ofOpt (enumG ds) ρ1) _ := hw
      match ds, q, hw with
      | [.lst es], q, hw =>
        refine .inl ⟨B, Z, ρ, hr, ?_⟩
        rw [q]
        intro vs Z1 H1 r1 d1 l1
        obtain ⟨v, rfl, r⟩ := RelDs.one d1
        cases v with
        | ref p =>
          obtain ⟨ws, s, _⟩ := ref_cont r1.zok kok r
          rw [hk]
          exact ⟨p, ws, rfl, SqL.of s, hw _ Z1 H1 r1 l1 (walkD_enum kok r)⟩
        | _ => exact r.elim
      | [.str s], q, hw =>
        refine .inr ⟨B, Z, ρ, hr, ?_⟩
        rw [q]
        intro vs Z1 H1 r1 d1 l1
        obtain ⟨v, rfl, r⟩ := RelDs.one d1
        cases r.str_inv r1.zok kok
        exact ⟨_, rfl, hw _ Z1 H1 r1 l1 walkD_enumS⟩
      | [], q, hw => exact hw.elim
      | [.non], q, hw => exact hw.elim
      | [.bl _], q, hw => exact hw.elim
      | [.int _], q, hw => exact hw.elim
      | [.tup _], q, hw => exact hw.elim
      | [.dic _], q, hw => exact hw.elim
      | [.scr _], q, hw => exact hw.elim
      | _ :: _ :: _, q, hw => simp only [enumG] at hw; exact hw.elim
def zipG : List D → Option (List D)
  | [.lst ds, .lst es] => some (ds.zipWith (fun d e => .tup [d, e]) es)
  | _ => none
theorem pi_zipL {a b : Expr} {ms : M (List D)} {p tpos : Pos} {elts : List Expr} {kk : Nat} (kok : KOk G) (hk : X.K = G.K) (hg : Gl X "zip") (hm : X.mg "zip" = none) (ha : PA X [a, b] (tAs G W ms)) (hs : starEach [a, b] X.env = [(false, eval a X.env), (false, eval b X.env)]) (hs2 : starEach [b] X.env = [(false, eval b X.env)]) :
    PI X (.Tuple elts kk tpos) (.Call (.Name "zip" p) [a, b] [] pos) (tI G W (bnd ms fun ds => ofOpt (zipG ds))) :=
  pi_args (pi_zip hg hm ha (by rw [hs, hs2]) (by rw [hs2]; rfl)) fun σ H R h => PAas.mono h fun vs H1 ⟨ds, l, Z, rd, zok, hl, k⟩ => by
    match ds, rd, hl with
    | [.lst es, .lst fs], rd, hl =>
      obtain ⟨v, v', rfl, r, r'⟩ := RelDs.two rd
      cases hl
      cases v with
      | ref p =>
        cases v' with
        | ref q =>
          obtain ⟨ws, s, _⟩ := ref_cont zok kok r
          obtain ⟨ws', s', _⟩ := ref_cont zok kok r'
          rw [hk]
          exact ⟨p, q, ws, ws', rfl, SqL.of s, SqL.of s', k _ (walkD_zip kok r r')⟩
        | _ => exact r'.elim
      | _ => exact r.elim
end
end FW
set_option Elab.async false
set_option linter.all false
set_option maxRecDepth 100000
/-! FW4: comprehensions, statements -/
namespace FW
open PySem PySem.Spec L2

section
variable {G : Gx} {W : WX} {B : Bs} {X : Cx} {e a b c : Expr} {es : List Expr} {pos : Pos} {Z : Addr → Option D} {H : Hp} {σ : L2.St} {ρ : En}

/-! ### targets -/
inductive Tg where
  | name (i : Nat) | tup (l : List Tg)
/-- alike but at some places -/
def Off (is : List Nat) (σ σ' : L2.St) : Prop := σ'.length = σ.length ∧ ∀ j, j ∉ is → σ'[j]? = σ[j]?
theorem Off.refl {is : List Nat} : Off is σ σ := ⟨rfl, fun _ _ => rfl⟩
theorem Off.trans {is js : List Nat} {σ1 σ2 : L2.St} (a : Off is σ σ1) (b : Off js σ1 σ2) : Off (is ++ js) σ σ2 :=
  ⟨b.1.trans a.1, fun j h => (b.2 j fun z => h (List.mem_append_right _ z)).trans (a.2 j fun z => h (List.mem_append_left _ z))⟩
def Rok {α : Type} (r : R α) (K : α → En → Prop) : Prop := match r with
  | .ok a ρ' => K a ρ'
  | _ => False
/-- a target's reading -/
def tG (G : Gx) (is : List Nat) (m : D → M Unit) : TG := fun v σ H Q => ∃ B Z ρ d, Rl G B Z H σ ρ ∧ RelD G Z v d ∧ Rok (m d ρ) fun _ ρ' => ∀ σ' Z' H', Rl G B Z' H' σ' ρ' → Le Z Z' → Off is σ σ' → Q σ' H'
def tGs (G : Gx) (is : List Nat) (m : List D → M Unit) : TGs := fun vs σ H Q => ∃ B Z ρ ds, Rl G B Z H σ ρ ∧ RelDs G Z vs ds ∧ Rok (m ds ρ) fun _ ρ' => ∀ σ' Z' H', Rl G B Z' H' σ' ρ' → Le Z Z' → Off is σ σ' → Q σ' H'
theorem PG.imp {tg : Expr} {t t' : TG} (h : PG X tg t) (k : ∀ v σ H Q, t' v σ H Q → t v σ H Q) : PG X tg t' := ⟨fun pins s σ H v u Q I r q => h.run pins s σ H v u Q I r (k v σ H Q q)⟩
theorem PGs.imp {ts : List Expr} {t t' : TGs} (h : PGs X ts t) (k : ∀ v σ H Q, t' v σ H Q → t v σ H Q) : PGs X ts t' := ⟨fun pins s σ H v u Q I r q => h.run pins s σ H v u Q I r (k v σ H Q q)⟩
def setM (i : Nat) (d : D) : M Unit := fun ρ => .ok () (ρ.set i (some (.fz d)))
theorem pg_nameD {i : Nat} (h : PG X e (gName i)) : PG X e (tG G [i] (setM i)) := PG.imp h fun v σ H Q ⟨B, Z, ρ, d, hr, rd, k⟩ => k _ Z H (hr.fz rd).store (Le.refl _) ⟨by simp, fun j hj => List.getElem?_set_ne (fun z => hj (by simp [z]))⟩
def gsM : List (D → M Unit) → List D → M Unit
  | [], [] => ret ()
  | m :: ms, d :: ds => bnd (m d) fun _ => gsM ms ds
  | _, _ => stk
theorem pgs_nilD : PGs X [] (tGs G [] (gsM [])) := PGs.imp pgs_nil fun vs σ H Q ⟨B, Z, ρ, ds, hr, rd, k⟩ => by
  cases ds with
  | nil => cases rd; exact ⟨rfl, k σ Z H hr (Le.refl _) Off.refl⟩
  | cons d ds => exact k.elim
theorem okOf {α : Type} {r : R α} {K : α → En → Prop} (h : Rok r K) : ∃ a ρ', r = .ok a ρ' ∧ K a ρ' := by
  cases r with
  | ok a ρ' => exact ⟨a, ρ', rfl, h⟩
  | _ => exact h.elim
theorem bnd_inv {α β : Type} {m : M α} {f : α → M β} {b : β} {ρ' : En} (h : bnd m f ρ = .ok b ρ') : ∃ a ρ1, m ρ = .ok a ρ1 ∧ f a ρ1 = .ok b ρ' := by
  unfold bnd at h
  cases q : m ρ with
  | ok a ρ1 => rw [q] at h; exact ⟨a, ρ1, rfl, h⟩
  | exc c ρ1 => rw [q] at h; cases h
  | stuck => rw [q] at h; cases h
theorem pgs_consD {is js : List Nat} {m : D → M Unit} {ms : List (D → M Unit)} (h : PG X e (tG G is m)) (h2 : PGs X es (tGs G js (gsM ms))) (hs : (assignEach (e :: es) X.env).map (·.2) = assign e X.env :: (assignEach es X.env).map (·.2)) : PGs X (e :: es) (tGs G (is ++ js) (gsM (m :: ms))) :=
  PGs.imp (pgs_cons h h2 hs) fun vs σ H Q ⟨B, Z, ρ, ds, hr, rd, k⟩ => by
    cases ds with
    | nil => exact k.elim
    | cons d ds =>
      cases rd with
      | @cons v _ vs _ r rr =>
        obtain ⟨u, ρ2, q, k⟩ := okOf k
        obtain ⟨u1, ρ1, q1, q2⟩ := bnd_inv q
        refine ⟨v, vs, rfl, B, Z, ρ, d, hr, r, ?_⟩
        rw [q1]
        intro σ1 Z1 H1 r1 l1 o1
        refine ⟨B, Z1, ρ1, ds, r1, RelDs.mono rr l1, ?_⟩
        rw [q2]
        exact fun σ2 Z2 H2 r2 l2 o2 => k σ2 Z2 H2 r2 (l1.trans l2) (o1.trans o2)
def tupT (ms : List (D → M Unit)) : D → M Unit
  | .tup ds => if ds.length = ms.length then gsM ms ds else stk
  | _ => stk
theorem pg_tupD {is : List Nat} {ms : List (D → M Unit)} {k : Nat} (kok : KOk G) (hk : X.K = G.K) (hc : X.calm = true) (h : PGs X es (tGs G is (gsM ms))) (hn : (assignEach es X.env).length = ms.length) (hst : (assignEach es X.env).findIdx? (·.1) = none) : PG X (.Tuple es k pos) (tG G is (tupT ms)) :=
  PG.imp (pg_tup hc h hn hst) fun v σ H Q ⟨B, Z, ρ, d, hr, rd, k⟩ => by
    obtain ⟨u, ρ1, q, kk⟩ := okOf k
    cases d with
    | tup ds =>
      obtain ⟨p, vs, rfl, s, rds⟩ := rd.tup_inv hr.zok kok
      have q : (if ds.length = ms.length then gsM ms ds else stk) ρ = .ok u ρ1 := q
      by_cases hl : ds.length = ms.length
      · rw [if_pos hl] at q
        rw [hk]
        exact ⟨p, vs, rfl, s, by rw [rds.length, hl], B, Z, ρ, ds, hr, rds, by rw [q]; exact kk⟩
      · rw [if_neg hl] at q; cases q
    | _ => cases q

/-! ### list comprehensions -/
def wipeE (ρ : En) : List Nat → En
  | [] => ρ
  | v :: vs => (wipeE ρ vs).set v none
theorem wipeE_length (ρ : En) : ∀ vs : List Nat, (wipeE ρ vs).length = ρ.length
  | [] => rfl
  | v :: vs => by unfold wipeE; rw [List.length_set, wipeE_length ρ vs]
theorem wipeE_some {ρ : En} {i : Nat} {x : O} : ∀ {vs : List Nat}, (wipeE ρ vs)[i]? = some (some x) → ρ[i]? = some (some x) ∧ i ∉ vs
  | [], h => ⟨h, by simp⟩
  | v :: vs, h => by
    unfold wipeE at h
    by_cases hi : v = i
    · subst hi
      by_cases hv : v < (wipeE ρ vs).length
      · rw [List.getElem?_set_self hv] at h; cases h
      · rw [List.getElem?_eq_none (by simpa using hv)] at h; cases h
    · rw [List.getElem?_set_ne hi] at h
      obtain ⟨h1, h2⟩ := wipeE_some h
      exact ⟨h1, by simp only [List.mem_cons, not_or]; exact ⟨fun e => hi e.symm, h2⟩⟩
theorem wipeE_idem {ρ : En} {vs : List Nat} : wipeE (wipeE ρ vs) vs = wipeE ρ vs := by
  have : ∀ (us : List Nat) (ρ : En), (∀ v ∈ us, ρ[v]? = none ∨ ρ[v]? = some none) → wipeE ρ us = ρ := by
    intro us
    induction us with
    | nil => intro ρ _; rfl
    | cons v us ih =>
      intro ρ h
      unfold wipeE
      rw [ih ρ fun v hv => h v (List.mem_cons_of_mem _ hv)]
      apply List.ext_getElem?
      intro i
      by_cases hi : v = i
      · subst hi
        rcases h v List.mem_cons_self with q | q
        · rw [q]; exact List.getElem?_eq_none (by simpa using q)
        · rw [q]; exact List.getElem?_set_self (List.getElem?_eq_some_iff.mp q).1
      · rw [List.getElem?_set_ne hi]
  refine this vs _ fun v hv => ?_
  cases q : (wipeE ρ vs)[v]? with
  | none => exact .inl rfl
  | some x =>
    cases x with
    | none => exact .inr rfl
    | some x => exact absurd hv (wipeE_some q).2
theorem wipe_out' {σ : L2.St} {i : Nat} : ∀ {vs : List Nat}, i ∉ vs → (wipe σ vs)[i]? = σ[i]?
  | [], _ => rfl
  | v :: vs, h => by
    simp only [List.mem_cons, not_or] at h
    unfold wipe
    rw [List.getElem?_set_ne (Ne.symm h.1)]
    exact wipe_out' h.2
theorem Rl.other {σ' : L2.St} {ρ' : En} (h : Rl G B Z H σ ρ) (hl : ρ'.length ≤ σ'.length) (w : ∀ (i : Nat) (o : O), ρ'[i]? = some (some o) → ρ[i]? = some (some o) ∧ σ'[i]? = σ[i]?) : Rl G B Z H σ' ρ' :=
  ⟨h.zok, h.ext, hl, let ⟨U, a, b⟩ := h.env; ⟨U, a, fun i o e => by
    obtain ⟨e1, e2⟩ := w i o e
    obtain ⟨v, ev, r⟩ := b i o e1
    exact ⟨v, by rw [e2]; exact ev, r⟩⟩⟩
theorem RlR.other {σ' : L2.St} {ρ' : En} {v : V} {o : O} (h : RlR G B Z H σ ρ v o) (hl : ρ'.length ≤ σ'.length) (w : ∀ (i : Nat) (o : O), ρ'[i]? = some (some o) → ρ[i]? = some (some o) ∧ σ'[i]? = σ[i]?) : RlR G B Z H σ' ρ' v o :=
  ⟨h.zok, h.ext, hl, let ⟨U, a, b, r⟩ := h.env; ⟨U, a, fun i o e => by
    obtain ⟨e1, e2⟩ := w i o e
    obtain ⟨v, ev, r⟩ := b i o e1
    exact ⟨v, by rw [e2]; exact ev, r⟩, r⟩⟩
/-- one turn: the target, the test, the element -/
def compTurnM (vs : List Nat) (g : D → M Unit) (t : M Bool) (m : M D) (d : D) (acc : List D) : M (List D) := fun ρ =>
  match bnd (g d) (fun _ => bnd t fun k => if k then bnd m fun y => ret (some y) else ret none) (wipeE ρ vs) with
  | .ok (some y) ρ' => if acc.length < sizeLine then .ok (acc ++ [y]) (wipeE ρ' vs) else .stuck
  | .ok none ρ' => .ok acc (wipeE ρ' vs)
  | _ => .stuck
def compLoopM (vs : List Nat) (g : D → M Unit) (t : M Bool) (m : M D) : List D → List D → M (List D)
  | [], acc => ret acc
  | d :: ds, acc => bnd (compTurnM vs g t m d acc) fun acc' => compLoopM vs g t m ds acc'
/-- the own names' shared values as they were ahead -/
def restE (ρ ρ' : En) : List Nat → En
  | [] => ρ'
  | v :: vs => (restE ρ ρ' vs).set v (match (ρ[v]?).getD none with | some (.fz d) => some (.fz d) | _ => none)
def compM (vs : List Nat) (items : M (List D)) (g : D → M Unit) (t : M Bool) (m : M D) : M O := bnd items fun ds => fun ρ =>
  match compLoopM vs g t m ds [] (wipeE ρ vs) with
  | .ok acc ρ' => .ok (.lst acc) (restE ρ ρ' vs)
  | _ => .stuck
theorem restE_length (ρ ρ' : En) : ∀ vs : List Nat, (restE ρ ρ' vs).length = ρ'.length
  | [] => rfl
  | v :: vs => by unfold restE; rw [List.length_set, restE_length ρ ρ' vs]
theorem rest_ok {ρ0 : En} {Z0 : Addr → Option D} {H0 : Hp} (h0 : Rl G B Z0 H0 σ ρ0) (l : Le Z0 Z) {v : V} {o : O} : ∀ {vs : List Nat}, RlR G B Z H σ ρ v o → RlR G B Z H σ (restE ρ0 ρ vs) v o
  | [], h => h
  | w :: vs, h => by
    have ih := rest_ok h0 l (vs := vs) h
    unfold restE
    cases q : (ρ0[w]?).getD none with
    | none => exact ih.other (by simpa using ih.len) fun i o e => ⟨(wipeE_some (vs := [w]) e).1, rfl⟩
    | some x =>
      cases x with
      | fz d =>
        obtain ⟨u, eu, rd⟩ := h0.get (getD_some q)
        obtain ⟨B', h1, back⟩ := ih.guard
        exact back Z H σ _ (h1.setFz eu (rd.mono l))
      | _ => exact ih.other (by simpa using ih.len) fun i o e => ⟨(wipeE_some (vs := [w]) e).1, rfl⟩
theorem wipe_len (vs : List Nat) (h : ρ.length ≤ σ.length) : (wipeE ρ vs).length ≤ (wipe σ vs).length := by rw [wipeE_length, wipe_length]; exact h

theorem wipe_same {σ σ' : L2.St} {vs : List Nat} (h : Off vs σ σ') : wipe σ' vs = wipe σ vs := by
  apply List.ext_getElem?
  intro i
  have none_of : ∀ {σ : L2.St}, i ∈ vs → i < σ.length → (wipe σ vs)[i]? = some none := by
    intro σ
    clear h
    induction vs with
    | nil => intro h; cases h
    | cons v vs ih =>
      intro hm hl
      unfold wipe
      by_cases hv : v = i
      · subst hv; exact List.getElem?_set_self (by rw [wipe_length]; exact hl)
      · rw [List.getElem?_set_ne hv]
        exact ih ((List.mem_cons.mp hm).resolve_left fun z => hv z.symm) hl
  by_cases hi : i ∈ vs
  · by_cases hl : i < σ.length
    · rw [none_of hi hl, none_of hi (by rw [h.1]; exact hl)]
    · rw [List.getElem?_eq_none (by rw [wipe_length, h.1]; omega), List.getElem?_eq_none (by rw [wipe_length]; omega)]
  · rw [wipe_out' hi, wipe_out' hi, h.2 i hi]
theorem comp_to {vs is : List Nat} (his : ∀ i ∈ is, i ∈ vs) {items : M (List D)} {g : D → M Unit} {t : M Bool} {m : M D} : ∀ σ H Q, tO G W (compM vs items g t m) σ H Q → tLc (tI G W items) (tG G is g) (tB G (fun _ _ _ _ => False) t) (tE G (fun _ _ _ _ => False) m) vs σ H Q := by
  rintro σ H Q ⟨B, Z, ρ, hr, hw⟩
  refine ⟨B, Z, ρ, hr, hw.bnd.mono (Le.refl _) fun ds ρ1 h1 J Z1 H1 r1 l1 wk D nD => ?_⟩
  cases qL : compLoopM vs g t m ds [] (wipeE ρ1 vs) with
  | exc c ρ2 => simp only [qL] at h1; exact h1.elim
  | stuck => simp only [qL] at h1; exact h1.elim
  | ok accF ρF =>
    simp only [qL] at h1
    -- the invariant
    refine ⟨fun i n H' => n = ds.length - i ∧ i ≤ ds.length ∧ ∃ Z' ρ' acc, RlR G B Z' H' σ ρ' (.ref D) (.lst acc) ∧ wipeE ρ' vs = ρ' ∧ Le Z1 Z' ∧ compLoopM vs g t m (ds.drop i) acc ρ' = .ok accF ρF, ⟨ds.length, by simp, Nat.zero_le _, Z1, wipeE ρ1 vs, [], ?_, ?_, Le.refl _, by simpa using qL⟩, ?_⟩
    · exact (r1.new (NewR.lst r1.zok nD .nil)).other (by rw [wipeE_length]; exact r1.len) fun i o e => ⟨(wipeE_some e).1, rfl⟩
    · exact wipeE_idem
    · rintro i n H3 ⟨rfl, hi, Z3, ρ3, acc, r3, w3, l3, q3⟩
      have wk3 := wk Z3 H3 l3 r3.zok i
      by_cases hlt : i < ds.length
      · refine .inr ⟨(wk3.1 hlt).1, fun H' => ∃ Z' ρ' acc, RlR G B Z' H' σ ρ' (.ref D) (.lst acc) ∧ wipeE ρ' vs = ρ' ∧ Le Z1 Z' ∧ compLoopM vs g t m (ds.drop (i + 1)) acc ρ' = .ok accF ρF, fun H' h' => ⟨ds.length - (i + 1), by omega, rfl, hlt, h'⟩, fun x H4 y => ?_⟩
        obtain ⟨d, Z4, ed, n4⟩ := (wk3.1 hlt).2 x H4 y
        have edr : ds.drop i = d :: ds.drop (i + 1) := by
          obtain ⟨h, e⟩ := List.getElem?_eq_some_iff.mp ed
          rw [← e]; exact List.drop_eq_getElem_cons h
        rw [edr] at q3
        have q3 : bnd (compTurnM vs g t m d acc) (fun acc' => compLoopM vs g t m (ds.drop (i + 1)) acc') ρ3 = .ok accF ρF := q3
        unfold bnd at q3
        cases qt : compTurnM vs g t m d acc ρ3 with
        | exc c ρ4 => rw [qt] at q3; cases q3
        | stuck => rw [qt] at q3; cases q3
        | ok acc' ρ4 =>
          rw [qt] at q3
          have q3 : compLoopM vs g t m (ds.drop (i + 1)) acc' ρ4 = .ok accF ρF := q3
          unfold compTurnM at qt
          rw [w3] at qt
          -- the new item at hand, the list guarded
          obtain ⟨B', g3, back⟩ := r3.guard
          have r4 := (g3.new n4)
          have rd4 := r4.relD
          have rw4 : Rl G B' Z4 H4 (wipe σ vs) ρ3 := r4.rl.other (by rw [wipe_length]; exact r3.len) fun j o e => by
            rw [← w3] at e
            obtain ⟨e1, e2⟩ := wipeE_some e
            exact ⟨e1, wipe_out' e2⟩
          have l4 : Le Z3 Z4 := n4.ext.le r3.zok
          -- what the turn did
          have off_wipe : Off vs σ (wipe σ vs) := ⟨wipe_length σ vs, fun j hj => wipe_out' hj⟩
          have back_env : ∀ {σ5 Z5 H5 ρ5}, Rl G B' Z5 H5 σ5 ρ5 → Off vs σ σ5 → RlR G B Z5 H5 σ (wipeE ρ5 vs) (.ref D) (.lst acc) := fun {σ5 Z5 H5 ρ5} r5 o5 => by
            refine (back Z5 H5 σ5 ρ5 r5).other (by rw [wipeE_length, ← o5.1]; exact r5.len) fun j o e => ?_
            obtain ⟨e1, e2⟩ := wipeE_some e
            exact ⟨e1, (o5.2 j e2).symm⟩
          cases qb : bnd (g d) (fun _ => bnd t fun k => if k then bnd m fun y => ret (some y) else ret none) ρ3 with
          | exc c ρ5 => rw [qb] at qt; cases qt
          | stuck => rw [qb] at qt; cases qt
          | ok res ρ5 =>
            rw [qb] at qt
            obtain ⟨u, ρ6, qg, qb⟩ := bnd_inv qb
            refine ⟨B', Z4, ρ3, d, rw4, rd4, ?_⟩
            rw [qg]
            intro σ6 Z6 H6 r6 l6 o6
            have o6' : Off vs σ σ6 := ⟨o6.1.trans off_wipe.1, fun j hj => (o6.2 j fun z => hj (his j z)).trans (off_wipe.2 j hj)⟩
            refine ⟨(wipe_same (σ := wipe σ vs) ⟨o6.1, fun j hj => o6.2 j fun z => hj (his j z)⟩).trans (wipe_same off_wipe), ?_⟩
            obtain ⟨k, ρ7, qtt, qb⟩ := bnd_inv qb
            refine ⟨B', Z6, ρ6, r6, ?_⟩
            rw [qtt]
            intro Z7 H7 r7 l7
            cases k with
            | false =>
              rw [if_neg Bool.false_ne_true]
              cases qb
              cases qt
              exact ⟨Z7, _, acc, back_env r7 o6', wipeE_idem, l3.trans (l4.trans (l6.trans l7)), q3⟩
            | true =>
              rw [if_pos rfl]
              obtain ⟨y, ρ8, qm, qb⟩ := bnd_inv qb
              cases qb
              refine ⟨B', Z7, ρ7, r7, ?_⟩
              rw [qm]
              intro v Z8 H8 r8 d8 l8
              have rr := back_env r8 o6'
              obtain ⟨p, ws, e1, e2, e3⟩ := rr.lst_inv
              cases e1
              have qt : (if acc.length < sizeLine then R.ok (acc ++ [y]) (wipeE ρ5 vs) else R.stuck) = R.ok acc' ρ4 := qt
              by_cases hz : acc.length < sizeLine
              · rw [if_pos hz] at qt
                cases qt
                refine ⟨ws, e2, by rw [RelDs.length e3]; exact hz, Z8, _, acc ++ [y], rr.updL (Paired.snoc e3 d8), wipeE_idem, l3.trans (l4.trans (l6.trans (l7.trans l8))), q3⟩
              · rw [if_neg hz] at qt; cases qt
      · have e : i = ds.length := by omega
        subst e
        rw [List.drop_length] at q3
        cases q3
        refine .inl ⟨wk3.2 rfl, h1 (.ref D) Z3 H3 ?_ (l1.trans l3)⟩
        exact rest_ok r1 l3 r3

/-- [e for tg in it if t] -/
theorem pe_compD {elt tg iter : Expr} {ifs : List Expr} {scope : Scope} {own : List (Str × Nat)} {is : List Nat} {items : M (List D)} {g : D → M Unit} {t : M Bool} {m : M D} (hc : X.calm = true) (hN : X.N.Nodup) (hi : PI X tg iter (tI G W items)) (ok : BlkOk X.N X.env.scope scope own)
    (his : ∀ i ∈ is, i ∈ own.map (·.2))
    (hg : ∀ (s : Shared) (H : Hp) (C : Addr) (cl : List (Str × Addr)) (fp : List Addr), PG (X.blk s H scope (compEnvC scope cl C X.env) fp) tg (tG G is g))
    (ht : ∀ (s : Shared) (H : Hp) (C : Addr) (cl : List (Str × Addr)) (fp : List Addr), PTs (X.blk s H scope (compEnvC scope cl C X.env) fp) ifs (tB G (fun _ _ _ _ => False) t))
    (he : ∀ (s : Shared) (H : Hp) (C : Addr) (cl : List (Str × Addr)) (fp : List Addr), PE (X.blk s H scope (compEnvC scope cl C X.env) fp) elt (tE G (fun _ _ _ _ => False) m)) (hs : ∀ x, foldedSetIterable iter X.env x = pure x) :
    PE X (.ListComp elt [⟨tg, iter, ifs, 0⟩] scope pos) (tO G W (compM (own.map (·.2)) items g t m)) := PE.imp (pe_lc hc hN hi ok hg ht he hs) (comp_to his)

/-! ### statements -/
inductive Fl where
  | nx | bk | ct | rt (o : O)
/-- what is wanted behind a statement -/
def WpS (G : Gx) (B : Bs) (W : WX) (Z : Addr → Option D) (r : R Fl) (Ds : Ends) : Prop := match r with
  | .ok .nx ρ => ∀ σ' Z' H', Rl G B Z' H' σ' ρ → Le Z Z' → Ds.nx σ' H'
  | .ok .bk ρ => ∀ σ' Z' H', Rl G B Z' H' σ' ρ → Le Z Z' → Ds.bk σ' H'
  | .ok .ct ρ => ∀ σ' Z' H', Rl G B Z' H' σ' ρ → Le Z Z' → Ds.ct σ' H'
  | .ok (.rt o) ρ => ∀ v σ' Z' H', RlR G B Z' H' σ' ρ v o → Le Z Z' → Ds.rt v H'
  | .exc c ρ => ∀ σ' Z' H', Rl G B Z' H' σ' ρ → Le Z Z' → W (.ref (G.cls c)) none σ' H'
  | .stuck => False
def tS (G : Gx) (W : WX) (m : M Fl) : TS := fun Ds σ H => ∃ B Z ρ, Rl G B Z H σ ρ ∧ WpS G B W Z (m ρ) Ds
theorem WpS.mono {Z1 : Addr → Option D} {r : R Fl} {D1 D2 : Ends} (h : WpS G B W Z r D1) (l : Le Z Z1) (k1 : ∀ σ H, D1.nx σ H → D2.nx σ H) (k2 : ∀ v H, D1.rt v H → D2.rt v H) (k3 : ∀ σ H, D1.bk σ H → D2.bk σ H) (k4 : ∀ σ H, D1.ct σ H → D2.ct σ H) : WpS G B W Z1 r D2 := by
  cases r with
  | ok fl ρ =>
    cases fl with
    | nx => exact fun σ' Z' H' hr hl => k1 _ _ (h σ' Z' H' hr (l.trans hl))
    | bk => exact fun σ' Z' H' hr hl => k3 _ _ (h σ' Z' H' hr (l.trans hl))
    | ct => exact fun σ' Z' H' hr hl => k4 _ _ (h σ' Z' H' hr (l.trans hl))
    | rt o => exact fun v σ' Z' H' hr hl => k2 _ _ (h v σ' Z' H' hr (l.trans hl))
  | exc c ρ => exact fun σ' Z' H' hr hl => h σ' Z' H' hr (l.trans hl)
  | stuck => exact h
theorem WpS.le {Z1 : Addr → Option D} {r : R Fl} {D1 : Ends} (h : WpS G B W Z r D1) (l : Le Z Z1) : WpS G B W Z1 r D1 := h.mono l (fun _ _ => id) (fun _ _ => id) (fun _ _ => id) (fun _ _ => id)
/-- an expression ahead -/
theorem WpS.bnd {α : Type} {m : M α} {f : α → M Fl} {Ds : Ends} (h : WpS G B W Z (bnd m f ρ) Ds) : Wp G B W Z σ (m ρ) fun a ρ1 => WpS G B W Z (f a ρ1) Ds := by
  unfold FW.bnd at h
  cases e : m ρ with
  | ok a ρ1 => rw [e] at h; exact h
  | exc c ρ1 => rw [e] at h; exact fun Z' H' hr hl => h σ Z' H' hr hl
  | stuck => rw [e] at h; exact h
def seqM (a b : M Fl) : M Fl := bnd a fun fl => match fl with
  | .nx => b
  | fl => ret fl
variable {st : Stmt} {sts : List Stmt}
theorem PS.imp {t t' : TS} (h : PS X st t) (k : ∀ Ds σ H, t' Ds σ H → t Ds σ H) : PS X st t' := ⟨fun pins s σ H Ds I q => h.run pins s σ H Ds I (k Ds σ H q)⟩
theorem PSs.imp {t t' : TS} (h : PSs X sts t) (k : ∀ Ds σ H, t' Ds σ H → t Ds σ H) : PSs X sts t' := ⟨fun pins s σ H Ds I q => h.run pins s σ H Ds I (k Ds σ H q)⟩
theorem pss_nilD : PSs X [] (tS G W (ret .nx)) := PSs.imp pss_nil fun Ds σ H ⟨B, Z, ρ, hr, hw⟩ => hw σ Z H hr (Le.refl _)
theorem pss_oneD {m : M Fl} (h : PS X st (tS G W m)) : PSs X [st] (tS G W m) := pss_one h
theorem pss_consD {a b : M Fl} (h1 : PS X st (tS G W a)) (h2 : PSs X sts (tS G W b)) : PSs X (st :: sts) (tS G W (seqM a b)) := PSs.imp (pss_cons h1 h2) fun Ds σ H ⟨B, Z, ρ, hr, hw⟩ => by
  refine ⟨B, Z, ρ, hr, ?_⟩
  unfold seqM bnd at hw
  cases q : a ρ with
  | stuck => rw [q] at hw; exact hw
  | exc c ρ1 => rw [q] at hw; exact hw
  | ok fl ρ1 =>
    rw [q] at hw
    cases fl with
    | nx => exact fun σ' Z' H' r' l' => ⟨B, Z', ρ1, r', WpS.le (r := b ρ1) hw l'⟩
    | bk => exact hw
    | ct => exact hw
    | rt o => exact hw
theorem ps_passD {p : Pos} : PS X (.Pass p) (tS G W (ret .nx)) := PS.imp ps_pass fun Ds σ H ⟨B, Z, ρ, hr, hw⟩ => hw σ Z H hr (Le.refl _)
theorem ps_breakD {p : Pos} : PS X (.Break p) (tS G W (ret .bk)) := PS.imp ps_break fun Ds σ H ⟨B, Z, ρ, hr, hw⟩ => hw σ Z H hr (Le.refl _)
theorem ps_contD {p : Pos} : PS X (.Continue p) (tS G W (ret .ct)) := PS.imp ps_continue fun Ds σ H ⟨B, Z, ρ, hr, hw⟩ => hw σ Z H hr (Le.refl _)
/-- an expression whose value is dropped -/
theorem ps_exprD {m : M O} (h : PE X e (tO G W m)) (hs : swapsWith e none pos.line X.env = pure false) : PS X (.Expr e pos) (tS G W (bnd m fun _ => ret .nx)) := PS.imp (ps_expr h hs) fun Ds σ H ⟨B, Z, ρ, hr, hw⟩ =>
  ⟨B, Z, ρ, hr, hw.bnd.mono (Le.refl _) fun o ρ1 h1 v Z1 H1 r1 l1 => h1 σ Z1 H1 r1.rl l1⟩
theorem ps_retD {m : M O} (h : PE X e (tO G W m)) : PS X (.Return (some e) pos) (tS G W (bnd m fun o => ret (.rt o))) := PS.imp (ps_ret h) fun Ds σ H ⟨B, Z, ρ, hr, hw⟩ =>
  ⟨B, Z, ρ, hr, hw.bnd.mono (Le.refl _) fun o ρ1 h1 v Z1 H1 r1 l1 => h1 v σ Z1 H1 r1 l1⟩
theorem ps_retND : PS X (.Return none pos) (tS G W (ret (.rt (.fz .non)))) := PS.imp ps_retN fun Ds σ H ⟨B, Z, ρ, hr, hw⟩ => hw .non σ Z H (hr.fz trivial) (Le.refl _)
/-- x = e -/
def putM (i : Nat) (o : O) : M Fl := fun ρ => .ok .nx (ρ.set i (some o))
theorem set_to {i : Nat} {m : M O} : ∀ Ds σ H, tS G W (bnd m (putM i)) Ds σ H → tAsg (tO G W m) (gName i) Ds σ H := fun Ds σ H ⟨B, Z, ρ, hr, hw⟩ =>
  ⟨B, Z, ρ, hr, hw.bnd.mono (Le.refl _) fun o ρ1 h1 v Z1 H1 r1 l1 => h1 _ Z1 H1 r1.store l1⟩
theorem ps_setD {i : Nat} {x : Str} {pos' : Pos} {m : M O} (hN : X.N.Nodup) (hi : X.N[i]? = some x) (hx : Loc X.env.scope x) (h : PE X e (tO G W m)) (hs : swapsWith e (some (.Name x pos')) pos.line X.env = pure false) (hf : X.fn x = true ∨ X.env.scope.names.lookup x = some .local) :
    PS X (.Assign [.Name x pos'] e pos) (tS G W (bnd m (putM i))) := PS.imp (ps_set hN hi hx h hs hf) set_to
/-- x = [..], the comprehension's own way -/
theorem ps_setCompD {i : Nat} {y : Str} {py spos : Pos} {elt tg iter : Expr} {ifs : List Expr} {scope : Scope} {own : List (Str × Nat)} {is : List Nat} {items : M (List D)} {g : D → M Unit} {t : M Bool} {m : M D} (hc : X.calm = true) (hN : X.N.Nodup)
    (hy : X.N[i]? = some y) (hyl : X.env.scope.names.lookup y = some .local) (hsw : swapsWith (.ListComp elt [⟨tg, iter, ifs, 0⟩] scope pos) (some (.Name y py)) spos.line X.env = pure true)
    (hi : PI X tg iter (tI G W items)) (ok : BlkOk X.N X.env.scope scope own) (his : ∀ i ∈ is, i ∈ own.map (·.2))
    (hg : ∀ (s : Shared) (H : Hp) (C : Addr) (cl : List (Str × Addr)) (fp : List Addr), PG (X.blk s H scope (compEnvC scope cl C X.env) fp) tg (tG G is g))
    (ht : ∀ (s : Shared) (H : Hp) (C : Addr) (cl : List (Str × Addr)) (fp : List Addr), PTs (X.blk s H scope (compEnvC scope cl C X.env) fp) ifs (tB G (fun _ _ _ _ => False) t))
    (he : ∀ (s : Shared) (H : Hp) (C : Addr) (cl : List (Str × Addr)) (fp : List Addr), PE (X.blk s H scope (compEnvC scope cl C X.env) fp) elt (tE G (fun _ _ _ _ => False) m)) (hs : ∀ x, foldedSetIterable iter X.env x = pure x) :
    PS X (.Assign [.Name y py] (.ListComp elt [⟨tg, iter, ifs, 0⟩] scope pos) spos) (tS G W (bnd (compM (own.map (·.2)) items g t m) (putM i))) :=
  PS.imp (ps_setLc hc hN hy hyl hsw hi ok hg ht he hs) fun Ds σ H ⟨B, Z, ρ, hr, hw⟩ => by
    refine comp_to (W := W) his σ H (fun x H1 => gName i x σ H1 Ds.nx) ⟨B, Z, ρ, hr, hw.bnd.mono (Le.refl _) fun o ρ1 h1 v Z1 H1 r1 l1 => h1 _ Z1 H1 r1.store l1⟩
/-- a, b = e -/
theorem ps_unpD {tg : Expr} {is : List Nat} {m : M D} {g : D → M Unit} (h : PE X e (tE G W m)) (hg : PG X tg (tG G is g)) (hs : swapsWithSole [tg] e pos.line X.env = pure false) (hw : swappedStores [tg] e X.env = pure none) (h1 : (assignEach [tg] X.env).map (·.2) = [assign tg X.env]) :
    PS X (.Assign [tg] e pos) (tS G W (bnd m fun d => fun ρ => match g d ρ with | .ok _ ρ' => .ok .nx ρ' | _ => .stuck)) := PS.imp (ps_asg h hg hs hw h1) fun Ds σ H ⟨B, Z, ρ, hr, hw⟩ =>
  ⟨B, Z, ρ, hr, hw.bnd.mono (Le.refl _) fun d ρ1 h1 v Z1 H1 r1 d1 l1 => by
    refine ⟨B, Z1, ρ1, d, r1, d1, ?_⟩
    cases q : g d ρ1 with
    | ok u ρ2 => simp only [q] at h1; exact fun σ2 Z2 H2 r2 l2 _ => h1 σ2 Z2 H2 r2 (l1.trans l2)
    | exc c ρ2 => simp only [q] at h1; exact h1
    | stuck => simp only [q] at h1; exact h1⟩
/-- a, b = e1, e2 -/
theorem ps_parD {i j : Nat} {x y : Str} {a b : Expr} {ms : M (List D)} {px py pt : Pos} {kt k2 : Nat} {pt2 : Pos} (hc : X.calm = true) (hN : X.N.Nodup) (hi : X.N[i]? = some x) (hj : X.N[j]? = some y) (hij : i ≠ j)
    (hx : X.env.scope.names.lookup x = some .local) (hy : X.env.scope.names.lookup y = some .local) (ha : PA X [a, b] (tAs G W ms))
    (hw : swappedStores [.Tuple [.Name x px, .Name y py] kt pt] (.Tuple [a, b] k2 pt2) X.env = pure (some [x, y])) (hs : swapsWithSole [.Tuple [.Name x px, .Name y py] kt pt] (.Tuple [a, b] k2 pt2) pos.line X.env = pure false) :
    PS X (.Assign [.Tuple [.Name x px, .Name y py] kt pt] (.Tuple [a, b] k2 pt2) pos) (tS G W (bnd ms fun ds => match ds with
      | [d, d'] => fun ρ => .ok .nx ((ρ.set i (some (.fz d))).set j (some (.fz d')))
      | _ => stk)) := PS.imp (ps_par hc hN hi hj hij hx hy ha hw hs) fun Ds σ H ⟨B, Z, ρ, hr, hw⟩ =>
  ⟨B, Z, ρ, hr, hw.bnd.mono (Le.refl _) fun ds ρ1 h1 vs Z1 H1 r1 d1 l1 => by
    match ds, d1, h1 with
    | [d, d'], d1, h1 =>
      obtain ⟨v, v', rfl, q, q'⟩ := RelDs.two d1
      have r2 := (r1.fz q).store (i := i)
      have r3 := (r2.fz q').store (i := j)
      exact ⟨v, v', rfl, h1 _ Z1 H1 r3 l1⟩
    | [], d1, h1 => exact h1.elim
    | [_], d1, h1 => exact h1.elim
    | _ :: _ :: _ :: _, d1, h1 => exact h1.elim⟩
/-- x op= e -/
def augM (i : Nat) (m : M D) (g : D → D → Option D) : M Fl := fun ρ => match (ρ[i]?).getD none with
  | some (.fz x) => bnd m (fun y => bnd (ownM (g x y)) (putM i)) ρ
  | _ => .stuck
theorem ps_augD {i : Nat} {x : Str} {op : Operator} {r : R2} {g : D → D → Option D} {m : M D} {pos' : Pos} (hN : X.N.Nodup) (hi : X.N[i]? = some x) (hx : Loc X.env.scope x) (h : PE X e (tE G W m)) (ho : OpR X (inplaceOp op) r) (hg : Compat2 G r g) (hf : X.fn x = true ∨ X.env.scope.names.lookup x = some .local) :
    PS X (.AugAssign (.Name x pos') op e pos) (tS G W (augM i m g)) :=
  PS.imp (ps_aug (ti := r) hN hi hx h (fun pins s σ H x y v u Q I r1 r2 q => ho pins s σ H x y v u Q I r1 r2 q) hf) fun Ds σ H ⟨B, Z, ρ, hr, hw⟩ => by
    unfold augM at hw
    cases q : (ρ[i]?).getD none with
    | none => rw [q] at hw; exact hw.elim
    | some o =>
      rw [q] at hw
      cases o with
      | fz d =>
        obtain ⟨v, ev, rd⟩ := hr.get (getD_some q)
        have hw : WpS G B W Z (bnd m (fun y => bnd (ownM (g d y)) (putM i)) ρ) Ds := hw
        refine ⟨v, ev, B, Z, ρ, hr, hw.bnd.mono (Le.refl _) fun d2 ρ1 h1 v2 Z1 H1 r1 d1 l1 => ?_⟩
        unfold bnd ownM at h1
        cases qg : g d d2 with
        | none => rw [qg] at h1; exact h1.elim
        | some f =>
          rw [qg] at h1
          exact hg Z1 H1 v v2 d d2 f _ r1.zok (rd.mono l1) d1 qg fun v3 Z3 H3 n => h1 _ Z3 H3 (r1.new n).store (l1.trans (n.ext.le r1.zok))
      | _ => exact hw.elim
theorem ps_ifD {t : M Bool} {m n : M Fl} {as bs : List Stmt} (hc : PT X c (tB G W t)) (ha : PSs X as (tS G W m)) (hb : PSs X bs (tS G W n)) : PS X (.If c as bs pos) (tS G W (iteM t m n)) := PS.imp (ps_if hc ha hb) fun Ds σ H ⟨B, Z, ρ, hr, hw⟩ =>
  ⟨B, Z, ρ, hr, (WpS.bnd (σ := σ) hw).mono (Le.refl _) fun k ρ1 h1 Z1 H1 r1 l1 => by
    cases k with
    | true => rw [if_pos rfl]; exact ⟨B, Z1, ρ1, r1, WpS.le (r := m ρ1) h1 l1⟩
    | false => rw [if_neg Bool.false_ne_true]; exact ⟨B, Z1, ρ1, r1, WpS.le (r := n ρ1) h1 l1⟩⟩
/-- while, at most so many turns -/
def whileM (t : M Bool) (m : M Fl) : Nat → M Fl
  | 0 => stk
  | n + 1 => bnd t fun k => if k then bnd m fun fl => match fl with
      | .nx => whileM t m n
      | .ct => whileM t m n
      | .bk => ret .nx
      | .rt o => ret (.rt o)
    else ret .nx
theorem ps_whileD {t : M Bool} {m : M Fl} {sts : List Stmt} {fuel : Nat} (hp : PassesOwn (model X.prog X.w) X.A X.env X.xe) (hc : PT X c (tB G W t)) (hb : PSs X sts (tS G W m)) : PS X (.While c sts [] pos) (tS G W (whileM t m fuel)) := PS.imp (ps_while hp hc hb) fun Ds σ H ⟨B, Z, ρ, hr, hw⟩ => by
  refine ⟨fun n σ' H' => ∃ Z' ρ', Rl G B Z' H' σ' ρ' ∧ WpS G B W Z' (whileM t m n ρ') Ds, ⟨fuel, Z, ρ, hr, hw⟩, ?_⟩
  rintro n σ1 H1 ⟨Z1, ρ1, r1, h1⟩
  cases n with
  | zero => exact h1.elim
  | succ n =>
    refine ⟨B, Z1, ρ1, r1, (WpS.bnd (σ := σ1) h1).mono (Le.refl _) fun k ρ2 h2 Z2 H2 r2 l2 => ?_⟩
    cases k with
    | false => rw [if_neg Bool.false_ne_true]; exact h2 σ1 Z2 H2 r2 l2
    | true =>
      rw [if_pos rfl]
      refine ⟨fun σ' H' => ∃ Z' ρ', Rl G B Z' H' σ' ρ' ∧ WpS G B W Z' (whileM t m n ρ') Ds, fun σ' H' h' => ⟨n, Nat.lt_succ_self _, h'⟩, B, Z2, ρ2, r2, ?_⟩
      have h3 : WpS G B W Z1 (bnd m (fun fl => match fl with
        | .nx => whileM t m n
        | .ct => whileM t m n
        | .bk => ret .nx
        | .rt o => ret (.rt o)) ρ2) Ds := h2
      unfold bnd at h3
      cases q : m ρ2 with
      | stuck => rw [q] at h3; exact h3
      | exc c ρ3 => rw [q] at h3; exact fun σ' Z' H' r' l' => h3 σ' Z' H' r' (l2.trans l')
      | ok fl ρ3 =>
        rw [q] at h3
        cases fl with
        | nx => exact fun σ' Z' H' r' l' => ⟨Z', ρ3, r', WpS.le (r := whileM t m n ρ3) h3 (l2.trans l')⟩
        | ct => exact fun σ' Z' H' r' l' => ⟨Z', ρ3, r', WpS.le (r := whileM t m n ρ3) h3 (l2.trans l')⟩
        | bk => exact fun σ' Z' H' r' l' => h3 σ' Z' H' r' (l2.trans l')
        | rt o => exact fun v σ' Z' H' r' l' => h3 v σ' Z' H' r' (l2.trans l')
/-- for -/
def forM' (g : D → M Unit) (m : M Fl) : List D → M Fl
  | [] => ret .nx
  | d :: ds => fun ρ => match g d ρ with
    | .ok _ ρ1 => bnd m (fun fl => match fl with
      | .nx => forM' g m ds
      | .ct => forM' g m ds
      | .bk => ret .nx
      | .rt o => ret (.rt o)) ρ1
    | _ => .stuck
theorem ps_forD {tg iter : Expr} {is : List Nat} {items : M (List D)} {g : D → M Unit} {m : M Fl} {sts : List Stmt} (hp : PassesOwn (model X.prog X.w) X.A X.env X.xe) (hc : X.calm = true) (hi : PI X tg iter (tI G W items)) (hg : PG X tg (tG G is g)) (hb : PSs X sts (tS G W m))
    (hs : ∀ x, foldedSetIterable iter X.env x = pure x) : PS X (.For tg iter sts [] pos) (tS G W (bnd items fun ds => forM' g m ds)) := PS.imp (ps_for hp hc hi hg hb hs) fun Ds σ H ⟨B, Z, ρ, hr, hw⟩ => by
  refine ⟨B, Z, ρ, hr, (WpS.bnd (σ := σ) hw).mono (Le.refl _) fun ds ρ1 h1 J Z1 H1 r1 l1 wk => ?_⟩
  refine ⟨fun i n σ' H' => n = ds.length - i ∧ i ≤ ds.length ∧ ∃ Z' ρ', Rl G B Z' H' σ' ρ' ∧ Le Z1 Z' ∧ WpS G B W Z' (forM' g m (ds.drop i) ρ') Ds, ⟨ds.length, by simp, Nat.zero_le _, Z1, ρ1, r1, Le.refl _, WpS.le (r := forM' g m ds ρ1) h1 l1⟩, ?_⟩
  rintro i n σ2 H2 ⟨rfl, hi, Z2, ρ2, r2, l2, h2⟩
  have wk2 := wk Z2 H2 l2 r2.zok i
  by_cases hlt : i < ds.length
  · refine .inr ⟨(wk2.1 hlt).1, fun σ' H' => ∃ Z' ρ', Rl G B Z' H' σ' ρ' ∧ Le Z1 Z' ∧ WpS G B W Z' (forM' g m (ds.drop (i + 1)) ρ') Ds, fun σ' H' h' => ⟨ds.length - (i + 1), by omega, rfl, hlt, h'⟩, fun x H3 y => ?_⟩
    obtain ⟨d, Z3, ed, n3⟩ := (wk2.1 hlt).2 x H3 y
    have edr : ds.drop i = d :: ds.drop (i + 1) := by
      obtain ⟨h, e⟩ := List.getElem?_eq_some_iff.mp ed
      rw [← e]; exact List.drop_eq_getElem_cons h
    rw [edr] at h2
    have r3 := r2.new n3
    have l3 := n3.ext.le r2.zok
    refine ⟨B, Z3, ρ2, d, r3.rl, r3.relD, ?_⟩
    unfold forM' at h2
    cases qg : g d ρ2 with
    | stuck => rw [qg] at h2; exact h2
    | exc c ρ3 => rw [qg] at h2; exact h2
    | ok u ρ3 =>
      rw [qg] at h2
      intro σ4 Z4 H4 r4 l4 _
      refine ⟨B, Z4, ρ3, r4, ?_⟩
      have h3 : WpS G B W Z2 (bnd m (fun fl => match fl with
        | .nx => forM' g m (ds.drop (i + 1))
        | .ct => forM' g m (ds.drop (i + 1))
        | .bk => ret .nx
        | .rt o => ret (.rt o)) ρ3) Ds := h2
      unfold bnd at h3
      cases q : m ρ3 with
      | stuck => rw [q] at h3; exact h3
      | exc c ρ5 => rw [q] at h3; exact fun σ' Z' H' r' l' => h3 σ' Z' H' r' (l3.trans (l4.trans l'))
      | ok fl ρ5 =>
        rw [q] at h3
        cases fl with
        | nx => exact fun σ' Z' H' r' l' => ⟨Z', ρ5, r', l2.trans (l3.trans (l4.trans l')), WpS.le (r := forM' g m (ds.drop (i + 1)) ρ5) h3 (l3.trans (l4.trans l'))⟩
        | ct => exact fun σ' Z' H' r' l' => ⟨Z', ρ5, r', l2.trans (l3.trans (l4.trans l')), WpS.le (r := forM' g m (ds.drop (i + 1)) ρ5) h3 (l3.trans (l4.trans l'))⟩
        | bk => exact fun σ' Z' H' r' l' => h3 σ' Z' H' r' (l3.trans (l4.trans l'))
        | rt o => exact fun v σ' Z' H' r' l' => h3 v σ' Z' H' r' (l3.trans (l4.trans l'))
  · have e : i = ds.length := by omega
    subst e
    rw [List.drop_length] at h2
    exact .inl ⟨wk2.2 rfl, h2 σ2 Z2 H2 r2 (Le.refl _)⟩
/-- raise C('..') -/
theorem ps_raiseD {t : L2.St → Hp → XK → Prop} {c : Nat} (hc : X.calm = true) (tk : Takes X W) (he : PMk X e t) (ht : ∀ σ H Q, Q (.ref (G.cls c)) none H → t σ H Q) : PS X (.Raise (some e) none pos) (tS G W (fun ρ => .exc c ρ)) :=
  PS.imp (ps_raise hc tk he) fun Ds σ H ⟨B, Z, ρ, hr, hw⟩ => ht σ H _ (hw σ Z H hr (Le.refl _))
end
end FW
set_option Elab.async false
set_option linter.all false
set_option maxRecDepth 100000
/-! FW5: operators and builtins by values -/
namespace FW
open PySem PySem.Spec L2

section
variable {G : Gx} {W : WX} {B : Bs} {X : Cx} {Z : Addr → Option D} {H : Hp} {v v' : V} {d e : D}
theorem RelDs.append {vs ws : List V} {ds es : List D} (h : RelDs G Z vs ds) (h' : RelDs G Z ws es) : RelDs G Z (vs ++ ws) (ds ++ es) := by
  induction h with
  | nil => exact h'
  | cons a _ ih => exact .cons a ih
theorem RelDs.take {vs : List V} {ds : List D} (n : Nat) (h : RelDs G Z vs ds) : RelDs G Z (vs.take n) (ds.take n) := by
  induction h generalizing n with
  | nil => simp; exact .nil
  | cons a _ ih => cases n with
    | zero => exact .nil
    | succ n => exact .cons a (ih n)
theorem RelDs.drop {vs : List V} {ds : List D} (n : Nat) (h : RelDs G Z vs ds) : RelDs G Z (vs.drop n) (ds.drop n) := by
  induction h generalizing n with
  | nil => simp; exact .nil
  | cons a r ih => cases n with
    | zero => exact .cons a r
    | succ n => exact ih n
theorem RelDs.rev {vs : List V} {ds : List D} (h : RelDs G Z vs ds) : RelDs G Z vs.reverse ds.reverse := by
  induction h with
  | nil => exact .nil
  | cons a _ ih => rw [List.reverse_cons, List.reverse_cons]; exact ih.append (.cons a .nil)
theorem RelDs.set {vs : List V} {ds : List D} {v : V} {d : D} (n : Nat) (h : RelDs G Z vs ds) (r : RelD G Z v d) : RelDs G Z (vs.set n v) (ds.set n d) := by
  induction h generalizing n with
  | nil => simp; exact .nil
  | cons a t ih => cases n with
    | zero => exact .cons r t
    | succ n => exact .cons a (ih n)
theorem RelDs.cut {vs : List V} {ds : List D} (h : RelDs G Z vs ds) (lo hi : Option Int) : RelDs G Z (cutV vs lo hi) ((ds.drop (HT.sIx ds.length 0 lo)).take (HT.sIx ds.length ds.length hi - HT.sIx ds.length 0 lo)) := by
  unfold cutV
  rw [h.length]
  exact (h.drop _).take _
theorem RelDs.rep {vs : List V} {ds : List D} (h : RelDs G Z vs ds) : ∀ k : Nat, RelDs G Z (List.replicate k vs).flatten (List.replicate k ds).flatten
  | 0 => .nil
  | k + 1 => by rw [List.replicate_succ, List.replicate_succ, List.flatten_cons, List.flatten_cons]; exact h.append (RelDs.rep h k)
theorem RelDs.ints (zok : ZOk G Z H) (kok : KOk G) : ∀ {vs : List V} {ns : List Int}, RelDs G Z vs (ns.map .int) → vs = ns.map V.int
  | [], [], _ => rfl
  | _, n :: ns, .cons a r => by rw [RelD.int_inv a zok kok, RelDs.ints zok kok r]; rfl
theorem RelDs.bls (zok : ZOk G Z H) (kok : KOk G) : ∀ {vs : List V} {ns : List Bool}, RelDs G Z vs (ns.map .bl) → vs = ns.map V.bl
  | [], [], _ => rfl
  | _, n :: ns, .cons a r => by rw [RelD.bl_inv a zok kok, RelDs.bls zok kok r]; rfl
theorem RelDs.strs (zok : ZOk G Z H) (kok : KOk G) : ∀ {vs : List V} {ns : List (List Nat)}, RelDs G Z vs (ns.map .str) → vs = (ns.map fun l => (⟨l.toArray⟩ : Str)).map V.str
  | [], [], _ => rfl
  | _, n :: ns, .cons a r => by rw [RelD.str_inv a zok kok, RelDs.strs zok kok r]; rfl
def asInts : List D → Option (List Int)
  | [] => some []
  | .int i :: r => (asInts r).map (i :: ·)
  | _ => none
theorem asInts_ok : ∀ {l : List D} {ns : List Int}, asInts l = some ns → l = ns.map .int
  | [], ns, h => by cases h; rfl
  | .int i :: r, ns, h => by
    unfold asInts at h
    cases q : asInts r with
    | none => rw [q] at h; cases h
    | some ms => rw [q] at h; cases h; rw [asInts_ok q]; rfl
  | .non :: _, _, h | .bl _ :: _, _, h | .str _ :: _, _, h | .tup _ :: _, _, h | .lst _ :: _, _, h | .dic _ :: _, _, h | .scr _ :: _, _, h => by cases h
theorem asInts_map : ∀ ns : List Int, asInts (ns.map .int) = some ns
  | [] => rfl
  | n :: ns => by show (asInts (ns.map .int)).map (n :: ·) = _; rw [asInts_map ns]; rfl
def asBls : List D → Option (List Bool)
  | [] => some []
  | .bl i :: r => (asBls r).map (i :: ·)
  | _ => none
theorem asBls_ok : ∀ {l : List D} {ns : List Bool}, asBls l = some ns → l = ns.map .bl
  | [], ns, h => by cases h; rfl
  | .bl i :: r, ns, h => by
    unfold asBls at h
    cases q : asBls r with
    | none => rw [q] at h; cases h
    | some ms => rw [q] at h; cases h; rw [asBls_ok q]; rfl
  | .non :: _, _, h | .int _ :: _, _, h | .str _ :: _, _, h | .tup _ :: _, _, h | .lst _ :: _, _, h | .dic _ :: _, _, h | .scr _ :: _, _, h => by cases h
theorem asBls_map : ∀ ns : List Bool, asBls (ns.map .bl) = some ns
  | [] => rfl
  | n :: ns => by show (asBls (ns.map .bl)).map (n :: ·) = _; rw [asBls_map ns]; rfl
def asStrs : List D → Option (List (List Nat))
  | [] => some []
  | .str i :: r => (asStrs r).map (i :: ·)
  | _ => none
theorem asStrs_ok : ∀ {l : List D} {ns : List (List Nat)}, asStrs l = some ns → l = ns.map .str
  | [], ns, h => by cases h; rfl
  | .str i :: r, ns, h => by
    unfold asStrs at h
    cases q : asStrs r with
    | none => rw [q] at h; cases h
    | some ms => rw [q] at h; cases h; rw [asStrs_ok q]; rfl
  | .non :: _, _, h | .int _ :: _, _, h | .bl _ :: _, _, h | .tup _ :: _, _, h | .lst _ :: _, _, h | .dic _ :: _, _, h | .scr _ :: _, _, h => by cases h
theorem asStrs_map : ∀ ns : List (List Nat), asStrs (ns.map .str) = some ns
  | [] => rfl
  | n :: ns => by show (asStrs (ns.map .str)).map (n :: ·) = _; rw [asStrs_map ns]; rfl

theorem own_int (i : Int) : own (.int i) = .fz (.int i) := rfl
theorem own_str (i : List Nat) : own (.str i) = .fz (.str i) := rfl
theorem NewR.flat {Q : VK} (zok : ZOk G Z H) {f : D} {v : V} (hf : own f = .fz f) (r : RelD G Z v f) (h : ∀ v Z' H', NewR G Z H Z' H' v (own f) → Q v H') : Q v H := h v Z H (by rw [hf]; exact .old zok r)
/-! ### + -/
def addG : D → D → Option D
  | .int i, .int j => some (.int (i + j))
  | .str s, .str t => if s.length + t.length ≤ sizeLine then some (.str (s ++ t)) else none
  | .lst l, .lst m => if l.length + m.length ≤ sizeLine then some (.lst (l ++ m)) else none
  | .tup l, .tup m => if l.length + m.length ≤ sizeLine ∧ l ≠ [] ∧ m ≠ [] then some (.tup (l ++ m)) else none
  | _, _ => none
def rAddA (K : PySem.W.Frag) : R2 := fun x y H Q => ((∃ i j, x = .int i ∧ y = .int j ∧ Q (.int (i + j)) H) ∨ (∃ i j, x = .str i ∧ y = .str j ∧ i.length + j.length ≤ sizeLine ∧ Q (.str (i ++ j)) H)) ∨ (rCat x y H Q ∨ rCatT K x y H Q)
theorem op_addA : OpR X (binaryOp .Add) (rAddA X.K) := (op_add.or op_add_str).or (op_cat.or op_catT)
theorem ifSome {c : Prop} [Decidable c] {α : Type} {a b : α} (h : (if c then some a else none) = some b) : c ∧ a = b := by
  by_cases hc : c
  · rw [if_pos hc] at h; exact ⟨hc, Option.some.inj h⟩
  · rw [if_neg hc] at h; cases h
theorem addG_ok (kok : KOk G) : Compat2 G (rAddA G.K) addG := fun Z H x y d e f Q zok rx ry hf k => by
  cases d <;> cases e <;> try (cases hf; done)
  case int.int i j =>
    cases hf
    exact .inl (.inl ⟨i, j, rx.int_inv zok kok, ry.int_inv zok kok, k _ Z H (.old zok rfl)⟩)
  case str.str s t =>
    obtain ⟨hz, rfl⟩ := ifSome hf
    refine .inl (.inr ⟨_, _, rx.str_inv zok kok, ry.str_inv zok kok, hz, k _ Z H (.old zok ?_)⟩)
    show (⟨s.toArray ++ t.toArray⟩ : Str) = ⟨(s ++ t).toArray⟩
    simp
  case lst.lst l m =>
    obtain ⟨hz, rfl⟩ := ifSome hf
    obtain ⟨p, vs, rfl, hp, r1⟩ := rx.lst_inv zok kok
    obtain ⟨q, ws, rfl, hq, r2⟩ := ry.lst_inv zok kok
    exact .inr (.inl ⟨p, q, vs, ws, rfl, rfl, hp, hq, by rw [r1.length, r2.length]; exact hz, fun u nu => k _ _ _ (.lst zok nu (r1.append r2))⟩)
  case tup.tup l m =>
    obtain ⟨hz, rfl⟩ := ifSome hf
    obtain ⟨p, vs, rfl, hp, r1⟩ := rx.tup_inv zok kok
    obtain ⟨q, ws, rfl, hq, r2⟩ := ry.tup_inv zok kok
    refine .inr (.inr ⟨p, q, vs, ws, rfl, rfl, hp, hq, fun e => hz.2.1 (by cases r1 with | nil => rfl | cons _ _ => cases e), by rw [r1.length, r2.length]; exact hz.1, ?_⟩)
    exact ⟨fun e => absurd (by cases r2 with | nil => rfl | cons _ _ => cases e) hz.2.2, fun _ u nu => k _ _ _ (.tup zok nu (r1.append r2))⟩
/-! ### -, *, //, %, ** -/
def intG (C : Int → Int → Bool) (g : Int → Int → Int) : D → D → Option D
  | .int i, .int j => if C i j then some (.int (g i j)) else none
  | _, _ => none
theorem intG_ok (kok : KOk G) {C : Int → Int → Bool} {P : Int → Int → Prop} {g : Int → Int → Int} (hC : ∀ i j, C i j = true → P i j) : Compat2 G (rI P fun i j => .int (g i j)) (intG C g) := fun Z H x y d e f Q zok rx ry hf k => by
  cases d <;> cases e <;> try (cases hf; done)
  case int.int i j =>
    obtain ⟨hz, rfl⟩ := ifSome hf
    exact ⟨i, j, rx.int_inv zok kok, ry.int_inv zok kok, hC i j hz, k _ Z H (.old zok rfl)⟩
def subG : D → D → Option D := intG (fun _ _ => true) (· - ·)
theorem subG_ok (kok : KOk G) : Compat2 G (rI0 fun i j => .int (i - j)) subG := fun Z H x y d e f Q zok rx ry hf k =>
  let ⟨i, j, a, b, _, c⟩ := intG_ok (P := fun _ _ => True) kok (fun _ _ _ => trivial) Z H x y d e f Q zok rx ry hf k
  ⟨i, j, a, b, c⟩
def mulC (i j : Int) : Bool := decide (i.natAbs.log2 + j.natAbs.log2 + 2 ≤ 134217728)
theorem natAbs_lt_log (i : Int) : i.natAbs < 2 ^ (i.natAbs.log2 + 1) := Nat.lt_log2_self
theorem mulC_ok {i j : Int} (h : mulC i j = true) : CMulX i j := mulx_ok (natAbs_lt_log i) (natAbs_lt_log j) (by have := of_decide_eq_true h; omega)
def repOk (n : Nat) (k : Int) : Bool := decide (n * k.toNat ≤ sizeLine ∧ -(2 ^ 62) ≤ k ∧ k < 2 ^ 62)
def mulG : D → D → Option D
  | .int i, .int j => if mulC i j = true then some (.int (i * j)) else none
  | .str s, .int n => if repOk s.length n = true then some (.str (List.replicate n.toNat s).flatten) else none
  | .lst l, .int n => if repOk l.length n = true then some (.lst (List.replicate n.toNat l).flatten) else none
  | _, _ => none
def rMulS : R2 := fun x y H Q => ∃ s n, x = .str s ∧ y = .int n ∧ MulOk s n ∧ Q (.str (Txt.mul s n)) H
theorem op_mulS : OpR X (binaryOp .Mult) rMulS := by
  intro pins s σ H x y v u Q I rx ry h
  obtain ⟨z, n, rfl, rfl, hm, q⟩ := h
  obtain ⟨t, rfl⟩ := rx
  obtain ⟨t', rfl⟩ := ry
  exact SB.mul hm fun t' k => ⟨.str _, H, I.tok _, ⟨_, rfl⟩, q⟩
theorem fold_arr (x : Array Nat) : ∀ (k : Nat) (acc : Array Nat), List.foldl (· ++ ·) acc (List.replicate k x) = acc ++ (List.replicate k x.toList).flatten.toArray
  | 0, acc => by simp
  | k + 1, acc => by
    rw [List.replicate_succ, List.foldl_cons, fold_arr x k, List.replicate_succ, List.flatten_cons, Array.append_assoc]
    congr 1
    apply Array.ext'
    simp
theorem mulS_eq (s : List Nat) (n : Int) : Txt.mul ⟨s.toArray⟩ n = ⟨(List.replicate n.toNat s).flatten.toArray⟩ := by
  unfold Txt.mul
  by_cases h1 : n < 1
  · rw [if_pos h1]
    have : n.toNat = 0 := by omega
    rw [this]; rfl
  · rw [if_neg h1]
    by_cases h2 : (n == 1 || (⟨s.toArray⟩ : Str).length == 0) = true
    · rw [if_pos h2]
      rw [Bool.or_eq_true] at h2
      rcases h2 with h2 | h2
      · have : n = 1 := by simpa using h2
        subst this
        simp
      · have : s = [] := by
          have : s.length = 0 := by simpa [Str.length] using h2
          exact List.eq_nil_of_length_eq_zero this
        subst this
        simp
    · rw [if_neg h2, fold_arr]; simp
theorem mulOk_of {s : List Nat} {n : Int} (h : repOk s.length n = true) : MulOk ⟨s.toArray⟩ n := by
  obtain ⟨h1, h2, h3⟩ := of_decide_eq_true h
  have hl : (⟨s.toArray⟩ : Str).length = s.length := by simp [Str.length]
  refine ⟨?_, fun hn _ => ?_, fun hn _ => ?_⟩
  · rw [decide_eq_false (by omega), decide_eq_false (by omega)]; rfl
  · rw [hl]
    intro hz
    have e1 : (2 ^ 63 - 1 : Int) / n < (s.length : Int) := hz
    have hsz : sizeLine < 2 ^ 62 := by rw [sizeLine_eq]; decide
    have e2 : (2 ^ 63 - 1 : Int) < n * (s.length : Int) := by
      have := Int.lt_mul_of_ediv_lt (by omega : 0 < n) e1
      rw [Int.mul_comm]; exact this
    have e3 : n * (s.length : Int) = ((s.length * n.toNat : Nat) : Int) := by
      rw [Int.natCast_mul, Int.toNat_of_nonneg (by omega), Int.mul_comm]
    rw [e3] at e2
    omega
  · rw [hl]
    show decide (s.length * n.toNat > sizeLine) = false
    exact decide_eq_false (by omega)
def rMulA : R2 := fun x y H Q => (∃ i j, x = .int i ∧ y = .int j ∧ CMulX i j ∧ Q (.int (i * j)) H) ∨ (rMulS x y H Q ∨ rRep x y H Q)
theorem op_mulA : OpR X (binaryOp .Mult) rMulA := op_mulX.or (op_mulS.or op_rep)
theorem mulG_ok (kok : KOk G) : Compat2 G rMulA mulG := fun Z H x y d e f Q zok rx ry hf k => by
  cases d <;> cases e <;> try (cases hf; done)
  case int.int i j =>
    obtain ⟨hz, rfl⟩ := ifSome hf
    exact .inl ⟨i, j, rx.int_inv zok kok, ry.int_inv zok kok, mulC_ok hz, k _ Z H (.old zok rfl)⟩
  case str.int s n =>
    obtain ⟨hz, rfl⟩ := ifSome hf
    exact .inr (.inl ⟨_, n, rx.str_inv zok kok, ry.int_inv zok kok, mulOk_of hz, by rw [mulS_eq]; exact k _ Z H (.old zok rfl)⟩)
  case lst.int l n =>
    obtain ⟨hz, rfl⟩ := ifSome hf
    obtain ⟨h1, h2, h3⟩ := of_decide_eq_true hz
    obtain ⟨p, vs, rfl, hp, r1⟩ := rx.lst_inv zok kok
    exact .inr (.inr ⟨p, n, vs, rfl, ry.int_inv zok kok, hp, by omega, by omega, by rw [r1.length]; exact h1, fun u nu => k _ _ _ (.lst zok nu (r1.rep _))⟩)
def divC (_ j : Int) : Bool := decide (j ≠ 0 ∧ j.natAbs < 1073741824) || decide (0 < j ∧ j.natAbs.log2 < 9000)
def fdivG : D → D → Option D := intG divC Int.fdiv
def rDivA : R2 := fun x y H Q => (∃ i j, x = .int i ∧ y = .int j ∧ CDivN i j ∧ Q (.int (i.fdiv j)) H) ∨ (∃ i j, x = .int i ∧ y = .int j ∧ CDivW i j ∧ Q (.int (i / j)) H)
theorem op_fdivA : OpR X (binaryOp .FloorDiv) rDivA := op_fdivN.or op_fdivW
theorem fdivG_ok (kok : KOk G) : Compat2 G rDivA fdivG := fun Z H x y d e f Q zok rx ry hf k => by
  cases d <;> cases e <;> try (cases hf; done)
  case int.int i j =>
    obtain ⟨hz, rfl⟩ := ifSome hf
    unfold divC at hz
    rw [Bool.or_eq_true] at hz
    rcases hz with hz | hz
    · exact .inl ⟨i, j, rx.int_inv zok kok, ry.int_inv zok kok, (show j ≠ 0 ∧ j.natAbs < 1073741824 from of_decide_eq_true hz), k _ Z H (.old zok rfl)⟩
    · have h2 := of_decide_eq_true hz
      refine .inr ⟨i, j, rx.int_inv zok kok, ry.int_inv zok kok, h2, ?_⟩
      rw [← Int.fdiv_eq_ediv_of_nonneg _ (by omega)]
      exact k _ Z H (.old zok rfl)
def modG : D → D → Option D := intG (fun _ j => decide (j ≠ 0)) Int.fmod
theorem modG_ok (kok : KOk G) : Compat2 G (rI (fun _ j => j ≠ 0) fun i j => .int (i.fmod j)) modG := intG_ok kok fun _ _ h => of_decide_eq_true h
def powG : D → D → Option D := intG (fun i j => decide (0 ≤ j ∧ j ≤ 1000000 ∧ i.natAbs < 2 ^ 64)) fun i j => i ^ j.toNat
theorem powG_ok (kok : KOk G) : Compat2 G (rI CPow fun i j => .int (i ^ j.toNat)) powG := intG_ok kok fun i j h => (show 0 ≤ j ∧ j ≤ 1000000 ∧ i.natAbs < 2 ^ 64 from of_decide_eq_true h)
def negG : D → Option D
  | .int i => some (.int (-i))
  | _ => none
theorem negG_ok (kok : KOk G) : Compat1 G (rU fun i => .int (-i)) negG := fun Z H x d f Q zok rx hf k => by
  cases d <;> try (cases hf; done)
  case int i => cases hf; exact ⟨i, rx.int_inv zok kok, k _ Z H (.old zok rfl)⟩

/-! ### comparisons -/
def cmpI (g : Int → Int → Bool) (h : List Nat → List Nat → Bool) : D → D → Option D
  | .int i, .int j => some (.bl (g i j))
  | .str s, .str t => some (.bl (h s t))
  | _, _ => none
def rCmp (g : Int → Int → Bool) (h : List Nat → List Nat → Bool) : R2 := fun x y H Q => (∃ i j, x = .int i ∧ y = .int j ∧ Q (.bl (g i j)) H) ∨ (∃ i j, x = .str i ∧ y = .str j ∧ Q (.bl (h i.cps.toList j.cps.toList)) H)
theorem cmpI_ok (kok : KOk G) (g : Int → Int → Bool) (h : List Nat → List Nat → Bool) : Compat2 G (rCmp g h) (cmpI g h) := fun Z H x y d e f Q zok rx ry hf k => by
  cases d <;> cases e <;> try (cases hf; done)
  case int.int i j => cases hf; exact .inl ⟨i, j, rx.int_inv zok kok, ry.int_inv zok kok, k _ Z H (.old zok rfl)⟩
  case str.str i j => cases hf; exact .inr ⟨_, _, rx.str_inv zok kok, ry.str_inv zok kok, k _ Z H (.old zok rfl)⟩
def ltG : D → D → Option D := cmpI (fun i j => decide (i < j)) (fun s t => decide (s < t))
def leG : D → D → Option D := cmpI (fun i j => decide (i ≤ j)) (fun s t => !decide (t < s))
def gtG : D → D → Option D := cmpI (fun i j => decide (j < i)) (fun s t => decide (t < s))
def geG : D → D → Option D := cmpI (fun i j => decide (j ≤ i)) (fun s t => !decide (s < t))
theorem op_ltA : OpR X (compareOp .Lt) (rCmp (fun i j => decide (i < j)) (fun s t => decide (s < t))) := op_lt.or op_lt_str
theorem op_leA : OpR X (compareOp .LtE) (rCmp (fun i j => decide (i ≤ j)) (fun s t => !decide (t < s))) := op_le.or op_le_str
theorem op_gtA : OpR X (compareOp .Gt) (rCmp (fun i j => decide (j < i)) (fun s t => decide (t < s))) := op_gt.or op_gt_str
theorem op_geA : OpR X (compareOp .GtE) (rCmp (fun i j => decide (j ≤ i)) (fun s t => !decide (s < t))) := op_ge.or op_ge_str

/-- as the library's data -/
def toPy : D → Option PyData
  | .non => some .none
  | .bl b => some (.bool b)
  | .int i => some (.int i)
  | .str s => some (.str ⟨s.toArray⟩)
  | .tup l => (toPys l).map .tuple
  | .lst l => (toPys l).map .list
  | .dic _ => none
  | .scr _ => none
where toPys : List D → Option (List PyData)
  | [] => some []
  | d :: ds => match toPy d, toPys ds with
    | some p, some ps => some (p :: ps)
    | _, _ => none
mutual
theorem toPy_ok (zok : ZOk G Z H) (kok : KOk G) : ∀ (d : D) {p : PyData} {v : V}, toPy d = some p → RelD G Z v d → Dp G.K H v p
  | .non, p, v, h, r => by cases h; rw [r.non_inv zok kok]; exact .non
  | .bl b, p, v, h, r => by cases h; rw [r.bl_inv zok kok]; exact .bl b
  | .int i, p, v, h, r => by cases h; rw [r.int_inv zok kok]; exact .int i
  | .str s, p, v, h, r => by cases h; rw [r.str_inv zok kok]; exact .str _
  | .tup l, p, v, h, r => by
    unfold toPy at h
    cases q : toPy.toPys l with
    | none => rw [q] at h; cases h
    | some ps =>
      rw [q] at h; cases h
      obtain ⟨a, vs, rfl, s, rd⟩ := r.tup_inv zok kok
      exact .tup s (toPys_ok zok kok l q rd)
  | .lst l, p, v, h, r => by
    unfold toPy at h
    cases q : toPy.toPys l with
    | none => rw [q] at h; cases h
    | some ps =>
      rw [q] at h; cases h
      obtain ⟨a, vs, rfl, s, rd⟩ := r.lst_inv zok kok
      exact .lst (SqL.of s) (toPys_ok zok kok l q rd)
  | .dic _, _, _, h, _ => by cases h
  | .scr _, _, _, h, _ => by cases h
theorem toPys_ok (zok : ZOk G Z H) (kok : KOk G) : ∀ (ds : List D) {ps : List PyData} {vs : List V}, toPy.toPys ds = some ps → RelDs G Z vs ds → DpAll G.K H vs ps
  | [], ps, vs, h, r => by cases h; cases r; exact .nil
  | d :: ds, ps, vs, h, r => by
    unfold toPy.toPys at h
    cases q : toPy d with
    | none => rw [q] at h; cases h
    | some p =>
      rw [q] at h
      cases q2 : toPy.toPys ds with
      | none => rw [q2] at h; cases h
      | some pss =>
        rw [q2] at h; cases h
        cases r with
        | cons a t => exact .cons (toPy_ok zok kok d q a) (toPys_ok zok kok ds q2 t)
end
/-- scalars at once; else by the library's equality -/
def eqB : D → D → Option Bool
  | .int i, .int j => some (decide (i = j))
  | .str s, .str t => some (decide (s = t))
  | .bl s, .bl t => some (decide (s = t))
  | d, e => match toPy d, toPy e with
    | some p, some q => if SeqAt.shaped p = true ∧ SeqAt.shaped q = true then some (PyData.eqv p q) else none
    | _, _ => none
def eqG (d e : D) : Option D := (eqB d e).map .bl
def neG (d e : D) : Option D := (eqB d e).map fun b => .bl (!b)
def rEqA (K : PySem.W.Frag) : R2 := fun x y H Q => rEq x y H Q ∨ rEqD K x y H Q
def rNeA (K : PySem.W.Frag) : R2 := fun x y H Q => rNe x y H Q ∨ rNeD K x y H Q
theorem op_eqA (hu : X.A.units + 64 < cLine) : OpR X (compareOp .Eq) (rEqA X.K) := op_eq.or (op_eqD hu)
theorem op_neA (hu : X.A.units + 64 < cLine) : OpR X (compareOp .NotEq) (rNeA X.K) := op_ne.or (op_neD hu)
theorem eqB_ok {x y : V} {b : Bool} (kok : KOk G) (zok : ZOk G Z H) (rx : RelD G Z x d) (ry : RelD G Z y e) (h : eqB d e = some b) : (scal x y = true ∧ decide (x = y) = b) ∨ ∃ p q, Dp G.K H x p ∧ Dp G.K H y q ∧ SeqAt.shaped p = true ∧ SeqAt.shaped q = true ∧ PyData.eqv p q = b := by
  have gen : ∀ {d e : D}, RelD G Z x d → RelD G Z y e → (match toPy d, toPy e with | some p, some q => if SeqAt.shaped p = true ∧ SeqAt.shaped q = true then some (PyData.eqv p q) else none | _, _ => none) = some b → ∃ p q, Dp G.K H x p ∧ Dp G.K H y q ∧ SeqAt.shaped p = true ∧ SeqAt.shaped q = true ∧ PyData.eqv p q = b := fun {d e} rx ry h => by
    cases q1 : toPy d with
    | none => rw [q1] at h; cases h
    | some p =>
      cases q2 : toPy e with
      | none => rw [q1, q2] at h; cases h
      | some q =>
        rw [q1, q2] at h
        obtain ⟨hz, rfl⟩ := ifSome h
        exact ⟨p, q, toPy_ok zok kok d q1 rx, toPy_ok zok kok e q2 ry, hz.1, hz.2, rfl⟩
  cases d <;> cases e <;> first
    | exact .inr (gen rx ry h)
    | skip
  case str.str i j =>
    cases h
    rw [rx.str_inv zok kok, ry.str_inv zok kok]
    refine .inl ⟨rfl, ?_⟩
    by_cases q : i = j
    · simp [q]
    · rw [decide_eq_false q]
      exact decide_eq_false fun z => q (by simpa using z)
theorem eqG_ok (kok : KOk G) : Compat2 G (rEqA G.K) eqG := fun Z H x y d e f Q zok rx ry hf k => by
  unfold eqG at hf
  cases q : eqB d e with
  | none => rw [q] at hf; cases hf
  | some b =>
    rw [q] at hf; cases hf
    rcases eqB_ok kok zok rx ry q with ⟨h1, h2⟩ | ⟨p, q, h1, h2, h3, h4, h5⟩
    · exact .inl ⟨h1, by rw [h2]; exact k _ Z H (.old zok rfl)⟩
    · exact .inr ⟨p, q, h1, h2, h3, h4, by rw [h5]; exact k _ Z H (.old zok rfl)⟩
theorem neG_ok (kok : KOk G) : Compat2 G (rNeA G.K) neG := fun Z H x y d e f Q zok rx ry hf k => by
  unfold neG at hf
  cases q : eqB d e with
  | none => rw [q] at hf; cases hf
  | some b =>
    rw [q] at hf; cases hf
    rcases eqB_ok kok zok rx ry q with ⟨h1, h2⟩ | ⟨p, q, h1, h2, h3, h4, h5⟩
    · exact .inl ⟨h1, by rw [h2]; exact k _ Z H (.old zok rfl)⟩
    · exact .inr ⟨p, q, h1, h2, h3, h4, by rw [h5]; exact k _ Z H (.old zok rfl)⟩
/-! ### in -/
/-- a text in a text: its places; data in a list or tuple of data -/
def inB : D → D → Option Bool
  | .str s, .str t => some (!(Builtin.Str.occurrences ⟨t.toArray⟩ ⟨s.toArray⟩ 0 t.length 1).isEmpty)
  | d, .lst l => match toPy d, toPy (.lst l) with
    | some p, some (.list ps) => if SeqAt.shaped p = true ∧ SeqAt.shaped (.list ps) = true then some (ps.any fun z => PyData.eqv z p) else none
    | _, _ => none
  | _, _ => none
def inG (d e : D) : Option D := (inB d e).map .bl
def notInG (d e : D) : Option D := (inB d e).map fun b => .bl (!b)
/-! ### is None -/
def isNG (d e : D) : Option D := match d, e with
  | .scr _, _ => none
  | .non, .non => some (.bl true)
  | _, .non => some (.bl false)
  | _, _ => none
def isNotNG (d e : D) : Option D := match d, e with
  | .scr _, _ => none
  | .non, .non => some (.bl false)
  | _, .non => some (.bl true)
  | _, _ => none
theorem RelD.ne_non (zok : ZOk G Z H) (kok : KOk G) (r : RelD G Z v d) (hd : d ≠ .non) : v ≠ .non := by
  rintro rfl
  cases d <;> first | exact hd rfl | exact r.elim
theorem isNG_ok (kok : KOk G) : Compat2 G (fun x y H Q => y = .non ∧ Q (.bl (decide (x = .non))) H) isNG := fun Z H x y d e f Q zok rx ry hf k => by
  have key : ∀ b, f = .bl b → decide (x = V.non) = b → y = .non → (y = .non ∧ Q (.bl (decide (x = .non))) H) := fun b e1 e2 e3 => ⟨e3, by rw [e2]; subst e1; exact k _ Z H (.old zok rfl)⟩
  cases e <;> cases d <;> try (cases hf; done)
  case non.non => cases hf; exact key true rfl (by rw [rx.non_inv zok kok]; rfl) (ry.non_inv zok kok)
  all_goals
    cases hf
    exact key false rfl (decide_eq_false (rx.ne_non zok kok fun z => nomatch z)) (ry.non_inv zok kok)
theorem isNotNG_ok (kok : KOk G) : Compat2 G (fun x y H Q => y = .non ∧ Q (.bl (!decide (x = .non))) H) isNotNG := fun Z H x y d e f Q zok rx ry hf k => by
  have key : ∀ b, f = .bl (!b) → decide (x = V.non) = b → y = .non → (y = .non ∧ Q (.bl (!decide (x = .non))) H) := fun b e1 e2 e3 => ⟨e3, by rw [e2]; subst e1; exact k _ Z H (.old zok rfl)⟩
  cases e <;> cases d <;> try (cases hf; done)
  case non.non => cases hf; exact key true rfl (by rw [rx.non_inv zok kok]; rfl) (ry.non_inv zok kok)
  all_goals
    cases hf
    exact key false rfl (decide_eq_false (rx.ne_non zok kok fun z => nomatch z)) (ry.non_inv zok kok)
def rInA (K : PySem.W.Frag) : R2 := fun x y H Q => (∃ i j, x = .str i ∧ y = .str j ∧ Q (.bl (!(Builtin.Str.occurrences j i 0 j.length 1).isEmpty)) H) ∨ rInD K x y H Q
def rNotInA (K : PySem.W.Frag) : R2 := fun x y H Q => (∃ i j, x = .str i ∧ y = .str j ∧ Q (.bl (!(!(Builtin.Str.occurrences j i 0 j.length 1).isEmpty))) H) ∨ rNotInD K x y H Q
theorem op_inA (hu : X.A.units + 65 < cLine) : OpR X (compareOp .In) (rInA X.K) := op_in_str.or (op_inD hu)
theorem op_notInA (hu : X.A.units + 65 < cLine) : OpR X (compareOp .NotIn) (rNotInA X.K) := op_notIn_str.or (op_notInD hu)
theorem inB_ok {x y : V} {b : Bool} (kok : KOk G) (zok : ZOk G Z H) (rx : RelD G Z x d) (ry : RelD G Z y e) (h : inB d e = some b) : (∃ i j, x = .str i ∧ y = .str j ∧ (!(Builtin.Str.occurrences j i 0 j.length 1).isEmpty) = b) ∨
    ∃ p ps, Dp G.K H x p ∧ Dp G.K H y (.list ps) ∧ SeqAt.shaped p = true ∧ SeqAt.shaped (.list ps) = true ∧ (ps.any fun z => PyData.eqv z p) = b := by
  have gen : ∀ {d : D} {l : List D}, RelD G Z x d → RelD G Z y (.lst l) → (match toPy d, toPy (.lst l) with | some p, some (.list ps) => if SeqAt.shaped p = true ∧ SeqAt.shaped (.list ps) = true then some (ps.any fun z => PyData.eqv z p) else none | _, _ => none) = some b →
      ∃ p ps, Dp G.K H x p ∧ Dp G.K H y (.list ps) ∧ SeqAt.shaped p = true ∧ SeqAt.shaped (.list ps) = true ∧ (ps.any fun z => PyData.eqv z p) = b := fun {d l} rx ry h => by
    cases q1 : toPy d with
    | none => rw [q1] at h; cases h
    | some p =>
      cases q2 : toPy (.lst l) with
      | none => rw [q1, q2] at h; cases h
      | some q =>
        rw [q1, q2] at h
        cases q with
        | list ps =>
          obtain ⟨hz, rfl⟩ := ifSome h
          exact ⟨p, ps, toPy_ok zok kok d q1 rx, toPy_ok zok kok _ q2 ry, hz.1, hz.2, rfl⟩
        | _ => cases h
  cases e <;> cases d <;> first
    | exact .inr (gen rx ry h)
    | (cases h; done)
    | skip
  case str.str t s =>
    cases h
    refine .inl ⟨_, _, rx.str_inv zok kok, ry.str_inv zok kok, ?_⟩
    have : (⟨t.toArray⟩ : Str).length = t.length := by simp [Str.length]
    rw [this]
theorem inG_ok (kok : KOk G) : Compat2 G (rInA G.K) inG := fun Z H x y d e f Q zok rx ry hf k => by
  unfold inG at hf
  cases q : inB d e with
  | none => rw [q] at hf; cases hf
  | some b =>
    rw [q] at hf; cases hf
    rcases inB_ok kok zok rx ry q with ⟨i, j, h1, h2, h3⟩ | ⟨p, q, h1, h2, h3, h4, h5⟩
    · exact .inl ⟨i, j, h1, h2, by rw [h3]; exact k _ Z H (.old zok rfl)⟩
    · exact .inr ⟨p, q, h1, h2, h3, h4, by rw [h5]; exact k _ Z H (.old zok rfl)⟩
theorem notInG_ok (kok : KOk G) : Compat2 G (rNotInA G.K) notInG := fun Z H x y d e f Q zok rx ry hf k => by
  unfold notInG at hf
  cases q : inB d e with
  | none => rw [q] at hf; cases hf
  | some b =>
    rw [q] at hf; cases hf
    rcases inB_ok kok zok rx ry q with ⟨i, j, h1, h2, h3⟩ | ⟨p, q, h1, h2, h3, h4, h5⟩
    · exact .inl ⟨i, j, h1, h2, by rw [h3]; exact k _ Z H (.old zok rfl)⟩
    · exact .inr ⟨p, q, h1, h2, h3, h4, by rw [h5]; exact k _ Z H (.old zok rfl)⟩
/-! ### items and slices -/
def idxG : D → D → Option D
  | .lst l, .int i => atI l i
  | .tup l, .int i => atI l i
  | .scr l, .int i => (atI l i).map .int
  | .str s, .int i => if s.length ≤ sizeLine then (atI s i).map fun c => .str [c] else none
  | _, _ => none
theorem RelDs.atI {vs : List V} {ds : List D} {i : Int} {f : D} (h : RelDs G Z vs ds) (e : atI ds i = some f) : ∃ v, L2.atI vs i = some v ∧ RelD G Z v f := by
  unfold L2.atI at *
  rw [h.length]
  cases q : ixN ds.length i with
  | none => rw [q] at e; cases e
  | some j =>
    rw [q] at e
    have e : ds[j]? = some f := e
    have hj : j < vs.length := by rw [h.length]; exact (List.getElem?_eq_some_iff.mp e).1
    obtain ⟨d, e2, r⟩ := h.at (List.getElem?_eq_getElem hj)
    rw [e] at e2; cases e2
    exact ⟨vs[j], List.getElem?_eq_getElem hj, r⟩
theorem idxG_ok (kok : KOk G) : CompatF G (rIx G.K) idxG := fun Z H x y d e f Q zok rx ry hf k => by
  cases d <;> cases e <;> try (cases hf; done)
  case lst.int l i =>
    obtain ⟨p, vs, rfl, s, rd⟩ := rx.lst_inv zok kok
    obtain ⟨v, e, r⟩ := rd.atI hf
    exact .inl ⟨p, vs, i, v, rfl, ry.int_inv zok kok, SqL.of s, e, k v r⟩
  case tup.int l i =>
    obtain ⟨p, vs, rfl, s, rd⟩ := rx.tup_inv zok kok
    obtain ⟨v, e, r⟩ := rd.atI hf
    exact .inr (.inl ⟨p, vs, i, v, rfl, ry.int_inv zok kok, s, e, k v r⟩)
  case scr.int l i =>
    cases x with
    | ref p =>
      have s : SqL G.K H p (l.map V.int) := ref_cont zok kok rx
      have hf : (atI l i).map D.int = some f := hf
      cases q : atI l i with
      | none => rw [q] at hf; cases hf
      | some n =>
        rw [q] at hf; cases hf
        refine .inl ⟨p, _, i, .int n, rfl, ry.int_inv zok kok, s, ?_, k _ rfl⟩
        unfold atI at *
        rw [List.length_map]
        cases q2 : ixN l.length i with
        | none => rw [q2] at q; cases q
        | some j =>
          rw [q2] at q
          have q : l[j]? = some n := q
          show (l.map V.int)[j]? = _
          rw [List.getElem?_map, q]; rfl
    | _ => exact rx.elim
  case str.int s i =>
    have hf : (if s.length ≤ sizeLine then (atI s i).map fun c => D.str [c] else none) = some f := hf
    by_cases hz : s.length ≤ sizeLine
    · rw [if_pos hz] at hf
      cases q : atI s i with
      | none => rw [q] at hf; cases hf
      | some c =>
        rw [q] at hf; cases hf
        exact .inr (.inr ⟨_, i, c, rx.str_inv zok kok, ry.int_inv zok kok, by simpa [Str.length] using hz, by simpa using q, k _ rfl⟩)
    · rw [if_neg hz] at hf; cases hf
end
end FW
set_option Elab.async false
set_option linter.all false
set_option maxRecDepth 100000
/-! FW6: slices, built-in functions and methods -/
namespace FW
open PySem PySem.Spec L2

section
variable {G : Gx} {W : WX} {B : Bs} {X : Cx} {Z : Addr → Option D} {H : Hp} {v v' : V} {d e : D} {σ : L2.St} {ρ : En} {a b : Expr} {pos : Pos}
/-! ### slices -/
def tOp' (G : Gx) (W : WX) (m : M (Option Int)) : TO := fun σ H Q => ∃ B Z ρ, Rl G B Z H σ ρ ∧ Wp G B W Z σ (m ρ) fun o ρ' => ∀ Z' H', Rl G B Z' H' σ ρ' → Le Z Z' → Q o H'
theorem PO.imp {e : Option Expr} {t t' : TO} (h : PO X e t) (k : ∀ σ H Q, t' σ H Q → t σ H Q) : PO X e t' := ⟨fun pins s σ H Q I q => h.run pins s σ H Q I (k σ H Q q)⟩
def asI (d : D) : M (Option Int) := fun ρ => match d with
  | .int i => .ok (some i) ρ
  | _ => .stuck
theorem po_noneD : PO X none (tOp' G W (ret none)) := PO.imp po_none fun σ H Q ⟨B, Z, ρ, hr, hw⟩ => hw Z H hr (Le.refl _)
theorem po_someD {m : M D} (kok : KOk G) (h : PE X a (tE G W m)) : PO X (some a) (tOp' G W (bnd m asI)) := PO.imp (po_some h) fun σ H Q ⟨B, Z, ρ, hr, hw⟩ =>
  ⟨B, Z, ρ, hr, hw.bnd.mono (Le.refl _) fun d ρ1 h1 v Z1 H1 r1 d1 l1 => by
    cases d with
    | int i => exact ⟨i, d1.int_inv r1.zok kok, h1 Z1 H1 r1 l1⟩
    | _ => exact h1.elim⟩
def cutD {α : Type} (l : List α) (lo hi : Option Int) : List α := (l.drop (HT.sIx l.length 0 lo)).take (HT.sIx l.length l.length hi - HT.sIx l.length 0 lo)
def slcG (d : D) (lo hi : Option Int) : Option D := match d with
  | .lst l => some (.lst (cutD l lo hi))
  | .str s => if s.length ≤ sizeLine then some (.str (cutD s lo hi)) else none
  | .tup l => if ¬ (HT.sIx l.length 0 lo = 0 ∧ HT.sIx l.length l.length hi = l.length) then some (.tup (cutD l lo hi)) else none
  | _ => none
def rSlA (K : PySem.W.Frag) : V → Option Int → Option Int → Hp → VK → Prop := fun x lo hi H Q => rSlL K x lo hi H Q ∨ (rSlS x lo hi H Q ∨ rSlT K x lo hi H Q)
theorem sl_any : SlR X (rSlA X.K) := sl_list.or (sl_str.or sl_tup)
theorem slcG_ok (kok : KOk G) {x : V} {lo hi : Option Int} {f : D} {Q : VK} (zok : ZOk G Z H) (rx : RelD G Z x d) (hf : slcG d lo hi = some f) (k : ∀ v Z' H', NewR G Z H Z' H' v (own f) → Q v H') : rSlA G.K x lo hi H Q := by
  cases d <;> try (cases hf; done)
  case lst l =>
    cases hf
    obtain ⟨p, vs, rfl, s, rd⟩ := rx.lst_inv zok kok
    exact .inl ⟨p, vs, rfl, SqL.of s, fun u nu => k _ _ _ (.lst zok nu (rd.cut lo hi))⟩
  case str s =>
    obtain ⟨hz, rfl⟩ := ifSome hf
    have hl : (⟨s.toArray⟩ : Str).length = s.length := by simp [Str.length]
    refine .inr (.inl ⟨_, rx.str_inv zok kok, by rw [hl]; exact hz, k _ Z H (.old zok ?_)⟩)
    show cutS ⟨s.toArray⟩ lo hi = ⟨(cutD s lo hi).toArray⟩
    unfold cutS cutD
    rw [hl]
  case tup l =>
    obtain ⟨hz, rfl⟩ := ifSome hf
    obtain ⟨p, vs, rfl, s, rd⟩ := rx.tup_inv zok kok
    refine .inr (.inr ⟨p, vs, rfl, s, by rw [rd.length]; exact hz, fun u nu => k _ _ _ (.tup zok nu (rd.cut lo hi))⟩)
theorem pe_slcD {m : M D} {ml mh : M (Option Int)} {lo hi : Option Expr} {p2 : Pos} (kok : KOk G) (hk : X.K = G.K) (h : PE X a (tE G W m)) (hl : PO X lo (tOp' G W ml)) (hh : PO X hi (tOp' G W mh)) :
    PE X (.Subscript a (.Slice lo hi none p2) pos) (tO G W (bnd m fun d => bnd ml fun l => bnd mh fun u => ownM (slcG d l u))) := PE.imp (pe_slice sl_any h hl hh) fun σ H Q ⟨B, Z, ρ, hr, hw⟩ => by
  refine ⟨B, Z, ρ, hr, hw.bnd.mono (Le.refl _) fun d ρ1 h1 v1 Z1 H1 r1 d1 l1 => ?_⟩
  refine ⟨B, Z1, ρ1, r1, h1.bnd.mono l1 fun o1 ρ2 h2 Z2 H2 r2 l2 => ?_⟩
  refine ⟨B, Z2, ρ2, r2, h2.bnd.mono (l1.trans l2) fun o2 ρ3 h3 Z3 H3 r3 l3 => ?_⟩
  obtain ⟨f, ef, hf⟩ := end2 r3 (l1.trans (l2.trans l3)) h3
  rw [hk]
  exact slcG_ok kok r3.zok (d1.mono (l2.trans l3)) ef hf
/-- xs[::-1] -/
def revG : D → Option D
  | .lst l => some (.lst l.reverse)
  | _ => none
theorem pe_revD {m : M D} {k : Nat} {p1 p2 p3 : Pos} (kok : KOk G) (h : PE X a (tE G W m)) : PE X (.Subscript a (.Slice none none (some (.UnaryOp .USub (.Constant (.int 1) k p1) p2)) p3) pos) (tO G W (bnd m fun d => ownM (revG d))) :=
  PE.imp (pe_revL h) fun σ H Q ⟨B, Z, ρ, hr, hw⟩ => ⟨B, Z, ρ, hr, hw.bnd.mono (Le.refl _) fun d ρ1 h1 v1 Z1 H1 r1 d1 l1 => by
  obtain ⟨f, ef, hf⟩ := end2 r1 l1 h1
  cases d <;> try (cases ef; done)
  case lst l =>
    cases ef
    obtain ⟨p, vs, rfl, s, rd⟩ := d1.lst_inv r1.zok kok
    exact ⟨p, vs, rfl, SqL.of s, fun u nu => hf _ _ _ (.lst r1.zok nu rd.rev)⟩⟩

/-! ### built-in functions -/
def un1 (g : D → Option D) : List D → Option D
  | [d] => g d
  | _ => none
def un2 (g : D → D → Option D) : List D → Option D
  | [d, e] => g d e
  | _ => none
theorem compat_un1 {g : D → Option D} {r : List V → Hp → VK → Prop} (h : ∀ Z H x d f Q, ZOk G Z H → RelD G Z x d → g d = some f → (∀ v Z' H', NewR G Z H Z' H' v (own f) → Q v H') → r [x] H Q) : CompatL G r (un1 g) := fun Z H vs ds f Q zok rd hf k => by
  cases ds with
  | nil => cases hf
  | cons d ds =>
    cases ds with
    | nil => obtain ⟨v, rfl, q⟩ := RelDs.one rd; exact h Z H v d f Q zok q hf k
    | cons _ _ => cases hf
theorem compat_un2 {g : D → D → Option D} {r : List V → Hp → VK → Prop} (h : ∀ Z H x y d e f Q, ZOk G Z H → RelD G Z x d → RelD G Z y e → g d e = some f → (∀ v Z' H', NewR G Z H Z' H' v (own f) → Q v H') → r [x, y] H Q) : CompatL G r (un2 g) := fun Z H vs ds f Q zok rd hf k => by
  cases ds with
  | nil => cases hf
  | cons d ds =>
    cases ds with
    | nil => cases hf
    | cons e ds =>
      cases ds with
      | nil => obtain ⟨v, v', rfl, q, q'⟩ := RelDs.two rd; exact h Z H v v' d e f Q zok q q' hf k
      | cons _ _ => cases hf
def lenG : D → Option D
  | .lst l => some (.int l.length)
  | .tup l => some (.int l.length)
  | .scr l => some (.int l.length)
  | .str s => if s.length ≤ sizeLine then some (.int s.length) else none
  | _ => none
theorem strLen (s : List Nat) : (⟨s.toArray⟩ : Str).length = s.length := by simp [Str.length]
theorem lenG_ok (kok : KOk G) : CompatL G (fun xs H Q => ∃ x n, xs = [x] ∧ LenV G.K x H n ∧ Q (.int n) H) (un1 lenG) := compat_un1 fun Z H x d f Q zok r hf k => by
  cases d <;> try (cases hf; done)
  case lst l =>
    cases hf
    obtain ⟨p, vs, rfl, s, q⟩ := r.lst_inv zok kok
    exact ⟨_, l.length, rfl, (show (∃ xs, SqL G.K H p xs ∧ l.length = xs.length) ∨ _ from .inl ⟨vs, SqL.of s, by rw [q.length]⟩), k _ Z H (.old zok rfl)⟩
  case tup l =>
    cases hf
    obtain ⟨p, vs, rfl, s, q⟩ := r.tup_inv zok kok
    exact ⟨_, l.length, rfl, (show _ ∨ (∃ xs, SqT G.K H p xs ∧ l.length = xs.length) from .inr ⟨vs, s, by rw [q.length]⟩), k _ Z H (.old zok rfl)⟩
  case scr l =>
    cases hf
    cases x with
    | ref p =>
      have s : SqL G.K H p (l.map V.int) := ref_cont zok kok r
      exact ⟨_, l.length, rfl, (show (∃ xs, SqL G.K H p xs ∧ l.length = xs.length) ∨ _ from .inl ⟨_, s, by simp⟩), k _ Z H (.old zok rfl)⟩
    | _ => exact r.elim
  case str s =>
    obtain ⟨hz, rfl⟩ := ifSome hf
    rw [r.str_inv zok kok]
    exact ⟨_, s.length, rfl, ⟨by rw [strLen]; exact hz, by rw [strLen]⟩, k _ Z H (.old zok rfl)⟩
/-- int(x) -/
def intG1 : D → Option D
  | .int i => some (.int i)
  | .bl b => some (.int (if b then 1 else 0))
  | .str s => if s.length ≤ 640 then (PySem.intText? ⟨s.toArray⟩).map .int else none
  | _ => none
def rInt1 : List V → Hp → VK → Prop := fun xs H Q => ((∃ i, xs = [.int i] ∧ Q (.int i) H) ∨ ∃ k, xs = [.bl k] ∧ Q (.int (if k then 1 else 0)) H) ∨ (∃ a n, xs = [.str a] ∧ PySem.intText? a = some n ∧ a.length ≤ 640 ∧ Q (.int n) H)
theorem call_intA : CallR X (.type "int") rInt1 := CallR.or call_int1 call_int_str
theorem intG1_ok (kok : KOk G) : CompatL G rInt1 (un1 intG1) := compat_un1 fun Z H x d f Q zok r hf k => by
  cases d <;> try (cases hf; done)
  case int i => cases hf; rw [r.int_inv zok kok]; exact .inl (.inl ⟨i, rfl, k _ Z H (.old zok rfl)⟩)
  case bl i => cases hf; rw [r.bl_inv zok kok]; exact .inl (.inr ⟨i, rfl, k _ Z H (.old zok rfl)⟩)
  case str s =>
    have hf : (if s.length ≤ 640 then (PySem.intText? ⟨s.toArray⟩).map D.int else none) = some f := hf
    by_cases hz : s.length ≤ 640
    · rw [if_pos hz] at hf
      cases q : PySem.intText? ⟨s.toArray⟩ with
      | none => rw [q] at hf; cases hf
      | some n =>
        rw [q] at hf; cases hf
        rw [r.str_inv zok kok]
        exact .inr ⟨_, n, rfl, q, by rw [strLen]; exact hz, k _ Z H (.old zok rfl)⟩
    · rw [if_neg hz] at hf; cases hf
/-- str(i) -/
def strI (i : Int) : List Nat := (Str.ofString (toString i)).cps.toList
theorem strI_eq (i : Int) : (⟨(strI i).toArray⟩ : Str) = Str.ofString (toString i) := by unfold strI; simp
def strG1 : D → Option D
  | .int i => if i.natAbs.log2 < 1920 then some (.str (strI i)) else none
  | _ => none
theorem strG1_ok (kok : KOk G) : CompatL G (fun xs H Q => ∃ i, xs = [.int i] ∧ i.natAbs.log2 < 1920 ∧ Q (.str (toString i)) H) (un1 strG1) := compat_un1 fun Z H x d f Q zok r hf k => by
  cases d <;> try (cases hf; done)
  case int i =>
    obtain ⟨hz, rfl⟩ := ifSome hf
    rw [r.int_inv zok kok]
    exact ⟨i, rfl, hz, k _ Z H (.old zok (strI_eq i).symm)⟩
/-- abs(i) -/
def absG : D → Option D
  | .int i => some (.int (if i < 0 then -i else i))
  | _ => none
theorem absG_ok (kok : KOk G) : CompatL G (fun xs H Q => ∃ i, xs = [.int i] ∧ Q (.int (if i < 0 then -i else i)) H) (un1 absG) := compat_un1 fun Z H x d f Q zok r hf k => by
  cases d <;> try (cases hf; done)
  case int i => cases hf; rw [r.int_inv zok kok]; exact ⟨i, rfl, k _ Z H (.old zok rfl)⟩
/-- ord(c) -/
def ordG : D → Option D
  | .str [c] => some (.int c)
  | _ => none
theorem ordG_ok (kok : KOk G) : CompatL G (fun xs H Q => ∃ x, xs = [.str x] ∧ x.length = 1 ∧ Q (.int (x.cps.getD 0 0 : Nat)) H) (un1 ordG) := compat_un1 fun Z H x d f Q zok r hf k => by
  cases d <;> try (cases hf; done)
  case str s =>
    rw [r.str_inv zok kok]
    cases s with
    | nil => cases hf
    | cons c s =>
      cases s with
      | nil => cases hf; exact ⟨_, rfl, rfl, k _ Z H (.old zok rfl)⟩
      | cons _ _ => cases hf
/-- max, min of two, of a list -/
def mm2 (g : Int → Int → Int) : D → D → Option D
  | .int i, .int j => some (.int (g i j))
  | _, _ => none
theorem mm2_ok (kok : KOk G) (g : Int → Int → Int) : CompatL G (fun xs H Q => ∃ i j, xs = [.int i, .int j] ∧ Q (.int (g i j)) H) (un2 (mm2 g)) := compat_un2 fun Z H x y d e f Q zok r r' hf k => by
  cases d <;> cases e <;> try (cases hf; done)
  case int.int i j => cases hf; rw [r.int_inv zok kok, r'.int_inv zok kok]; exact ⟨i, j, rfl, k _ Z H (.old zok rfl)⟩
def maxI (i j : Int) : Int := if j > i then j else i
def minI (i j : Int) : Int := if j < i then j else i
def foldMax : List Int → Option Int
  | [] => none
  | n :: ns => some (ns.foldl max n)
def foldMin : List Int → Option Int
  | [] => none
  | n :: ns => some (ns.foldl min n)
theorem foldl_max_ge : ∀ (ns : List Int) (n : Int), n ≤ ns.foldl max n ∧ ∀ y ∈ ns, y ≤ ns.foldl max n
  | [], n => ⟨Int.le_refl _, fun _ h => by cases h⟩
  | m :: ns, n => by
    obtain ⟨h1, h2⟩ := foldl_max_ge ns (max n m)
    refine ⟨Int.le_trans (by omega) h1, fun y hy => ?_⟩
    rcases List.mem_cons.mp hy with rfl | hy
    · exact Int.le_trans (by omega) h1
    · exact h2 y hy
theorem foldl_max_mem : ∀ (ns : List Int) (n : Int), ns.foldl max n = n ∨ ns.foldl max n ∈ ns
  | [], n => .inl rfl
  | m :: ns, n => by
    rw [List.foldl_cons]
    rcases foldl_max_mem ns (max n m) with h | h
    · rw [h]
      by_cases q : n ≤ m
      · exact .inr (by rw [show max n m = m by omega]; exact List.mem_cons_self)
      · exact .inl (by omega)
    · exact .inr (List.mem_cons_of_mem _ h)
theorem foldl_min_le : ∀ (ns : List Int) (n : Int), ns.foldl min n ≤ n ∧ ∀ y ∈ ns, ns.foldl min n ≤ y
  | [], n => ⟨Int.le_refl _, fun _ h => by cases h⟩
  | m :: ns, n => by
    obtain ⟨h1, h2⟩ := foldl_min_le ns (min n m)
    refine ⟨Int.le_trans h1 (by omega), fun y hy => ?_⟩
    rcases List.mem_cons.mp hy with rfl | hy
    · exact Int.le_trans h1 (by omega)
    · exact h2 y hy
theorem foldl_min_mem : ∀ (ns : List Int) (n : Int), ns.foldl min n = n ∨ ns.foldl min n ∈ ns
  | [], n => .inl rfl
  | m :: ns, n => by
    rw [List.foldl_cons]
    rcases foldl_min_mem ns (min n m) with h | h
    · rw [h]
      by_cases q : m ≤ n
      · exact .inr (by rw [show min n m = m by omega]; exact List.mem_cons_self)
      · exact .inl (by omega)
    · exact .inr (List.mem_cons_of_mem _ h)
theorem foldMax_iff {ns : List Int} {m : Int} (h : foldMax ns = some m) {x : Int} (hx : x ∈ ns) (hb : ∀ y ∈ ns, y ≤ x) : x = m := by
  cases ns with
  | nil => cases h
  | cons n ns =>
    cases h
    obtain ⟨h1, h2⟩ := foldl_max_ge ns n
    have a : x ≤ ns.foldl max n := by
      rcases List.mem_cons.mp hx with rfl | hx
      · exact h1
      · exact h2 x hx
    have b : ns.foldl max n ≤ x := by
      rcases foldl_max_mem ns n with q | q
      · rw [q]; exact hb n List.mem_cons_self
      · exact hb _ (List.mem_cons_of_mem _ q)
    omega
theorem foldMin_iff {ns : List Int} {m : Int} (h : foldMin ns = some m) {x : Int} (hx : x ∈ ns) (hb : ∀ y ∈ ns, x ≤ y) : x = m := by
  cases ns with
  | nil => cases h
  | cons n ns =>
    cases h
    obtain ⟨h1, h2⟩ := foldl_min_le ns n
    have a : ns.foldl min n ≤ x := by
      rcases List.mem_cons.mp hx with rfl | hx
      · exact h1
      · exact h2 x hx
    have b : x ≤ ns.foldl min n := by
      rcases foldl_min_mem ns n with q | q
      · rw [q]; exact hb n List.mem_cons_self
      · exact hb _ (List.mem_cons_of_mem _ q)
    omega
def onInts (g : List Int → Option Int) : D → Option D
  | .lst l => (asInts l).bind fun ns => (g ns).map .int
  | _ => none
theorem onInts_inv {g : List Int → Option Int} {f : D} (h : onInts g d = some f) : ∃ ns m, d = .lst (ns.map .int) ∧ g ns = some m ∧ f = .int m := by
  cases d <;> try (cases h; done)
  case lst l =>
    have h : (asInts l).bind (fun ns => (g ns).map D.int) = some f := h
    cases q : asInts l with
    | none => rw [q] at h; cases h
    | some ns =>
      rw [q] at h
      have h : (g ns).map D.int = some f := h
      cases q2 : g ns with
      | none => rw [q2] at h; cases h
      | some m => rw [q2] at h; cases h; exact ⟨ns, m, by rw [asInts_ok q], q2, rfl⟩
theorem sumG_ok (kok : KOk G) : CompatL G (rSum G.K) (un1 (onInts fun ns => some ns.sum)) := compat_un1 fun Z H x d f Q zok r hf k => by
  obtain ⟨ns, m, rfl, e, rfl⟩ := onInts_inv hf
  cases e
  obtain ⟨p, vs, rfl, s, q⟩ := r.lst_inv zok kok
  rw [q.ints zok kok] at s
  exact ⟨p, ns, rfl, SqL.of s, k _ Z H (.old zok rfl)⟩
theorem maxG_ok (kok : KOk G) : CompatL G (rMax G.K) (un1 (onInts foldMax)) := compat_un1 fun Z H x d f Q zok r hf k => by
  obtain ⟨ns, m, rfl, e, rfl⟩ := onInts_inv hf
  obtain ⟨p, vs, rfl, s, q⟩ := r.lst_inv zok kok
  rw [q.ints zok kok] at s
  exact ⟨p, ns, rfl, SqL.of s, by cases ns with | nil => cases e | cons _ _ => simp, fun x hx hb => by rw [foldMax_iff e hx hb]; exact k _ Z H (.old zok rfl)⟩
theorem minG_ok (kok : KOk G) : CompatL G (rMin G.K) (un1 (onInts foldMin)) := compat_un1 fun Z H x d f Q zok r hf k => by
  obtain ⟨ns, m, rfl, e, rfl⟩ := onInts_inv hf
  obtain ⟨p, vs, rfl, s, q⟩ := r.lst_inv zok kok
  rw [q.ints zok kok] at s
  exact ⟨p, ns, rfl, SqL.of s, by cases ns with | nil => cases e | cons _ _ => simp, fun x hx hb => by rw [foldMin_iff e hx hb]; exact k _ Z H (.old zok rfl)⟩
def onBls (g : List Bool → Bool) : D → Option D
  | .lst l => (asBls l).map fun ns => .bl (g ns)
  | _ => none
theorem onBls_inv {g : List Bool → Bool} {f : D} (h : onBls g d = some f) : ∃ ns, d = .lst (ns.map .bl) ∧ f = .bl (g ns) := by
  cases d <;> try (cases h; done)
  case lst l =>
    have h : (asBls l).map (fun ns => D.bl (g ns)) = some f := h
    cases q : asBls l with
    | none => rw [q] at h; cases h
    | some ns => rw [q] at h; cases h; exact ⟨ns, by rw [asBls_ok q], rfl⟩
theorem allG_ok (kok : KOk G) : CompatL G (rAll G.K) (un1 (onBls fun bs => bs.all id)) := compat_un1 fun Z H x d f Q zok r hf k => by
  obtain ⟨ns, rfl, rfl⟩ := onBls_inv hf
  obtain ⟨p, vs, rfl, s, q⟩ := r.lst_inv zok kok
  rw [q.bls zok kok] at s
  exact ⟨p, ns, rfl, SqL.of s, k _ Z H (.old zok rfl)⟩
theorem anyG_ok (kok : KOk G) : CompatL G (rAny G.K) (un1 (onBls fun bs => bs.any id)) := compat_un1 fun Z H x d f Q zok r hf k => by
  obtain ⟨ns, rfl, rfl⟩ := onBls_inv hf
  obtain ⟨p, vs, rfl, s, q⟩ := r.lst_inv zok kok
  rw [q.bls zok kok] at s
  exact ⟨p, ns, rfl, SqL.of s, k _ Z H (.old zok rfl)⟩
/-- list(xs), tuple(xs) -/
def listG : D → Option D
  | .lst l => some (.lst l)
  | .tup l => some (.lst l)
  | _ => none
theorem listG_ok (kok : KOk G) : CompatL G (fun xs H Q => ∃ p ys, xs = [.ref p] ∧ (SqL G.K H p ys ∨ SqT G.K H p ys) ∧ ∀ l, H l = none → Q (.ref l) (upd H l (.lst ys))) (un1 listG) := compat_un1 fun Z H x d f Q zok r hf k => by
  cases d <;> try (cases hf; done)
  case lst l =>
    cases hf
    obtain ⟨p, vs, rfl, s, q⟩ := r.lst_inv zok kok
    exact ⟨p, vs, rfl, .inl (SqL.of s), fun u nu => k _ _ _ (.lst zok nu q)⟩
  case tup l =>
    cases hf
    obtain ⟨p, vs, rfl, s, q⟩ := r.tup_inv zok kok
    exact ⟨p, vs, rfl, .inr s, fun u nu => k _ _ _ (.lst zok nu q)⟩
def tupleG : D → Option D
  | .lst l => some (.tup l)
  | .tup l => some (.tup l)
  | _ => none
theorem tupleG_ok (kok : KOk G) : CompatL G (fun xs H Q => ∃ p ys, xs = [.ref p] ∧ ((SqL G.K H p ys ∧ ∀ l, H l = none → Q (.ref l) (upd H l (.tup ys))) ∨ (SqT G.K H p ys ∧ Q (.ref p) H))) (un1 tupleG) := compat_un1 fun Z H x d f Q zok r hf k => by
  cases d <;> try (cases hf; done)
  case lst l =>
    cases hf
    obtain ⟨p, vs, rfl, s, q⟩ := r.lst_inv zok kok
    exact ⟨p, vs, rfl, .inl ⟨SqL.of s, fun u nu => k _ _ _ (.tup zok nu q)⟩⟩
  case tup l =>
    cases hf
    obtain ⟨p, vs, rfl, s, q⟩ := r.tup_inv zok kok
    exact ⟨p, vs, rfl, .inr ⟨s, k _ Z H (.old zok r)⟩⟩
/-! ### isinstance -/
def tyName : D → Option String
  | .non => some "NoneType"
  | .bl _ => some "bool"
  | .int _ => some "int"
  | .str _ => some "str"
  | .tup _ => some "tuple"
  | .lst _ => some "list"
  | _ => none
def isiG (T : String) (d : D) : Option D := (tyName d).bind fun n => (kitB n T).map .bl
theorem tyName_ok {x : V} {n : String} (kok : KOk G) (zok : ZOk G Z H) (r : RelD G Z x d) (h : tyName d = some n) : TyX G.K H x (.type n) := by
  cases d <;> try (cases h; done)
  case non => cases h; rw [r.non_inv zok kok]; exact .base .non
  case bl b => cases h; rw [r.bl_inv zok kok]; exact .base (.bl b)
  case int b => cases h; rw [r.int_inv zok kok]; exact .base (.int b)
  case str b => cases h; rw [r.str_inv zok kok]; exact .base (.str _)
  case lst l =>
    cases h
    obtain ⟨p, vs, rfl, s, q⟩ := r.lst_inv zok kok
    exact .base (.lst s)
  case tup l =>
    cases h
    obtain ⟨p, vs, rfl, s, q⟩ := r.tup_inv zok kok
    rcases s with (s | ⟨o, s⟩) | ⟨o, its, n, s1, s2, _⟩
    · exact .base (.tup s)
    · exact .fTuple s
    · exact .kTuple s1 s2
theorem pe_isi {m : M D} {T : Str} {Tn : String} {p p2 : Pos} (kok : KOk G) (hk : X.K = G.K) (hg : Gl X "isinstance") (hm : X.mg "isinstance" = none) (hgT : Gl X T) (hmT : X.mg T = none) (hvT : bootBuiltins T = some (.type Tn)) (hnT : T ≠ "__name__") (hdT : (T == ("__debug__" : Str)) = false)
    (h : PE X a (tE G W m)) (hs : starEach [a, .Name T p2] X.env = (false, eval a X.env) :: starEach [.Name T p2] X.env) :
    PE X (.Call (.Name "isinstance" p) [a, .Name T p2] [] pos) (tO G W (bnd m fun d => ownM (isiG Tn d))) := by
  refine PE.imp (pe_callB (t := tCons (tE G W m) (tCons (tC (.ty Tn)) tNil)) call_isi hg hm (by decide +kernel) (pa_cons h (pa_cons (pe_bltn hgT hmT hvT rfl hnT hdT) pa_nil) hs) (by decide) (by decide) hs rfl) fun σ H Q ⟨B, Z, ρ, hr, hw⟩ =>
    ⟨B, Z, ρ, hr, hw.bnd.mono (Le.refl _) fun d ρ1 h1 v1 Z1 H1 r1 d1 l1 => ?_⟩
  obtain ⟨f, ef, hf⟩ := end2 r1 l1 h1
  unfold isiG at ef
  cases q : tyName d with
  | none => rw [q] at ef; cases ef
  | some n =>
    rw [q] at ef
    have ef : (kitB n Tn).map D.bl = some f := ef
    cases q2 : kitB n Tn with
    | none => rw [q2] at ef; cases ef
    | some k =>
      rw [q2] at ef; cases ef
      rw [hk]
      exact ⟨v1, .ty Tn, .type n, .type Tn, k, rfl, .ty Tn, tyName_ok kok r1.zok d1 q, kit_ty q2, hf _ Z1 H1 (.old r1.zok rfl)⟩

/-! ### methods of texts -/
def tyOk (T : String) (d : D) : Bool := match d with
  | .str _ => T == "str"
  | .int _ => T == "int"
  | .lst _ => T == "list"
  | _ => false
theorem tyOk_ok {T : String} {x : V} (kok : KOk G) (zok : ZOk G Z H) (r : RelD G Z x d) (h : tyOk T d = true) : tyV G.K T x H := by
  cases d <;> try (cases h; done)
  case str s => rw [r.str_inv zok kok]; exact beq_iff_eq.mp h
  case int s => rw [r.int_inv zok kok]; exact beq_iff_eq.mp h
  case lst l =>
    obtain ⟨p, vs, rfl, s, q⟩ := r.lst_inv zok kok
    exact .inl ⟨beq_iff_eq.mp h, vs, SqL.of s⟩
/-- r asks no more than that g answers -/
def CompatM (G : Gx) (r : V → List V → Hp → VK → Prop) (g : D → List D → Option D) : Prop :=
  ∀ Z H x vs d ds f Q, ZOk G Z H → RelD G Z x d → RelDs G Z vs ds → g d ds = some f → (∀ v Z' H', NewR G Z H Z' H' v (own f) → Q v H') → r x vs H Q
def methM (T : String) (m : M D) (ms : M (List D)) (g : D → List D → Option D) : M O := bnd m fun d => if tyOk T d then bnd ms fun ds => ownM (g d ds) else stk
theorem meth_to {T : String} {m : M D} {ms : M (List D)} {r : V → List V → Hp → VK → Prop} {g : D → List D → Option D} (kok : KOk G) (hg : CompatM G r g) : ∀ σ H Q, tO G W (methM T m ms g) σ H Q → tBM G.K T r (tE G W m) (tAs G W ms) σ H Q := by
  rintro σ H Q ⟨B, Z, ρ, hr, hw⟩
  refine ⟨B, Z, ρ, hr, hw.bnd.mono (Le.refl _) fun d ρ1 h1 v1 Z1 H1 r1 d1 l1 => ?_⟩
  by_cases ht : tyOk T d = true
  · rw [if_pos ht] at h1
    refine ⟨tyOk_ok kok r1.zok d1 ht, B, Z1, ρ1, r1, h1.bnd.mono l1 fun ds ρ2 h2 vs Z2 H2 r2 d2 l2 => ?_⟩
    obtain ⟨f, ef, hf⟩ := end2 r2 (l1.trans l2) h2
    exact hg Z2 H2 v1 vs d ds f Q r2.zok (d1.mono l2) d2 ef hf
  · rw [if_neg ht] at h1; exact h1.elim
theorem meth_to0 {T : String} {m : M D} {r : V → List V → Hp → VK → Prop} {g : D → List D → Option D} (kok : KOk G) (hg : CompatM G r g) : ∀ σ H Q, tO G W (methM T m (ret []) g) σ H Q → tBM0 G.K T r (tE G W m) σ H Q := by
  rintro σ H Q ⟨B, Z, ρ, hr, hw⟩
  refine ⟨B, Z, ρ, hr, hw.bnd.mono (Le.refl _) fun d ρ1 h1 v1 Z1 H1 r1 d1 l1 => ?_⟩
  by_cases ht : tyOk T d = true
  · rw [if_pos ht] at h1
    obtain ⟨f, ef, hf⟩ := end2 (f := g d []) r1 l1 h1
    exact ⟨tyOk_ok kok r1.zok d1 ht, hg Z1 H1 v1 [] d [] f Q r1.zok d1 .nil ef hf⟩
  · rw [if_neg ht] at h1; exact h1.elim
def mS0 (g : List Nat → Option D) : D → List D → Option D
  | .str s, [] => g s
  | _, _ => none
def mS1 (g : List Nat → D → Option D) : D → List D → Option D
  | .str s, [d] => g s d
  | _, _ => none
theorem compat_mS0 {g : List Nat → Option D} {r : V → List V → Hp → VK → Prop} (kok : KOk G) (h : ∀ Z H s f Q, ZOk G Z H → g s = some f → (∀ v Z' H', NewR G Z H Z' H' v (own f) → Q v H') → r (.str ⟨s.toArray⟩) [] H Q) : CompatM G r (mS0 g) := fun Z H x vs d ds f Q zok rx rd hf k => by
  cases d <;> try (cases hf; done)
  case str s =>
    cases ds with
    | nil => cases rd; rw [rx.str_inv zok kok]; exact h Z H s f Q zok hf k
    | cons _ _ => cases hf
theorem compat_mS1 {g : List Nat → D → Option D} {r : V → List V → Hp → VK → Prop} (kok : KOk G) (h : ∀ Z H s x d f Q, ZOk G Z H → RelD G Z x d → g s d = some f → (∀ v Z' H', NewR G Z H Z' H' v (own f) → Q v H') → r (.str ⟨s.toArray⟩) [x] H Q) : CompatM G r (mS1 g) := fun Z H x vs d ds f Q zok rx rd hf k => by
  cases d <;> try (cases hf; done)
  case str s =>
    cases ds with
    | nil => cases hf
    | cons e ds =>
      cases ds with
      | nil => obtain ⟨v, rfl, q⟩ := RelDs.one rd; rw [rx.str_inv zok kok]; exact h Z H s v e f Q zok q hf k
      | cons _ _ => cases hf
def strD (x : Str) : D := .str x.cps.toList
theorem strD_rel (x : Str) : RelD G Z (.str x) (strD x) := by
  show x = ⟨x.cps.toList.toArray⟩
  simp
theorem strs_rel : ∀ l : List Str, RelDs G Z (l.map V.str) (l.map strD)
  | [] => .nil
  | x :: l => .cons (strD_rel x) (strs_rel l)
def splitG (s : List Nat) : D → Option D
  | .str b => if b ≠ [] ∧ s.length + 2 ≤ sizeLine then some (.lst ((Txt.split ⟨s.toArray⟩ ⟨b.toArray⟩).map strD)) else none
  | _ => none
theorem splitG_ok (kok : KOk G) : CompatM G (fun x xs H Q => ∃ a b, x = .str a ∧ xs = [.str b] ∧ (b.length == 0) = false ∧ a.length + 2 ≤ sizeLine ∧ rNewStrs (Txt.split a b) H Q) (mS1 splitG) := compat_mS1 kok fun Z H s x d f Q zok r hf k => by
  cases d <;> try (cases hf; done)
  case str b =>
    obtain ⟨hz, rfl⟩ := ifSome hf
    rw [r.str_inv zok kok]
    refine ⟨_, _, rfl, rfl, ?_, by rw [strLen]; exact hz.2, fun p np => k _ _ _ (.lst zok np (strs_rel _))⟩
    rw [strLen]
    exact beq_eq_false_iff_ne.mpr fun z => hz.1 (List.eq_nil_of_length_eq_zero z)
def partG (s : List Nat) : D → Option D
  | .str b => if b ≠ [] ∧ s.length ≤ sizeLine then some (.tup [strD (Txt.partition ⟨s.toArray⟩ ⟨b.toArray⟩).1, strD (Txt.partition ⟨s.toArray⟩ ⟨b.toArray⟩).2.1, strD (Txt.partition ⟨s.toArray⟩ ⟨b.toArray⟩).2.2]) else none
  | _ => none
theorem partG_ok (kok : KOk G) : CompatM G (fun x xs H Q => ∃ a b, x = .str a ∧ xs = [.str b] ∧ (b.length == 0) = false ∧ a.length ≤ sizeLine ∧
    ∀ p, H p = none → Q (.ref p) (upd H p (.tup [.str (Txt.partition a b).1, .str (Txt.partition a b).2.1, .str (Txt.partition a b).2.2]))) (mS1 partG) := compat_mS1 kok fun Z H s x d f Q zok r hf k => by
  cases d <;> try (cases hf; done)
  case str b =>
    obtain ⟨hz, rfl⟩ := ifSome hf
    rw [r.str_inv zok kok]
    refine ⟨_, _, rfl, rfl, ?_, by rw [strLen]; exact hz.2, fun p np => k _ _ _ (.tup zok np (.cons (strD_rel _) (.cons (strD_rel _) (.cons (strD_rel _) .nil))))⟩
    rw [strLen]
    exact beq_eq_false_iff_ne.mpr fun z => hz.1 (List.eq_nil_of_length_eq_zero z)
def joinG (s : List Nat) : D → Option D
  | .lst l => (asStrs l).bind fun ys => if (ys.map (·.length)).sum + ys.length * s.length ≤ 16777216 then some (.str (TL.joinL s ys)) else none
  | _ => none
theorem joinS_eq (s : List Nat) (ys : List (List Nat)) : Txt.join ⟨s.toArray⟩ (ys.map fun l => ⟨l.toArray⟩) = ⟨(TL.joinL s ys).toArray⟩ := by
  rw [TL.join_eq]
  apply TL.ext_tl
  rw [TL.tl_join]
  have : (ys.map fun l => (⟨l.toArray⟩ : Str)).map TL.tl = ys := by
    rw [List.map_map]
    conv => rhs; rw [← List.map_id ys]
    apply List.map_congr_left
    intro a _
    rfl
  rw [this]
theorem joinG_ok (kok : KOk G) : CompatM G (fun x xs H Q => ∃ a p, ∃ ys : List Str, x = .str a ∧ xs = [.ref p] ∧ (SqL G.K H p (ys.map V.str) ∨ SqT G.K H p (ys.map V.str)) ∧
    (ys.map (·.length)).sum + ys.length * a.length ≤ 16777216 ∧ Q (.str (Txt.join a ys)) H) (mS1 joinG) := compat_mS1 kok fun Z H s x d f Q zok r hf k => by
  cases d <;> try (cases hf; done)
  case lst l =>
    have hf : ((asStrs l).bind fun ys => if (ys.map (·.length)).sum + ys.length * s.length ≤ 16777216 then some (D.str (TL.joinL s ys)) else none) = some f := hf
    cases q : asStrs l with
    | none => rw [q] at hf; cases hf
    | some ys =>
      rw [q] at hf
      obtain ⟨hz, rfl⟩ := ifSome hf
      rw [asStrs_ok q] at r
      obtain ⟨p, vs, rfl, sq, rd⟩ := r.lst_inv zok kok
      rw [rd.strs zok kok] at sq
      refine ⟨_, p, ys.map fun l => ⟨l.toArray⟩, rfl, rfl, .inl (SqL.of sq), ?_, ?_⟩
      · rw [List.map_map, List.length_map, strLen]
        have : ((fun x : Str => x.length) ∘ fun l : List Nat => (⟨l.toArray⟩ : Str)) = List.length := by funext l; exact strLen l
        rw [this]; exact hz
      · rw [joinS_eq]; exact k _ Z H (.old zok rfl)
end
end FW
set_option Elab.async false
set_option linter.all false
set_option maxRecDepth 100000
/-! FW7: the core tongue and its meaning -/
namespace FW
open PySem PySem.Spec L2

def andV (a b : M O) : M O := bnd a fun o => bnd (frzM o) fun d => match d with
  | .bl true => b
  | .bl false => ret (.fz (.bl false))
  | _ => stk
def orV (a b : M O) : M O := bnd a fun o => bnd (frzM o) fun d => match d with
  | .bl true => ret (.fz (.bl true))
  | .bl false => b
  | _ => stk
def notV (d : D) : Option D := match d with
  | .bl b => some (.bl (!b))
  | _ => none
def fmtG : D → Option D
  | .str s => if s.length ≤ sizeLine then some (.str s) else none
  | .int i => if i.natAbs.log2 < 1920 then some (.str (strI i)) else none
  | _ => none
def joinParts : List (M D) → List Nat → M O
  | [], acc => ret (.fz (.str acc))
  | m :: ms, acc => bnd m fun d => match d with
    | .str s => if acc.length + s.length ≤ sizeLine then joinParts ms (acc ++ s) else stk
    | _ => stk
def tgM : Tg → D → M Unit
  | .name i => setM i
  | .tup l => tupT (tgMs l)
where tgMs : List Tg → List (D → M Unit)
  | [] => []
  | t :: ts => tgM t :: tgMs ts
def rngM (n : Nat) (ds : List D) : Option (List D) := if ds.length = n then rangeG ds else none
/-- the list of one's own at i, longer by d -/
def appM (i : Nat) (d : D) : M Fl := fun ρ => match (ρ[i]?).getD none with
  | some (.lst l) => if l.length < sizeLine then .ok .nx (ρ.set i (some (.lst (l ++ [d])))) else .stuck
  | _ => .stuck
/-- x.append(e) -/
def appS (i : Nat) (m : M D) : M Fl := fun ρ => match (ρ[i]?).getD none with
  | some (.lst _) => bnd m (appM i) ρ
  | _ => .stuck
def putAtM (i : Nat) (k d : D) : M Fl := fun ρ => match (ρ[i]?).getD none, k with
  | some (.lst l), .int n => match ixN l.length n with
    | some j => .ok .nx (ρ.set i (some (.lst (l.set j d))))
    | none => .stuck
  | _, _ => .stuck
/-- x[k] = e -/
def putS (i : Nat) (m mk : M D) : M Fl := bnd m fun d => fun ρ => match (ρ[i]?).getD none with
  | some (.lst _) => bnd mk (fun y => putAtM i y d) ρ
  | _ => .stuck
/-- try: m except C: h; tk: which classes C takes -/
def tryS (m : M Fl) (tk : Nat → Option Bool) (h : M Fl) : M Fl := fun ρ => match m ρ with
  | .exc c ρ' => match tk c with
    | some true => match h ρ' with
      | .exc _ _ => .stuck
      | r => r
    | some false => .exc c ρ'
    | none => .stuck
  | r => r
end FW
set_option Elab.async false
set_option linter.all false
set_option maxRecDepth 100000
/-! FW8: further rules -/
namespace FW
open PySem PySem.Spec L2
section
variable {G : Gx} {W : WX} {B : Bs} {X : Cx} {e a b c : Expr} {es rest : List Expr} {pos : Pos} {Z : Addr → Option D} {H : Hp} {σ : L2.St} {ρ : En}
theorem pe_andVD {m n : M O} (kok : KOk G) (ha : PE X a (tO G W m)) (hb : PE X (.BoolOp .And (b :: rest) pos) (tO G W n)) : PE X (.BoolOp .And (a :: b :: rest) pos) (tO G W (andV m n)) := PE.imp (pe_and (pe_frz ha) hb) fun σ H Q ⟨B, Z, ρ, hr, hw⟩ => by
  have hw' : Wp G B W Z σ (bnd (bnd m frzM) (fun d => match d with
    | .bl true => n
    | .bl false => ret (.fz (.bl false))
    | _ => stk) ρ) fun o ρ' => ∀ v Z' H', RlR G B Z' H' σ ρ' v o → Le Z Z' → Q v H' := by
    have e : ∀ (f : D → M O), bnd m (fun o => bnd (frzM o) f) = bnd (bnd m frzM) f := fun f => by
      funext ρ; unfold bnd; cases m ρ <;> rfl
    unfold andV at hw; rw [e] at hw; exact hw
  refine ⟨B, Z, ρ, hr, hw'.bnd.mono (Le.refl _) fun d ρ1 h1 v1 Z1 H1 r1 d1 l1 => ?_⟩
  cases d with
  | bl k =>
    refine ⟨k, d1.bl_inv r1.zok kok, ?_⟩
    cases k with
    | true => rw [if_pos rfl]; exact ⟨B, Z1, ρ1, r1, Wp.mono (r := n ρ1) h1 l1 fun o ρ2 h2 v Z2 H2 r2 l2 => h2 v Z2 H2 r2 (l1.trans l2)⟩
    | false => rw [if_neg Bool.false_ne_true]; exact h1 (.bl false) Z1 H1 (r1.fz rfl) l1
  | _ => exact h1.elim
theorem pe_orVD {m n : M O} (kok : KOk G) (ha : PE X a (tO G W m)) (hb : PE X (.BoolOp .Or (b :: rest) pos) (tO G W n)) : PE X (.BoolOp .Or (a :: b :: rest) pos) (tO G W (orV m n)) := PE.imp (pe_or (pe_frz ha) hb) fun σ H Q ⟨B, Z, ρ, hr, hw⟩ => by
  have hw' : Wp G B W Z σ (bnd (bnd m frzM) (fun d => match d with
    | .bl true => ret (.fz (.bl true))
    | .bl false => n
    | _ => stk) ρ) fun o ρ' => ∀ v Z' H', RlR G B Z' H' σ ρ' v o → Le Z Z' → Q v H' := by
    have e : ∀ (f : D → M O), bnd m (fun o => bnd (frzM o) f) = bnd (bnd m frzM) f := fun f => by
      funext ρ; unfold bnd; cases m ρ <;> rfl
    unfold orV at hw; rw [e] at hw; exact hw
  refine ⟨B, Z, ρ, hr, hw'.bnd.mono (Le.refl _) fun d ρ1 h1 v1 Z1 H1 r1 d1 l1 => ?_⟩
  cases d with
  | bl k =>
    refine ⟨k, d1.bl_inv r1.zok kok, ?_⟩
    cases k with
    | false => rw [if_neg Bool.false_ne_true]; exact ⟨B, Z1, ρ1, r1, Wp.mono (r := n ρ1) h1 l1 fun o ρ2 h2 v Z2 H2 r2 l2 => h2 v Z2 H2 r2 (l1.trans l2)⟩
    | true => rw [if_pos rfl]; exact h1 (.bl true) Z1 H1 (r1.fz rfl) l1
  | _ => exact h1.elim
theorem pe_notVD {m : M D} (kok : KOk G) (ha : PE X a (tE G W m)) : PE X (.UnaryOp .Not a pos) (tO G W (bnd m fun x => ownM (notV x))) := PE.imp (pe_not ha) fun σ H Q ⟨B, Z, ρ, hr, hw⟩ =>
  ⟨B, Z, ρ, hr, hw.bnd.mono (Le.refl _) fun d ρ1 h1 v1 Z1 H1 r1 d1 l1 => by
    obtain ⟨f, ef, hf⟩ := end2 r1 l1 h1
    cases d <;> try (cases ef; done)
    case bl k => cases ef; exact ⟨k, d1.bl_inv r1.zok kok, hf _ Z1 H1 (.old r1.zok rfl)⟩⟩
theorem pe_fmtD {m : M D} (kok : KOk G) (h : PE X e (tE G W m)) : PE X (.FormattedValue e (-1) none pos) (tO G W (bnd m fun d => ownM (fmtG d))) := PE.imp (pe_fmt h) fun σ H Q ⟨B, Z, ρ, hr, hw⟩ =>
  ⟨B, Z, ρ, hr, hw.bnd.mono (Le.refl _) fun d ρ1 h1 v1 Z1 H1 r1 d1 l1 => by
    obtain ⟨f, ef, hf⟩ := end2 r1 l1 h1
    cases d <;> try (cases ef; done)
    case str s =>
      obtain ⟨hz, rfl⟩ := ifSome ef
      exact .inl ⟨_, d1.str_inv r1.zok kok, by rw [strLen]; exact hz, hf _ Z1 H1 (.old r1.zok rfl)⟩
    case int i =>
      obtain ⟨hz, rfl⟩ := ifSome ef
      exact .inr ⟨i, d1.int_inv r1.zok kok, hz, hf _ Z1 H1 (.old r1.zok (strI_eq i).symm)⟩⟩
theorem joins_to (kok : KOk G) : ∀ (ms : List (M D)) (acc : List Nat) (B : Bs) (Z0 Z : Addr → Option D) (H : Hp) (σ : L2.St) (ρ : En) (Q : VK), Rl G B Z H σ ρ → Le Z0 Z → Wp G B W Z0 σ (joinParts ms acc ρ) (fun o ρ' => ∀ v Z' H', RlR G B Z' H' σ ρ' v o → Le Z0 Z' → Q v H') →
    tJs (ms.map (tE G W)) ⟨acc.toArray⟩ σ H fun out H1 => Q (.str out) H1
  | [], acc, B, Z0, Z, H, σ, ρ, Q, hr, l, hw => hw _ Z H (hr.fz rfl) l
  | m :: ms, acc, B, Z0, Z, H, σ, ρ, Q, hr, l, hw => by
    refine ⟨B, Z, ρ, hr, (Wp.bnd hw).mono l fun d ρ1 h1 v1 Z1 H1 r1 d1 l1 => ?_⟩
    cases d with
    | str s =>
      have h1 : Wp G B W Z0 σ ((if acc.length + s.length ≤ sizeLine then joinParts ms (acc ++ s) else stk) ρ1) (fun o ρ' => ∀ v Z' H', RlR G B Z' H' σ ρ' v o → Le Z0 Z' → Q v H') := h1
      by_cases hz : acc.length + s.length ≤ sizeLine
      · rw [if_pos hz] at h1
        have e : (⟨acc.toArray⟩ ++ ⟨s.toArray⟩ : Str) = ⟨(acc ++ s).toArray⟩ := by
          show (⟨acc.toArray ++ s.toArray⟩ : Str) = _
          simp
        refine ⟨_, d1.str_inv r1.zok kok, by rw [e, strLen, List.length_append]; exact hz, ?_⟩
        rw [e]
        exact joins_to kok ms (acc ++ s) B Z0 Z1 H1 σ ρ1 Q r1 (l.trans l1) h1
      · rw [if_neg hz] at h1; exact h1.elim
    | _ => exact h1.elim
theorem pe_fstrD {v1 v2 : Expr} {ms : List (M D)} (kok : KOk G) (h : PJ X (v1 :: v2 :: rest) (ms.map (tE G W))) : PE X (.JoinedStr (v1 :: v2 :: rest) pos) (tO G W (joinParts ms [])) := PE.imp (pe_joined h) fun σ H Q ⟨B, Z, ρ, hr, hw⟩ => joins_to kok ms [] B Z Z H σ ρ Q hr (Le.refl _) hw
/-- a def called -/
theorem pe_callD {k : Nat} {f : Addr} {fd : FuncData} {ps : List Str} {Fn : List O → FR} {n : Nat} {x : Str} {p : Pos} {ms : M (List D)} (hk : X.K = G.K) (FO : FnOk X.prog X.w X.K X.mg X.base (L2.CX X.prog X.w) k f fd ps (spF G Fn n)) (hr : Room k X.A) (hg : Gl X x) (hm : X.mg x = some (.ref f))
    (hkp : PySem.W.keepIn X.K (.ref f) = true) (hb : Binds X.K fd ps []) (tk : Takes X W) (ha : PA X (e :: es) (tAs G W ms)) (hdb : (x == ("__debug__" : Str)) = false) (he : starEach (e :: es) X.env = (false, eval e X.env) :: starEach es X.env) (hpl : (backTo pos (starEach es X.env)).any (·.1) = false) :
    PE X (.Call (.Name x p) (e :: es) [] pos) (tO G W (bnd ms fun ds => if ds.length = n then callM Fn ds else stk)) := PE.imp (pe_callS FO hr hg hm hkp hb (fun σ => passAt tk σ) ha hdb he hpl) args_call
theorem pe_call0D {k : Nat} {f : Addr} {fd : FuncData} {ps : List Str} {Fn : List O → FR} {n : Nat} {x : Str} {p : Pos} (FO : FnOk X.prog X.w X.K X.mg X.base (L2.CX X.prog X.w) k f fd ps (spF G Fn n)) (hr : Room k X.A) (hg : Gl X x) (hm : X.mg x = some (.ref f))
    (hkp : PySem.W.keepIn X.K (.ref f) = true) (hb : Binds X.K fd ps []) (tk : Takes X W) (hdb : (x == ("__debug__" : Str)) = false) :
    PE X (.Call (.Name x p) [] [] pos) (tO G W (bnd (ret []) fun ds => if ds.length = n then callM Fn ds else stk)) := by
  have h : PE X (.Call (.Name x p) [] [] pos) (tCallS (spF G Fn n) (WE W) tNil) := by
    refine ⟨fun pins s σ H Q I h => ?_⟩
    refine wpAny_Call_Name_kw (ld_glob I hg hm ?_ hdb)
    exact PySem.W.callWith_K0 I.kIn hkp (run_fnS (us := []) FO hr hb (passAt tk σ) I .nil h)
  exact PE.imp h fun σ H Q q => by
    have q' := args_call (ms := ret []) (Fn := Fn) (n := n) σ H Q q
    obtain ⟨B, Z, ρ, hr, hw⟩ := q'
    exact hw [] Z H hr .nil (Le.refl _)

/-! ### lists of one's own changed -/
theorem set_same {i : Nat} {v : V} (h : σ[i]? = some (some v)) : σ.set i (some v) = σ := by
  apply List.ext_getElem?
  intro j
  by_cases hj : j = i
  · subst hj; rw [List.getElem?_set_self (List.getElem?_eq_some_iff.mp h).1, h]
  · rw [List.getElem?_set_ne (Ne.symm hj)]
/-- the list of one's own at i is changed -/
theorem Rl.updL {i : Nat} {l l' : List D} (h : Rl G B Z H σ ρ) (e : (ρ[i]?).getD none = some (.lst l)) : ∃ p vs, σ[i]? = some (some (.ref p)) ∧ H p = some (.lst vs) ∧ RelDs G Z vs l ∧ ∀ vs', RelDs G Z vs' l' → Rl G B Z (upd H p (.lst vs')) σ (ρ.set i (some (.lst l'))) := by
  obtain ⟨v, ev, rr⟩ := h.take (getD_some e)
  obtain ⟨p, vs, rfl, hp, rd⟩ := rr.lst_inv
  refine ⟨p, vs, ev, hp, rd, fun vs' r => ?_⟩
  have h2 := (rr.updL r).store (i := i)
  rw [set_same ev, set_none_set] at h2
  exact h2
theorem ps_appD {i : Nat} {x : Str} {p p2 apos cpos : Pos} {m : M D} (kok : KOk G) (hk : X.K = G.K) (ho : PE X (.Name x p) (tVar i)) (ha : PE X e (tE G W m)) (hline : (apos.endLine == cpos.line) = true)
    (hs : starEach [e] X.env = (false, eval e X.env) :: starEach [] X.env) (hbase : attributeBase (.Name x p) "append" X.env (eval (.Name x p) X.env) = eval (.Name x p) X.env)
    (hfew : ((backTo cpos (starEach [e] X.env)).all (fun x => !x.1) && (backToKw cpos (keywordEach [] X.env)).all (fun x => x.1.isSome) && decide ([e].length + ([] : List Keyword).length + (if ([] : List Keyword).isEmpty then 0 else 1) < 30)) = true) :
    PS X (.Expr (.Call (.Attribute (.Name x p) "append" apos) [e] [] cpos) pos) (tS G W (appS i m)) := by
  have hpe := pe_bm (X := X) (T := "list") PySem.F.plainAttrs_list PySem.F.slot_list_append PySem.F.type_list_append mt_append ho (pa_cons ha pa_nil hs) hbase hfew hline hs rfl
  refine PS.imp (ps_expr hpe rfl) fun Ds σ H ⟨B, Z, ρ, hr, hw⟩ => ?_
  unfold appS at hw
  cases q : (ρ[i]?).getD none with
  | none => rw [q] at hw; exact hw.elim
  | some o =>
    rw [q] at hw
    cases o with
    | lst l =>
      obtain ⟨p, vs, ev, hp, rd, _⟩ := hr.updL (l' := []) q
      rw [hk]
      refine ⟨.ref p, ev, .inl ⟨rfl, vs, SqL.of hp⟩, B, Z, ρ, hr, (WpS.bnd (σ := σ) hw).mono (Le.refl _) fun d ρ1 h1 v1 Z1 H1 r1 d1 l1 => ?_⟩
      unfold appM at h1
      cases q1 : (ρ1[i]?).getD none with
      | none => rw [q1] at h1; exact h1.elim
      | some o1 =>
        rw [q1] at h1
        cases o1 with
        | lst l' =>
          obtain ⟨p', vs', ev', hp', rd', back⟩ := r1.updL (l' := l' ++ [d]) q1
          rw [ev] at ev'; cases ev'
          have h1 : WpS G B W Z ((if l'.length < sizeLine then R.ok Fl.nx (ρ1.set i (some (.lst (l' ++ [d])))) else R.stuck)) Ds := h1
          by_cases hz : l'.length < sizeLine
          · rw [if_pos hz] at h1
            exact ⟨p, vs', v1, rfl, rfl, hp', by rw [RelDs.length rd']; exact hz, h1 σ Z1 _ (back _ (Paired.snoc rd' d1)) l1⟩
          · rw [if_neg hz] at h1; exact h1.elim
        | _ => exact h1.elim
    | _ => exact hw.elim
theorem ps_putD {i : Nat} {x : Str} {p p2 : Pos} {k : Expr} {m mk : M D} (kok : KOk G) (ho : PE X (.Name x p) (tVar i)) (ha : PE X e (tE G W m)) (hkk : PE X k (tE G W mk)) (hs : swapsWithSole [.Subscript (.Name x p) k p2] e pos.line X.env = pure false) (hw : swappedStores [.Subscript (.Name x p) k p2] e X.env = pure none)
    (hasg : ∀ v, assign (.Subscript (.Name x p) k p2) X.env v = (do
      let ov ← holding [v] (eval (.Name x p) X.env)
      let iv ← holding [v, ov] (eval k X.env)
      standAt p2
      holding [v, ov, iv] (setItem ov iv v)
      release [v, ov, iv] [])) :
    PS X (.Assign [.Subscript (.Name x p) k p2] e pos) (tS G W (putS i m mk)) := PS.imp (ps_asg ha (pg_sub ho hkk set_list hasg) hs hw rfl) fun Ds σ H ⟨B, Z, ρ, hr, hw⟩ => by
  refine ⟨B, Z, ρ, hr, (WpS.bnd (σ := σ) hw).mono (Le.refl _) fun d ρ1 h1 v1 Z1 H1 r1 d1 l1 => ?_⟩
  cases q : (ρ1[i]?).getD none with
  | none => simp only [q] at h1; exact h1.elim
  | some o =>
    simp only [q] at h1
    cases o with
    | lst l =>
      obtain ⟨p, vs, ev, hp, rd, _⟩ := r1.updL (l' := []) q
      refine ⟨.ref p, ev, B, Z1, ρ1, r1, (WpS.bnd (σ := σ) h1).mono l1 fun y ρ2 h2 v2 Z2 H2 r2 d2 l2 => ?_⟩
      unfold putAtM at h2
      cases q2 : (ρ2[i]?).getD none with
      | none => simp only [q2] at h2; exact h2.elim
      | some o2 =>
        simp only [q2] at h2
        cases o2 with
        | lst l' =>
          cases y with
          | int n =>
            simp only at h2
            cases q3 : ixN l'.length n with
            | none => simp only [q3] at h2; exact h2.elim
            | some j =>
              simp only [q3] at h2
              obtain ⟨p', vs', ev', hp', rd', back⟩ := r2.updL (l' := l'.set j d) q2
              rw [ev] at ev'; cases ev'
              exact ⟨p, vs', n, j, rfl, d2.int_inv r2.zok kok, hp', by rw [RelDs.length rd']; exact q3, h2 σ Z2 _ (back _ (rd'.set j (d1.mono l2))) (l1.trans l2)⟩
          | _ => exact h2.elim
        | _ => exact h2.elim
    | _ => exact h1.elim

/-! ### try -/
theorem ps_tryD {x : Str} {np pos' : Pos} {b₀ : Stmt} {body suite : List Stmt} {c : Nat} {m h : M Fl} {tk : Nat → Option Bool} (hk : X.K = G.K) (hs : X.stack = X.env :: X.outer) (hf : X.env.frame = some X.env.locals) (hc : Names X x (.ref (G.cls c))) (tkW : Takes X W)
    (htk : ∀ c' b, tk c' = some b → PySem.W.exmOne G.K (.ref (G.cls c')) (.ref (G.cls c)) = some b)
    (hb : ∀ (W : WX) (pn : List (Addr × Obj)) (xe : Value → Shared → Prop), Takes (X.tr pn xe) W → PassesOwn (model X.prog X.w) X.A X.env xe → PSs (X.tr pn xe) body (tS G W m))
    (hsu : ∀ (a : Addr) (oe : Obj) (pn : List (Addr × Obj)), (∃ vs, oe.data = .fields vs) → PSs (X.suite a ((a, oe) :: pn)) (b₀ :: suite) (tS G (fun _ _ _ _ => False) h)) :
    PS X (.Try body [.ExceptHandler (some (.Name x np)) none (b₀ :: suite) pos'] [] [] pos) (tS G W (tryS m tk h)) :=
  PS.imp (ps_try_only (ts := fun _ _ _ => tS G (fun _ _ _ _ => False) h) hs hf hc tkW hb fun a oe cls d pn _ hv => hsu a oe pn hv) fun Ds σ H ⟨B, Z, ρ, hr, hw⟩ => by
    refine ⟨B, Z, ρ, hr, ?_⟩
    unfold tryS at hw
    cases q : m ρ with
    | stuck => rw [q] at hw; exact hw
    | ok fl ρ1 => rw [q] at hw; cases fl <;> exact hw
    | exc c' ρ1 =>
      rw [q] at hw
      intro σ' Z' H' r' l'
      simp only at hw
      cases q2 : tk c' with
      | none => simp only [q2] at hw; exact hw.elim
      | some b =>
        simp only [q2] at hw
        refine ⟨b, by rw [hk]; exact htk c' b q2, fun hb => ?_, fun hb => ?_⟩
        · subst hb
          intro a _
          refine ⟨B, Z', ρ1, r', ?_⟩
          simp only at hw
          cases q3 : h ρ1 with
          | stuck => simp only [q3] at hw; exact hw
          | exc c2 ρ2 => simp only [q3] at hw; exact hw.elim
          | ok fl ρ2 =>
            simp only [q3] at hw
            have hw : WpS G B W Z (R.ok fl ρ2) Ds := hw
            have : WpS G B (fun _ _ _ _ => False) Z (R.ok fl ρ2) Ds := by cases fl <;> exact hw
            exact this.le l'
        · subst hb
          exact hw σ' Z' H' r' l'
end
end FW
set_option Elab.async false
set_option linter.all false
set_option maxRecDepth 100000
/-! FW9: lists of one's own lent to one step -/
namespace FW
open PySem PySem.Spec L2

mutual
/-- no list within -/
def lfree : D → Bool
  | .non => true
  | .bl _ => true
  | .int _ => true
  | .str _ => true
  | .scr _ => true
  | .tup l => lfrees l
  | .lst _ => false
  | .dic _ => false
def lfrees : List D → Bool
  | [] => true
  | d :: ds => lfree d && lfrees ds
end
def okD : D → Bool
  | .lst l => lfrees l
  | d => lfree d
def okO : O → Bool
  | .fz d => lfree d
  | .lst l => lfrees l
  | .ins _ _ => false
theorem okO_own {d : D} (h : okD d = true) : okO (own d) = true := by cases d <;> exact h
inductive Arg where
  | dat (d : D) | slot (i : Nat)

section
variable {G : Gx} {W : WX} {B : Bs} {X : Cx} {e a b c : Expr} {es rest : List Expr} {pos : Pos} {Z Zp Z' : Addr → Option D} {H H' : Hp} {σ : L2.St} {ρ : En} {v : V} {o : O}

/-- what was lent is taken back -/
theorem NewR.back (zok : ZOk G Z H) (hp : ∀ q d, Zp q = some d → lfree d = true → Z q = some d) (n : NewR G Zp H Z' H' v o) (h : okO o = true) : ∃ Z2, NewR G Z H Z2 H' v o ∧ Le Z Z2 := by
  let Z2 : Addr → Option D := fun q => match H q with
    | some _ => Z q
    | none => match Z' q with
      | some d => if lfree d then some d else none
      | none => none
  have zold : ∀ q ob, H q = some ob → Z2 q = Z q := fun q ob e => by show (match H q with | some _ => Z q | none => _) = _; rw [e]
  have znew : ∀ q, H q = none → Z2 q = match Z' q with | some d => if lfree d then some d else none | none => none := fun q e => by show (match H q with | some _ => Z q | none => _) = _; rw [e]
  have le : Le Z Z2 := fun q d e => by
    have := (zok q d e).1
    cases hq : H q with
    | none => exact absurd hq this
    | some ob => rw [zold q ob hq]; exact e
  have lf : ∀ {v : V} {d : D}, RelD G Z' v d → lfree d = true → RelD G Z2 v d := fun {v d} r hl => by
    cases v with
    | ref q =>
      rcases r with r | r
      · left
        cases hq : H q with
        | none => rw [znew q hq, r]; exact if_pos hl
        | some ob => rw [zold q ob hq]; exact hp q d (by rw [← (n.ext q ob hq id).2]; exact r) hl
      · exact .inr r
    | non => cases d <;> first | trivial | exact r
    | bl b => cases d <;> first | trivial | exact r
    | int b => cases d <;> first | trivial | exact r
    | str b => cases d <;> first | trivial | exact r
    | byt b => exact r
    | flt b => exact r
    | ty b => exact r
  have lfs : ∀ {vs : List V} {ds : List D}, RelDs G Z' vs ds → lfrees ds = true → RelDs G Z2 vs ds := by
    intro vs ds r
    induction r with
    | nil => exact fun _ => .nil
    | cons a _ ih =>
      intro hl
      rw [lfrees, Bool.and_eq_true] at hl
      exact .cons (lf a hl.1) (ih hl.2)
  have ext : Ext noM Z H Z2 H' := fun q ob e _ => ⟨(n.ext q ob e id).1, zold q ob e⟩
  refine ⟨Z2, ⟨ext, fun q d e => ?_, ?_⟩, le⟩
  · cases hq : H q with
    | some ob =>
      rw [zold q ob hq] at e
      have k := (n.ext q ob hq id).1
      exact ⟨by rw [k]; exact fun z => (nomatch z), (zok q d e).2.same le (k.trans hq.symm)⟩
    | none =>
      rw [znew q hq] at e
      cases q2 : Z' q with
      | none => rw [q2] at e; cases e
      | some d' =>
        rw [q2] at e
        have e : (if lfree d' = true then some d' else none) = some d := e
        by_cases hl : lfree d' = true
        · rw [if_pos hl] at e; cases e
          obtain ⟨h1, h2⟩ := n.zok q d q2
          refine ⟨h1, ?_⟩
          cases d with
          | tup ds => obtain ⟨vs, s, rd⟩ := h2; exact ⟨vs, s, lfs rd hl⟩
          | scr ns => exact h2
          | lst ds => cases hl
          | dic ds => cases hl
          | _ => exact h2
        · rw [if_neg hl] at e; cases e
  · obtain ⟨U, un, rv⟩ := n.val
    refine ⟨U, fun p w u => ?_, ?_⟩
    · obtain ⟨h1, h2, h3⟩ := un p w u
      exact ⟨h1, by rw [znew p h1, h2], h3⟩
    · cases rv with
      | fz r => exact .fz (lf r h)
      | lst u hp' r => exact .lst u hp' (lfs r h)
      | ins => cases h
def RelA (G : Gx) (Z : Addr → Option D) (σ : L2.St) (v : V) : Arg → Prop
  | .dat d => RelD G Z v d
  | .slot i => σ[i]? = some (some v)
abbrev RelAs (G : Gx) (Z : Addr → Option D) (σ : L2.St) : List V → List Arg → Prop := Paired (RelA G Z σ)
theorem RelA.mono {a : Arg} (h : RelA G Z σ v a) (l : Le Z Z') : RelA G Z' σ v a := by
  cases a with
  | dat d => exact RelD.mono h l
  | slot i => exact h
/-- an argument's data; is it lent? -/
def argD (ρ : En) : Arg → Option (D × Bool)
  | .dat d => some (d, false)
  | .slot i => match (ρ[i]?).getD none with
    | some (.fz d) => some (d, false)
    | some (.lst l) => some (.lst l, true)
    | _ => none
def argsD (ρ : En) : List Arg → Option (List D × Bool)
  | [] => some ([], false)
  | a :: as => match argD ρ a, argsD ρ as with
    | some (d, b), some (ds, b') => some (d :: ds, b || b')
    | _, _ => none
/-- Zp is Z and what is lent -/
structure Lent (G : Gx) (Z Zp : Addr → Option D) (H : Hp) : Prop where
  zok : ZOk G Zp H
  le : Le Z Zp
  back : ∀ q d, Zp q = some d → lfree d = true → Z q = some d
theorem Lent.refl (z : ZOk G Z H) : Lent G Z Z H := ⟨z, Le.refl _, fun _ _ h _ => h⟩
/-- p is a list of one's own: lent -/
theorem lend1 {p : Addr} {vs : List V} {l : List D} (L : Lent G Z Zp H) (hp : H p = some (.lst vs)) (hz : Zp p = none) (r : RelDs G Zp vs l) : Lent G Z (updZ Zp p (.lst l)) H ∧ RelD G (updZ Zp p (.lst l)) (.ref p) (.lst l) ∧ Le Zp (updZ Zp p (.lst l)) := by
  have le := updZ_le (d := .lst l) hz
  refine ⟨⟨fun q d e => ?_, L.le.trans le, fun q d e hl => ?_⟩, .inl updZ_same, le⟩
  · by_cases h : q = p
    · subst h; rw [updZ_same] at e; cases e
      exact ⟨by rw [hp]; exact fun z => (nomatch z), vs, hp, r.mono le⟩
    · rw [updZ_ne h] at e
      exact ⟨(L.zok q d e).1, (L.zok q d e).2.same le rfl⟩
  · by_cases h : q = p
    · subst h; rw [updZ_same] at e; cases e; cases hl
    · rw [updZ_ne h] at e; exact L.back q d e hl
theorem lend {as : List Arg} {vs : List V} {ds : List D} {b : Bool} (hr : Rl G B Z H σ ρ) (ra : RelAs G Z σ vs as) (e : argsD ρ as = some (ds, b)) : ∃ Zp, Lent G Z Zp H ∧ RelDs G Zp vs ds ∧ (b = false → Zp = Z) := by
  obtain ⟨U, uok, er⟩ := hr.env
  suffices ∃ Zp, Lent G Z Zp H ∧ RelDs G Zp vs ds ∧ (b = false → Zp = Z) ∧ ∀ q, Zp q ≠ Z q → ∃ i l, U q = some (.slot i) ∧ ρ[i]? = some (some (.lst l)) ∧ σ[i]? = some (some (.ref q)) ∧ Zp q = some (.lst l) by
    obtain ⟨Zp, a, b, c, _⟩ := this; exact ⟨Zp, a, b, c⟩
  induction ra generalizing ds b with
  | nil => cases e; exact ⟨Z, .refl hr.zok, .nil, fun _ => rfl, fun q h => absurd rfl h⟩
  | @cons v a vs as r1 rr ih =>
    unfold argsD at e
    cases q1 : argD ρ a with
    | none => rw [q1] at e; cases e
    | some p1 =>
      obtain ⟨d, b1⟩ := p1
      cases q2 : argsD ρ as with
      | none => rw [q1, q2] at e; cases e
      | some p2 =>
        obtain ⟨ds2, b2⟩ := p2
        rw [q1, q2] at e
        cases e
        obtain ⟨Zp, L, rd, hb, hq⟩ := ih q2
        have old : ∀ (d : D), RelD G Z v d → b1 = false → ∃ Zp', Lent G Z Zp' H ∧ RelDs G Zp' (v :: vs) (d :: ds2) ∧ ((b1 || b2) = false → Zp' = Z) ∧ ∀ q, Zp' q ≠ Z q → ∃ i l, U q = some (.slot i) ∧ ρ[i]? = some (some (.lst l)) ∧ σ[i]? = some (some (.ref q)) ∧ Zp' q = some (.lst l) := fun d r hb1 =>
          ⟨Zp, L, .cons (r.mono L.le) rd, fun h => hb (by rw [hb1] at h; exact h), hq⟩
        cases a with
        | dat d' => cases q1; exact old _ r1 rfl
        | slot i =>
          unfold argD at q1
          simp only at q1
          cases q3 : (ρ[i]?).getD none with
          | none => rw [q3] at q1; cases q1
          | some o =>
            rw [q3] at q1
            cases o with
            | fz d' =>
              cases q1
              obtain ⟨v', ev, r⟩ := hr.get (getD_some q3)
              rw [show σ[i]? = some (some v) from r1] at ev; cases ev
              exact old _ r rfl
            | ins c fs => cases q1
            | lst l =>
              cases q1
              obtain ⟨v', ev, ro⟩ := er i _ (getD_some q3)
              rw [show σ[i]? = some (some v) from r1] at ev; cases ev
              cases ro with
              | @lst _ p ws _ u hp rl =>
                by_cases hz : Zp p = none
                · obtain ⟨L2, r2, l2⟩ := lend1 L hp hz (rl.mono L.le)
                  refine ⟨_, L2, .cons r2 (RelDs.mono rd l2), fun h => (nomatch h), fun q h => ?_⟩
                  by_cases hqp : q = p
                  · subst hqp; exact ⟨i, l, u, getD_some q3, r1, updZ_same⟩
                  · rw [updZ_ne hqp] at h ⊢
                    exact hq q h
                · have hz' : Zp p ≠ Z p := by rw [uok.z p _ u]; exact hz
                  obtain ⟨j, l', u', e', s', z'⟩ := hq p hz'
                  rw [u] at u'; cases u'
                  rw [getD_some q3] at e'; cases e'
                  exact ⟨Zp, L, .cons (.inl z') rd, fun h => (nomatch h), hq⟩
/-- a step with what is lent -/
def withA (as : List Arg) (g : List D → Option D) : M O := fun ρ => match argsD ρ as with
  | some (ds, b) => match g ds with
    | some f => if b && !okD f then .stuck else .ok (own f) ρ
    | none => .stuck
  | none => .stuck
def withC (as : List Arg) (n : Nat) (Fn : List O → FR) : M O := fun ρ => match argsD ρ as with
  | some (ds, b) => if ds.length = n then match Fn (ds.map .fz) with
    | .ok r _ => if b && !okO r then .stuck else .ok r ρ
    | .exc c _ => .exc c ρ
    | .stuck => .stuck
    else .stuck
  | none => .stuck
def tA1 (G : Gx) (W : WX) (m : M Arg) : TE := fun σ H Q => ∃ B Z ρ, Rl G B Z H σ ρ ∧ Wp G B W Z σ (m ρ) fun a ρ' => ∀ v Z' H', Rl G B Z' H' σ ρ' → RelA G Z' σ v a → Le Z Z' → Q v H'
def tAA (G : Gx) (W : WX) (m : M (List Arg)) : TA := fun σ H Q => ∃ B Z ρ, Rl G B Z H σ ρ ∧ Wp G B W Z σ (m ρ) fun as ρ' => ∀ vs Z' H', Rl G B Z' H' σ ρ' → RelAs G Z' σ vs as → Le Z Z' → Q vs H'
theorem pe_dat {m : M D} (h : PE X e (tE G W m)) : PE X e (tA1 G W (bnd m fun d => ret (.dat d))) := PE.imp h fun σ H Q ⟨B, Z, ρ, hr, hw⟩ =>
  ⟨B, Z, ρ, hr, hw.bnd.mono (Le.refl _) fun d ρ1 h1 v Z1 H1 r1 d1 l1 => h1 v Z1 H1 r1 d1 l1⟩
def brwM (i : Nat) : M Arg := fun ρ => match (ρ[i]?).getD none with
  | some _ => .ok (.slot i) ρ
  | none => .stuck
theorem pe_brw {i : Nat} (h : PE X e (tVar i)) : PE X e (tA1 G W (brwM i)) := PE.imp h fun σ H Q ⟨B, Z, ρ, hr, hw⟩ => by
  unfold brwM at hw
  cases q : (ρ[i]?).getD none with
  | none => rw [q] at hw; exact hw.elim
  | some o =>
    rw [q] at hw
    obtain ⟨U, uok, er⟩ := hr.env
    obtain ⟨v, ev, _⟩ := er i o (getD_some q)
    exact ⟨v, ev, hw v Z H hr ev (Le.refl _)⟩
theorem pa_nilA : PA X [] (tAA G W (ret [])) := PA.imp pa_nil fun σ H Q ⟨B, Z, ρ, hr, hw⟩ => hw [] Z H hr .nil (Le.refl _)
theorem pa_consA {m : M Arg} {ms : M (List Arg)} (ha : PE X e (tA1 G W m)) (hr : PA X es (tAA G W ms)) (hs : starEach (e :: es) X.env = (false, eval e X.env) :: starEach es X.env) :
    PA X (e :: es) (tAA G W (bnd m fun d => bnd ms fun ds => ret (d :: ds))) := PA.imp (pa_cons ha hr hs) fun σ H Q ⟨B, Z, ρ, hr, hw⟩ => by
  refine ⟨B, Z, ρ, hr, hw.bnd.mono (Le.refl _) fun d ρ1 h1 v1 Z1 H1 r1 d1 l1 => ?_⟩
  refine ⟨B, Z1, ρ1, r1, h1.bnd.mono l1 fun ds ρ2 h2 vs Z2 H2 r2 d2 l2 => ?_⟩
  exact h2 (v1 :: vs) Z2 H2 r2 (.cons (d1.mono l2) d2) (l1.trans l2)
/-- the end of a step -/
theorem endA {as : List Arg} {vs : List V} {g : List D → Option D} {Q : VK} {Z0 : Addr → Option D} (hr : Rl G B Z H σ ρ) (ra : RelAs G Z σ vs as) (l0 : Le Z0 Z) (h : Wp G B W Z0 σ (withA as g ρ) fun o ρ' => ∀ v Z' H', RlR G B Z' H' σ ρ' v o → Le Z0 Z' → Q v H') :
    ∃ Zp ds f, ZOk G Zp H ∧ RelDs G Zp vs ds ∧ g ds = some f ∧ ∀ v Z' H', NewR G Zp H Z' H' v (own f) → Q v H' := by
  unfold withA at h
  cases q1 : argsD ρ as with
  | none => rw [q1] at h; exact h.elim
  | some p =>
    obtain ⟨ds, b⟩ := p
    rw [q1] at h
    simp only at h
    cases q2 : g ds with
    | none => rw [q2] at h; exact h.elim
    | some f =>
      rw [q2] at h
      simp only at h
      obtain ⟨Zp, L, rd, hb⟩ := lend hr ra q1
      refine ⟨Zp, ds, f, L.zok, rd, q2, fun v Z' H' n => ?_⟩
      cases b with
      | false =>
        have := hb rfl; subst this
        exact h v Z' H' (hr.new n) (l0.trans (n.ext.le hr.zok))
      | true =>
        by_cases ho : okD f = true
        · rw [ho] at h
          obtain ⟨Z2, n2, l2⟩ := n.back hr.zok L.back (okO_own ho)
          exact h v Z2 H' (hr.new n2) (l0.trans l2)
        · rw [Bool.not_eq_true] at ho; rw [ho] at h; exact h.elim
theorem args_ownA {ms : M (List Arg)} {r : List V → Hp → VK → Prop} {g : List D → Option D} (hg : CompatL G r g) : ∀ σ H Q, tO G W (bnd ms fun as => withA as g) σ H Q → tCB r (tAA G W ms) σ H Q := by
  rintro σ H Q ⟨B, Z, ρ, hr, hw⟩
  refine ⟨B, Z, ρ, hr, hw.bnd.mono (Le.refl _) fun as ρ1 h1 vs Z1 H1 r1 d1 l1 => ?_⟩
  obtain ⟨Zp, ds, f, zok, rd, ef, hf⟩ := endA r1 d1 l1 h1
  exact hg Zp H1 vs ds f Q zok rd ef hf
theorem un2_inv {g : D → D → Option D} {ds : List D} {f : D} (h : un2 g ds = some f) : ∃ d d', ds = [d, d'] ∧ g d d' = some f := by
  match ds, h with
  | [d, d'], h => exact ⟨d, d', rfl, h⟩
theorem un1_inv {g : D → Option D} {ds : List D} {f : D} (h : un1 g ds = some f) : ∃ d, ds = [d] ∧ g d = some f := by
  match ds, h with
  | [d], h => exact ⟨d, rfl, h⟩
theorem two_ownA {ma mb : M Arg} {r : R2} {g : D → D → Option D} (hg : Compat2 G r g) : ∀ σ H Q, tO G W (bnd ma fun x => bnd mb fun y => withA [x, y] (un2 g)) σ H Q → tOp r (tA1 G W ma) (tA1 G W mb) σ H Q := by
  rintro σ H Q ⟨B, Z, ρ, hr, hw⟩
  refine ⟨B, Z, ρ, hr, hw.bnd.mono (Le.refl _) fun d ρ1 h1 v1 Z1 H1 r1 d1 l1 => ?_⟩
  refine ⟨B, Z1, ρ1, r1, h1.bnd.mono l1 fun d' ρ2 h2 v2 Z2 H2 r2 d2 l2 => ?_⟩
  obtain ⟨Zp, ds, f, zok, rd, ef, hf⟩ := endA (vs := [v1, v2]) r2 (.cons (d1.mono l2) (.cons d2 .nil)) (l1.trans l2) h2
  obtain ⟨x, y, rfl, ef⟩ := un2_inv ef
  obtain ⟨w1, w2, e, q1, q2⟩ := RelDs.two rd
  cases e
  exact hg Zp H2 v1 v2 x y f Q zok q1 q2 ef hf
theorem args_callA {ms : M (List Arg)} {Fn : List O → FR} {n : Nat} : ∀ σ H Q, tO G W (bnd ms fun as => withC as n Fn) σ H Q → tCallS (spF G Fn n) (WE W) (tAA G W ms) σ H Q := by
  rintro σ H Q ⟨B, Z, ρ, hr, hw⟩
  refine ⟨B, Z, ρ, hr, hw.bnd.mono (Le.refl _) fun as ρ1 h1 vs Z1 H1 r1 d1 l1 => ?_⟩
  unfold withC at h1
  cases q1 : argsD ρ1 as with
  | none => rw [q1] at h1; exact h1.elim
  | some p =>
    obtain ⟨ds, b⟩ := p
    rw [q1] at h1
    simp only at h1
    obtain ⟨Zp, L, rd, hb⟩ := lend r1 d1 q1
    by_cases hn : ds.length = n
    · rw [if_pos hn] at h1
      refine ⟨Zp, ds, L.zok, rd, hn, ?_⟩
      cases q : Fn (ds.map .fz) with
      | ok r s =>
        rw [q] at h1
        simp only at h1
        intro v Z' H' n
        cases b with
        | false =>
          have := hb rfl; subst this
          exact h1 v Z' H' (r1.new n) (l1.trans (n.ext.le r1.zok))
        | true =>
          by_cases ho : okO r = true
          · rw [ho] at h1
            obtain ⟨Z2, n2, l2⟩ := n.back r1.zok L.back ho
            exact h1 v Z2 H' (r1.new n2) (l1.trans l2)
          · rw [Bool.not_eq_true] at ho; rw [ho] at h1; exact h1.elim
      | exc c s =>
        rw [q] at h1
        intro Z' H' e z
        obtain ⟨Z2, n2, l2⟩ := (NewR.of_fz (G := G) (v := .non) (d := .non) e z trivial).back r1.zok L.back rfl
        exact h1 Z2 H' (r1.new n2).rl (l1.trans l2)
      | stuck => rw [q] at h1; exact h1
    · rw [if_neg hn] at h1; exact h1.elim
/-- a op b -/
theorem pe_binA {op : Operator} {ma mb : M Arg} {r : R2} {g : D → D → Option D} (ho : OpR X (binaryOp op) r) (hg : Compat2 G r g) (ha : PE X a (tA1 G W ma)) (hb : PE X b (tA1 G W mb)) :
    PE X (.BinOp a op b pos) (tO G W (bnd ma fun x => bnd mb fun y => withA [x, y] (un2 g))) := PE.imp (pe_op ho ha hb) (two_ownA hg)
theorem pe_cmpA {op : CmpOp} {ma mb : M Arg} {r : R2} {g : D → D → Option D} (ho : OpR X (compareOp op) r) (hg : Compat2 G r g) (hm : behindInMarks op b = false) (ha : PE X a (tA1 G W ma)) (hb : PE X b (tA1 G W mb)) :
    PE X (.Compare a [op] [b] pos) (tO G W (bnd ma fun x => bnd mb fun y => withA [x, y] (un2 g))) := PE.imp (pe_cmpR ho ha hb hm) (two_ownA hg)
theorem pt_cmpA {op : CmpOp} {ma mb : M Arg} {r : R2} {g : D → D → Option D} (kok : KOk G) (ho : OpR X (compareOp op) r) (hg : Compat2 G r g) (hm : behindInMarks op b = false) (ha : PE X a (tA1 G W ma)) (hb : PE X b (tA1 G W mb)) :
    PT X (.Compare a [op] [b] pos) (tB G W (bnd (bnd ma fun x => bnd mb fun y => withA [x, y] (un2 g)) fun o => bnd (frzM o) asB)) := pt_of_o (pt_cmpR ho ha hb hm) kok (two_ownA hg)
/-- a[b] -/
def idxA (x y : Arg) : M O := fun ρ => match argD ρ x, argD ρ y with
  | some (d, _), some (e, _) => match idxG d e with
    | some f => .ok (.fz f) ρ
    | none => .stuck
  | _, _ => .stuck
theorem pe_idxA {ma mb : M Arg} (kok : KOk G) (hk : X.K = G.K) (hs : PlainIx b) (ha : PE X a (tA1 G W ma)) (hb : PE X b (tA1 G W mb)) :
    PE X (.Subscript a b pos) (tO G W (bnd ma fun x => bnd mb fun y => idxA x y)) := PE.imp (pe_ix ix_seq ha hb hs) fun σ H Q ⟨B, Z, ρ, hr, hw⟩ => by
  refine ⟨B, Z, ρ, hr, hw.bnd.mono (Le.refl _) fun x ρ1 h1 v1 Z1 H1 r1 d1 l1 => ?_⟩
  refine ⟨B, Z1, ρ1, r1, h1.bnd.mono l1 fun y ρ2 h2 v2 Z2 H2 r2 d2 l2 => ?_⟩
  have d1 := d1.mono l2
  have l2 := l1.trans l2
  unfold idxA at h2
  cases qx : argD ρ2 x with
  | none => rw [qx] at h2; exact h2.elim
  | some px =>
    obtain ⟨d, bx⟩ := px
    cases qy : argD ρ2 y with
    | none => rw [qx, qy] at h2; exact h2.elim
    | some py =>
      obtain ⟨e, bY⟩ := py
      rw [qx, qy] at h2
      simp only at h2
      cases qf : idxG d e with
      | none => rw [qf] at h2; exact h2.elim
      | some f =>
        rw [qf] at h2
        -- the index
        have ry : RelD G Z2 v2 e := by
          cases y with
          | dat e' => cases qy; exact d2
          | slot j =>
            unfold argD at qy
            simp only at qy
            cases q : (ρ2[j]?).getD none with
            | none => rw [q] at qy; cases qy
            | some o =>
              rw [q] at qy
              cases o with
              | fz e' =>
                cases qy
                obtain ⟨v', ev, r⟩ := r2.get (getD_some q)
                rw [show σ[j]? = some (some v2) from d2] at ev; cases ev; exact r
              | lst l => cases qy; cases d <;> cases qf
              | ins c fs => cases qy
        have old : RelD G Z2 v1 d → rIx X.K v1 v2 H2 Q := fun rx => by
          rw [hk]
          exact idxG_ok kok Z2 H2 v1 v2 d e f Q r2.zok rx ry qf fun v rv => h2 v Z2 H2 (r2.fz rv) l2
        cases x with
        | dat d' => cases qx; exact old d1
        | slot i =>
          unfold argD at qx
          simp only at qx
          cases q : (ρ2[i]?).getD none with
          | none => rw [q] at qx; cases qx
          | some o =>
            rw [q] at qx
            cases o with
            | fz d' =>
              cases qx
              obtain ⟨v', ev, r⟩ := r2.get (getD_some q)
              rw [show σ[i]? = some (some v1) from d1] at ev; cases ev; exact old r
            | ins c fs => cases qx
            | lst l =>
              cases qx
              obtain ⟨U, uok, er⟩ := r2.env
              obtain ⟨v', ev, ro⟩ := er i _ (getD_some q)
              rw [show σ[i]? = some (some v1) from d1] at ev; cases ev
              cases ro with
              | @lst _ p ws _ u hp rl =>
                cases e with
                | int k =>
                  have ek : atI l k = some f := qf
                  obtain ⟨v, e2, rv⟩ := rl.atI ek
                  cases ry.int_inv r2.zok kok
                  exact .inl ⟨p, ws, k, v, rfl, rfl, SqL.of hp, e2, h2 v Z2 H2 (r2.fz rv) l2⟩
                | _ => cases qf
/-- a as a test -/
def truA (x : Arg) : M Bool := fun ρ => match argD ρ x with
  | some (d, _) => match truD d with
    | some k => .ok k ρ
    | none => .stuck
  | none => .stuck
theorem pt_truA {m : M Arg} (kok : KOk G) (h : PE X e (tA1 G W m)) (he : ∀ whole, isTrue e X.env whole = (do let v ← whole; standAt e.pos; holding [v] (truthy v))) (hk : X.K = G.K) : PT X e (tB G W (bnd m truA)) :=
  PT.imp (pt_truth h he) fun σ H Q ⟨B, Z, ρ, hr, hw⟩ => ⟨B, Z, ρ, hr, hw.bnd.mono (Le.refl _) fun a ρ1 h1 v1 Z1 H1 r1 d1 l1 => by
    unfold truA at h1
    cases q : argD ρ1 a with
    | none => rw [q] at h1; exact h1.elim
    | some p =>
      obtain ⟨d, b⟩ := p
      rw [q] at h1
      simp only at h1
      cases q2 : truD d with
      | none => rw [q2] at h1; exact h1.elim
      | some k =>
        rw [q2] at h1
        have qq : argsD ρ1 [a] = some ([d], b) := by unfold argsD; rw [q]; simp [argsD]
        obtain ⟨Zp, L, rd, _⟩ := lend r1 (.cons d1 .nil) qq
        obtain ⟨w, e, rw1⟩ := RelDs.one rd
        cases e
        exact ⟨k, by rw [hk]; exact tru_ok' L.zok kok rw1 q2, h1 Z1 H1 r1 l1⟩⟩
end
end FW
set_option Elab.async false
set_option linter.all false
set_option maxRecDepth 100000
/-! FW10: the core tongue and its meaning -/
namespace FW
open PySem PySem.Spec L2

inductive B2 where
  | add | sub | mul | fdiv | mod | pow
  deriving DecidableEq
inductive C2 where
  | eq | ne | lt | le | gt | ge | isN | notN | inn | nin
  deriving DecidableEq
inductive BI where
  | len | int | str | abs | max2 | min2 | maxL | minL | sum | all | any | list | tuple | ord
  deriving DecidableEq
inductive MI where
  | split | part | join
  deriving DecidableEq
mutual
inductive CE where
  | cst (d : D) | var (i : Nat) | mv (i : Nat) | brw (i : Nat)
  | bin (o : B2) (a b : CE) | neg (a : CE) | cmp (o : C2) (a b : CE) | chn (o o' : C2) (a b c : CE)
  | and (a b : CE) | or (a b : CE) | not (a : CE) | ite (t : CT) (a b : CE)
  | call (f n : Nat) (as : CEs) | bi (b : BI) (as : CEs) | isi (T : String) (a : CE) | mth (m : MI) (a : CE) (as : CEs)
  | tup (as : CEs) | lst (as : CEs) | idx (a i : CE) | slc (a : CE) (lo hi : CO) | rev (a : CE)
  | comp (own : List (Str × Nat)) (it : CI) (tg : Tg) (t : CT) (e : CE)
  | fmt (a : CE) | fstr (as : CEs)
inductive CEs where
  | nil | cons (a : CE) (as : CEs)
inductive CO where
  | none | some (a : CE)
inductive CT where
  | val (a : CE) | cmp (o : C2) (a b : CE) | chn (o o' : C2) (a b c : CE) | and (a b : CT) | or (a b : CT) | not (a : CT) | yes
inductive CI where
  | seq (a : CE) | rng (n : Nat) (as : CEs) | enum (as : CEs) | zip (as : CEs)
end
inductive CS where
  | nil | pass | brk | cnt | seq (a b : CS)
  | expr (a : CE) | ret (a : CE) | retN | set (i : Nat) (a : CE) | setF (i : Nat) (a : CE) | unp (tg : Tg) (a : CE) | par (i j : Nat) (as : CEs) | aug (o : B2) (i : Nat) (a : CE)
  | ite (t : CT) (a b : CS) | whl (t : CT) (b : CS) | for_ (tg : Tg) (it : CI) (b : CS) | raise (c : Nat)
  | try1 (b : CS) (c : Nat) (h : CS) | app (i : Nat) (a : CE) | put (i : Nat) (k a : CE)

def b2G : B2 → D → D → Option D
  | .add => addG | .sub => subG | .mul => mulG | .fdiv => fdivG | .mod => modG | .pow => powG
def c2G : C2 → D → D → Option D
  | .eq => eqG | .ne => neG | .lt => ltG | .le => leG | .gt => gtG | .ge => geG | .isN => isNG | .notN => isNotNG | .inn => inG | .nin => notInG
/-- x op= e, of ints -/
def iG : B2 → D → D → Option D
  | .add => intG (fun _ _ => true) (· + ·)
  | .sub => subG
  | _ => fun _ _ => none
def biG : BI → List D → Option D
  | .len => un1 lenG | .int => un1 intG1 | .str => un1 strG1 | .abs => un1 absG | .max2 => un2 (mm2 maxI) | .min2 => un2 (mm2 minI) | .maxL => un1 (onInts foldMax) | .minL => un1 (onInts foldMin)
  | .sum => un1 (onInts fun ns => some ns.sum) | .all => un1 (onBls fun bs => bs.all id) | .any => un1 (onBls fun bs => bs.any id) | .list => un1 listG | .tuple => un1 tupleG | .ord => un1 ordG
def miT : MI → String
  | .split => "str" | .part => "str" | .join => "str"
def miG : MI → D → List D → Option D
  | .split => mS1 splitG | .part => mS1 partG | .join => mS1 joinG
/-- an argument: lent, or its value -/
def argOf (c : CE) (m : M O) : M Arg := match c with
  | .brw i => brwM i
  | _ => bnd (bnd m frzM) fun d => ret (.dat d)
def datsM : List Arg → M (List D)
  | [] => ret []
  | .dat d :: as => bnd (datsM as) fun ds => ret (d :: ds)
  | .slot _ :: _ => stk
def headG (g : D → List D → Option D) : List D → Option D
  | d :: ds => g d ds
  | [] => none
def methA (T : String) (m : M D) (ms : M (List Arg)) (g : D → List D → Option D) : M O := bnd m fun d => if tyOk T d then bnd ms fun as => withA (.dat d :: as) (headG g) else stk
abbrev Fi := Nat → List O → FR
mutual
/-- what an expression gives: a new list is one's own -/
def semO (F : Fi) : CE → M O
  | .cst d => ret (.fz d)
  | .var i => fzM (rdv i)
  | .mv i => mvv i
  | .brw _ => stk
  | .bin o a b => bnd (argOf a (semO F a)) fun x => bnd (argOf b (semO F b)) fun y => withA [x, y] (un2 (b2G o))
  | .neg a => bnd (bnd (semO F a) frzM) fun x => ownM (negG x)
  | .cmp o a b => bnd (argOf a (semO F a)) fun x => bnd (argOf b (semO F b)) fun y => withA [x, y] (un2 (c2G o))
  | .chn o o' a b c => chainM (bnd (semO F a) frzM) (bnd (semO F b) frzM) (bnd (semO F c) frzM) (c2G o) (c2G o')
  | .and a b => andV (semO F a) (semO F b)
  | .or a b => orV (semO F a) (semO F b)
  | .not a => bnd (bnd (semO F a) frzM) fun x => ownM (notV x)
  | .ite t a b => iteM (semT F t) (semO F a) (semO F b)
  | .call f n as => bnd (semEs F as) fun xs => withC xs n (F f)
  | .bi b as => bnd (semEs F as) fun xs => withA xs (biG b)
  | .isi T a => bnd (argOf a (semO F a)) fun x => withA [x] (un1 (isiG T))
  | .mth m a as => methA (miT m) (bnd (semO F a) frzM) (semEs F as) (miG m)
  | .tup as => bnd (bnd (semEs F as) datsM) tupM
  | .lst as => bnd (bnd (semEs F as) datsM) lstM
  | .idx a i => bnd (argOf a (semO F a)) fun x => bnd (argOf i (semO F i)) fun y => idxA x y
  | .slc a lo hi => bnd (argOf a (semO F a)) fun x => bnd (semOp F lo) fun l => bnd (semOp F hi) fun u => withA [x] (un1 fun d => slcG d l u)
  | .rev a => bnd (argOf a (semO F a)) fun x => withA [x] (un1 revG)
  | .comp own it tg t e => compM (own.map (·.2)) (semI F it) (tgM tg) (semT F t) (bnd (semO F e) frzM)
  | .fmt a => bnd (bnd (semO F a) frzM) fun d => ownM (fmtG d)
  | .fstr as => joinParts (semPs F as) []
def semEs (F : Fi) : CEs → M (List Arg)
  | .nil => ret []
  | .cons a as => bnd (argOf a (semO F a)) fun d => bnd (semEs F as) fun ds => ret (d :: ds)
def semPs (F : Fi) : CEs → List (M D)
  | .nil => []
  | .cons a as => bnd (semO F a) frzM :: semPs F as
def semOp (F : Fi) : CO → M (Option Int)
  | .none => ret none
  | .some a => bnd (bnd (semO F a) frzM) asI
def semT (F : Fi) : CT → M Bool
  | .val a => bnd (argOf a (semO F a)) truA
  | .cmp o a b => bnd (bnd (argOf a (semO F a)) fun x => bnd (argOf b (semO F b)) fun y => withA [x, y] (un2 (c2G o))) fun o => bnd (frzM o) asB
  | .chn o o' a b c => bnd (chainM (bnd (semO F a) frzM) (bnd (semO F b) frzM) (bnd (semO F c) frzM) (c2G o) (c2G o')) fun o => bnd (frzM o) asB
  | .and a b => andM (semT F a) (semT F b)
  | .or a b => orM (semT F a) (semT F b)
  | .not a => bnd (semT F a) fun k => ret (!k)
  | .yes => ret true
def semI (F : Fi) : CI → M (List D)
  | .seq a => bnd (bnd (semO F a) frzM) fun d => ofOpt (itemsD d)
  | .rng n as => bnd (bnd (semEs F as) datsM) fun ds => ofOpt (rngM n ds)
  | .enum as => bnd (bnd (semEs F as) datsM) fun ds => ofOpt (enumG ds)
  | .zip as => bnd (bnd (semEs F as) datsM) fun ds => ofOpt (zipG ds)
end
/-- what a statement does; tk c c': does class c' take an error of class c; at most fuel turns of a while -/
def semS (F : Fi) (tk : Nat → Nat → Option Bool) (fuel : Nat) : CS → M Fl
  | .nil => ret .nx
  | .pass => ret .nx
  | .brk => ret .bk
  | .cnt => ret .ct
  | .seq a b => seqM (semS F tk fuel a) (semS F tk fuel b)
  | .expr a => bnd (semO F a) fun _ => ret .nx
  | .ret a => bnd (semO F a) fun o => ret (.rt o)
  | .retN => ret (.rt (.fz .non))
  | .set i a => bnd (semO F a) (putM i)
  | .setF i a => bnd (fzM (bnd (semO F a) frzM)) (putM i)
  | .unp tg a => bnd (bnd (semO F a) frzM) fun d => fun ρ => match tgM tg d ρ with | .ok _ ρ' => .ok .nx ρ' | _ => .stuck
  | .par i j as => bnd (bnd (semEs F as) datsM) fun ds => match ds with
      | [d, d'] => fun ρ => .ok .nx ((ρ.set i (some (.fz d))).set j (some (.fz d')))
      | _ => stk
  | .aug o i a => augM i (bnd (semO F a) frzM) (iG o)
  | .ite t a b => iteM (semT F t) (semS F tk fuel a) (semS F tk fuel b)
  | .whl t b => whileM (semT F t) (semS F tk fuel b) fuel
  | .for_ tg it b => bnd (semI F it) fun ds => forM' (tgM tg) (semS F tk fuel b) ds
  | .raise c => fun ρ => .exc c ρ
  | .try1 b c h => tryS (semS F tk fuel b) (fun c' => tk c' c) (semS F tk fuel h)
  | .app i a => appS i (bnd (semO F a) frzM)
  | .put i k a => putS i (bnd (semO F a) frzM) (bnd (semO F k) frzM)
/-- a def: how many parameters, how many names, its body -/
structure CD where
  np : Nat
  nn : Nat
  body : CS
def frOf (r : R Fl) : FR := match r with
  | .ok (.rt o) ρ => .ok o ((ρ[0]?).getD none)
  | .ok .nx ρ => .ok (.fz .non) ((ρ[0]?).getD none)
  | .exc c ρ => .exc c ((ρ[0]?).getD none)
  | _ => .stuck
def env0 (nn : Nat) (os : List O) : En := os.map some ++ List.replicate (nn - os.length) none
def runD (F : Fi) (tk : Nat → Nat → Option Bool) (fuel : Nat) (d : CD) (os : List O) : FR := frOf (semS F tk fuel d.body (env0 d.nn os))
/-- the table of a text's defs, calls nested at most n deep -/
def runF (defs : List CD) (tk : Nat → Nat → Option Bool) (fuel : Nat) : Nat → Fi
  | 0 => fun _ _ => .stuck
  | n + 1 => fun f os => match defs[f]? with
    | some d => runD (runF defs tk fuel n) tk fuel d os
    | none => .stuck

section
variable {G : Gx} {W : WX} {B : Bs} {X : Cx} {e a b c : Expr} {es rest : List Expr} {pos : Pos} {Z Zp Z' : Addr → Option D} {H H' : Hp} {σ : L2.St} {ρ : En} {v : V} {o : O}
theorem dats_rel {as : List Arg} {ds : List D} {ρ' : En} {vs : List V} (h : datsM as ρ = .ok ds ρ') (r : RelAs G Z σ vs as) : ρ' = ρ ∧ RelDs G Z vs ds := by
  induction r generalizing ds ρ ρ' with
  | nil => cases h; exact ⟨rfl, .nil⟩
  | @cons v a vs as r1 rr ih =>
    cases a with
    | slot i => cases h
    | dat d =>
      obtain ⟨ds2, ρ1, h1, h2⟩ := bnd_inv (f := fun ds => ret (d :: ds)) h
      cases h2
      obtain ⟨rfl, r⟩ := ih h1
      exact ⟨rfl, .cons r1 r⟩
theorem dats_exc {as : List Arg} {c : Nat} {ρ' : En} : datsM as ρ ≠ .exc c ρ' := by
  induction as generalizing ρ c ρ' with
  | nil => intro h; cases h
  | cons a as ih =>
    cases a with
    | slot i => intro h; cases h
    | dat d =>
      intro h
      have h : bnd (datsM as) (fun ds => ret (d :: ds)) ρ = .exc c ρ' := h
      unfold bnd at h
      cases q : datsM as ρ with
      | ok x ρ1 => rw [q] at h; cases h
      | exc c1 ρ1 => exact ih q
      | stuck => rw [q] at h; cases h
theorem pa_dats {ms : M (List Arg)} (h : PA X es (tAA G W ms)) : PA X es (tAs G W (bnd ms datsM)) := PA.imp h fun σ H Q ⟨B, Z, ρ, hr, hw⟩ =>
  ⟨B, Z, ρ, hr, hw.bnd.mono (Le.refl _) fun as ρ1 h1 vs Z1 H1 r1 d1 l1 => by
    cases q : datsM as ρ1 with
    | stuck => rw [q] at h1; exact h1.elim
    | exc c ρ2 => exact absurd q dats_exc
    | ok ds ρ2 =>
      rw [q] at h1
      obtain ⟨rfl, rd⟩ := dats_rel q d1
      exact h1 vs Z1 H1 r1 rd l1⟩
theorem methA_to {T : String} {m : M D} {ms : M (List Arg)} {r : V → List V → Hp → VK → Prop} {g : D → List D → Option D} (kok : KOk G) (hg : CompatM G r g) : ∀ σ H Q, tO G W (methA T m ms g) σ H Q → tBM G.K T r (tE G W m) (tAA G W ms) σ H Q := by
  rintro σ H Q ⟨B, Z, ρ, hr, hw⟩
  refine ⟨B, Z, ρ, hr, hw.bnd.mono (Le.refl _) fun d ρ1 h1 v1 Z1 H1 r1 d1 l1 => ?_⟩
  by_cases ht : tyOk T d = true
  · rw [if_pos ht] at h1
    refine ⟨tyOk_ok kok r1.zok d1 ht, B, Z1, ρ1, r1, h1.bnd.mono l1 fun as ρ2 h2 vs Z2 H2 r2 d2 l2 => ?_⟩
    obtain ⟨Zp, ds, f, zok, rd, ef, hf⟩ := endA (as := .dat d :: as) (vs := v1 :: vs) r2 (.cons (show RelA G Z2 σ v1 (.dat d) from d1.mono l2) d2) (l1.trans l2) h2
    cases rd with
    | @cons _ x _ xs q1 q2 => exact hg Zp H2 v1 vs x xs f Q zok q1 q2 ef hf
  · rw [if_neg ht] at h1; exact h1.elim
theorem meth_toA0 {T : String} {m : M D} {r : V → List V → Hp → VK → Prop} {g : D → List D → Option D} (kok : KOk G) (hg : CompatM G r g) : ∀ σ H Q, tO G W (methA T m (ret []) g) σ H Q → tBM0 G.K T r (tE G W m) σ H Q := by
  rintro σ H Q ⟨B, Z, ρ, hr, hw⟩
  refine ⟨B, Z, ρ, hr, hw.bnd.mono (Le.refl _) fun d ρ1 h1 v1 Z1 H1 r1 d1 l1 => ?_⟩
  by_cases ht : tyOk T d = true
  · rw [if_pos ht] at h1
    refine ⟨tyOk_ok kok r1.zok d1 ht, ?_⟩
    have h2 : Wp G B W Z σ (withA [.dat d] (headG g) ρ1) _ := h1
    obtain ⟨Zp, ds, f, zok, rd, ef, hf⟩ := endA (as := [.dat d]) (vs := [v1]) r1 (.cons (show RelA G Z1 σ v1 (.dat d) from d1) .nil) l1 h2
    cases rd with
    | @cons _ x _ xs q1 q2 =>
      cases q2
      exact hg Zp H1 v1 [] x [] f Q zok q1 .nil ef hf
  · rw [if_neg ht] at h1; exact h1.elim
theorem pe_isiA {m : M Arg} {T : Str} {Tn : String} {p p2 : Pos} (kok : KOk G) (hk : X.K = G.K) (hg : Gl X "isinstance") (hm : X.mg "isinstance" = none) (hgT : Gl X T) (hmT : X.mg T = none) (hvT : bootBuiltins T = some (.type Tn)) (hnT : T ≠ "__name__") (hdT : (T == ("__debug__" : Str)) = false)
    (h : PE X a (tA1 G W m)) (hs : starEach [a, .Name T p2] X.env = (false, eval a X.env) :: starEach [.Name T p2] X.env) :
    PE X (.Call (.Name "isinstance" p) [a, .Name T p2] [] pos) (tO G W (bnd m fun x => withA [x] (un1 (isiG Tn)))) := by
  refine PE.imp (pe_callB (t := tCons (tA1 G W m) (tCons (tC (.ty Tn)) tNil)) call_isi hg hm (by decide +kernel) (pa_cons h (pa_cons (pe_bltn hgT hmT hvT rfl hnT hdT) pa_nil) hs) (by decide) (by decide) hs rfl) fun σ H Q ⟨B, Z, ρ, hr, hw⟩ =>
    ⟨B, Z, ρ, hr, hw.bnd.mono (Le.refl _) fun d ρ1 h1 v1 Z1 H1 r1 d1 l1 => ?_⟩
  obtain ⟨Zp, ds, f, zok, rd, ef, hf⟩ := endA (vs := [v1]) r1 (.cons d1 .nil) l1 h1
  obtain ⟨x, rfl, ef⟩ := un1_inv ef
  obtain ⟨w, e, q1⟩ := RelDs.one rd
  cases e
  have ef : (tyName x).bind (fun n => (kitB n Tn).map .bl) = some f := ef
  cases q : tyName x with
  | none => rw [q] at ef; cases ef
  | some n =>
    rw [q] at ef
    have ef : (kitB n Tn).map D.bl = some f := ef
    cases q2 : kitB n Tn with
    | none => rw [q2] at ef; cases ef
    | some k =>
      rw [q2] at ef; cases ef
      rw [hk]
      exact ⟨v1, .ty Tn, .type n, .type Tn, k, rfl, .ty Tn, tyName_ok kok zok q1 q, kit_ty q2, hf _ Zp H1 (.old zok rfl)⟩
theorem pe_slcA {m : M Arg} {ml mh : M (Option Int)} {lo hi : Option Expr} {p2 : Pos} (kok : KOk G) (hk : X.K = G.K) (h : PE X a (tA1 G W m)) (hl : PO X lo (tOp' G W ml)) (hh : PO X hi (tOp' G W mh)) :
    PE X (.Subscript a (.Slice lo hi none p2) pos) (tO G W (bnd m fun x => bnd ml fun l => bnd mh fun u => withA [x] (un1 fun d => slcG d l u))) := PE.imp (pe_slice sl_any h hl hh) fun σ H Q ⟨B, Z, ρ, hr, hw⟩ => by
  refine ⟨B, Z, ρ, hr, hw.bnd.mono (Le.refl _) fun d ρ1 h1 v1 Z1 H1 r1 d1 l1 => ?_⟩
  refine ⟨B, Z1, ρ1, r1, h1.bnd.mono l1 fun o1 ρ2 h2 Z2 H2 r2 l2 => ?_⟩
  refine ⟨B, Z2, ρ2, r2, h2.bnd.mono (l1.trans l2) fun o2 ρ3 h3 Z3 H3 r3 l3 => ?_⟩
  obtain ⟨Zp, ds, f, zok, rd, ef, hf⟩ := endA (vs := [v1]) r3 (.cons (d1.mono (l2.trans l3)) .nil) (l1.trans (l2.trans l3)) h3
  obtain ⟨x, rfl, ef⟩ := un1_inv ef
  obtain ⟨w, e, q1⟩ := RelDs.one rd
  cases e
  rw [hk]
  exact slcG_ok kok zok q1 ef hf
theorem pe_revA {m : M Arg} {k : Nat} {p1 p2 p3 : Pos} (kok : KOk G) (hk : X.K = G.K) (h : PE X a (tA1 G W m)) : PE X (.Subscript a (.Slice none none (some (.UnaryOp .USub (.Constant (.int 1) k p1) p2)) p3) pos) (tO G W (bnd m fun x => withA [x] (un1 revG))) :=
  PE.imp (pe_revL h) fun σ H Q ⟨B, Z, ρ, hr, hw⟩ => ⟨B, Z, ρ, hr, hw.bnd.mono (Le.refl _) fun d ρ1 h1 v1 Z1 H1 r1 d1 l1 => by
  obtain ⟨Zp, ds, f, zok, rd, ef, hf⟩ := endA (vs := [v1]) r1 (.cons d1 .nil) l1 h1
  obtain ⟨x, rfl, ef⟩ := un1_inv ef
  obtain ⟨w, e, q1⟩ := RelDs.one rd
  cases e
  have ef : revG x = some f := ef
  cases x <;> try (cases ef; done)
  case lst l =>
    cases ef
    obtain ⟨p, vs, rfl, s, rd⟩ := q1.lst_inv zok kok
    exact ⟨p, vs, rfl, SqL.of s, fun u nu => hf _ _ _ (.lst zok nu rd.rev)⟩⟩
/-- stored as shared data -/
theorem setF_to {i : Nat} {m : M O} : ∀ Ds σ H, tS G W (bnd (fzM (bnd m frzM)) (putM i)) Ds σ H → tS G W (bnd m (putM i)) Ds σ H := fun Ds σ H ⟨B, Z, ρ, hr, hw⟩ => by
  refine ⟨B, Z, ρ, hr, ?_⟩
  unfold fzM bnd at hw
  unfold bnd
  cases q : m ρ with
  | stuck => simp only [q] at hw; exact hw
  | exc c ρ1 => simp only [q] at hw ⊢; exact hw
  | ok o ρ1 =>
    simp only [q] at hw ⊢
    unfold frzM at hw
    cases q2 : o.frz with
    | none => simp only [q2] at hw; exact hw.elim
    | some d =>
      simp only [q2] at hw
      intro σ' Z' H' r l
      have hw : WpS G B W Z (R.ok Fl.nx (ρ1.set i (some (.fz d)))) Ds := hw
      by_cases hi : i < ρ1.length
      · have e : rdv i (ρ1.set i (some o)) = .ok d (ρ1.set i (some (.fz d))) := by
          unfold rdv
          rw [List.getElem?_set_self hi]
          cases o with
          | fz d' => cases q2; rfl
          | lst l => cases q2; show R.ok _ ((ρ1.set i _).set i _) = _; rw [List.set_set]
          | ins c fs => cases q2
        obtain ⟨v, Z2, _, r2, _, l2⟩ := rd_slot r e
        exact hw σ' Z2 H' r2 (l.trans l2)
      · have e : ∀ x, ρ1.set i x = ρ1 := fun x => List.set_eq_of_length_le (by omega)
        rw [e] at r
        exact hw σ' Z' H' (by rw [e]; exact r) l
theorem pe_callA' {k : Nat} {f : Addr} {fd : FuncData} {ps : List Str} {Fn : List O → FR} {n : Nat} {x : Str} {p : Pos} {ms : M (List Arg)} (hk : X.K = G.K) (FO : FnOk X.prog X.w X.K X.mg X.base (L2.CX X.prog X.w) k f fd ps (spF G Fn n)) (hr : Room k X.A) (hg : Gl X x) (hm : X.mg x = some (.ref f))
    (hkp : PySem.W.keepIn X.K (.ref f) = true) (hb : Binds X.K fd ps []) (tk : Takes X W) (ha : PA X (e :: es) (tAA G W ms)) (hdb : (x == ("__debug__" : Str)) = false) (he : starEach (e :: es) X.env = (false, eval e X.env) :: starEach es X.env) (hpl : (backTo pos (starEach es X.env)).any (·.1) = false) :
    PE X (.Call (.Name x p) (e :: es) [] pos) (tO G W (bnd ms fun xs => withC xs n Fn)) := PE.imp (pe_callS FO hr hg hm hkp hb (fun σ => passAt tk σ) ha hdb he hpl) args_callA
theorem pe_call0A {k : Nat} {f : Addr} {fd : FuncData} {ps : List Str} {Fn : List O → FR} {n : Nat} {x : Str} {p : Pos} (FO : FnOk X.prog X.w X.K X.mg X.base (L2.CX X.prog X.w) k f fd ps (spF G Fn n)) (hr : Room k X.A) (hg : Gl X x) (hm : X.mg x = some (.ref f))
    (hkp : PySem.W.keepIn X.K (.ref f) = true) (hb : Binds X.K fd ps []) (tk : Takes X W) (hdb : (x == ("__debug__" : Str)) = false) :
    PE X (.Call (.Name x p) [] [] pos) (tO G W (bnd (ret []) fun xs => withC xs n Fn)) := by
  have h : PE X (.Call (.Name x p) [] [] pos) (tCallS (spF G Fn n) (WE W) tNil) := by
    refine ⟨fun pins s σ H Q I h => ?_⟩
    refine wpAny_Call_Name_kw (ld_glob I hg hm ?_ hdb)
    exact PySem.W.callWith_K0 I.kIn hkp (run_fnS (us := []) FO hr hb (passAt tk σ) I .nil h)
  exact PE.imp h fun σ H Q q => by
    have q' := args_callA (ms := ret []) (Fn := Fn) (n := n) σ H Q q
    obtain ⟨B, Z, ρ, hr, hw⟩ := q'
    exact hw [] Z H hr .nil (Le.refl _)
end
end FW
set_option Elab.async false
set_option linter.all false
set_option maxRecDepth 100000
/-! FW11: does a core term render an expression of the text? -/
namespace FW
open PySem PySem.Spec L2

mutual
def eqD : D → D → Bool
  | .non, .non => true
  | .bl a, .bl b => a == b
  | .int a, .int b => a == b
  | .str a, .str b => a == b
  | .tup a, .tup b => eqDs a b
  | .lst a, .lst b => eqDs a b
  | .scr a, .scr b => a == b
  | .dic a, .dic b => eqDD a b
  | _, _ => false
def eqDs : List D → List D → Bool
  | [], [] => true
  | a :: as, b :: bs => eqD a b && eqDs as bs
  | _, _ => false
def eqDD : List (D × D) → List (D × D) → Bool
  | [], [] => true
  | (a, b) :: as, (c, d) :: bs => eqD a c && eqD b d && eqDD as bs
  | _, _ => false
end
mutual
theorem eqD_ok : ∀ {a b : D}, eqD a b = true → a = b
  | .non, .non, _ => rfl
  | .bl a, .bl b, h => congrArg D.bl (beq_iff_eq.mp h)
  | .int a, .int b, h => congrArg D.int (beq_iff_eq.mp h)
  | .str a, .str b, h => congrArg D.str (beq_iff_eq.mp h)
  | .tup a, .tup b, h => congrArg D.tup (eqDs_ok h)
  | .lst a, .lst b, h => congrArg D.lst (eqDs_ok h)
  | .scr a, .scr b, h => congrArg D.scr (beq_iff_eq.mp h)
  | .dic a, .dic b, h => congrArg D.dic (eqDD_ok h)
theorem eqDs_ok : ∀ {a b : List D}, eqDs a b = true → a = b
  | [], [], _ => rfl
  | a :: as, b :: bs, h => by
    rw [eqDs, Bool.and_eq_true] at h
    rw [eqD_ok h.1, eqDs_ok h.2]
theorem eqDD_ok : ∀ {a b : List (D × D)}, eqDD a b = true → a = b
  | [], [], _ => rfl
  | (a, b) :: as, (c, d) :: bs, h => by
    rw [eqDD, Bool.and_eq_true, Bool.and_eq_true] at h
    rw [eqD_ok h.1.1, eqD_ok h.1.2, eqDD_ok h.2]
end

/-- a module's name -/
inductive GV where
  | fn (i n : Nat) | cst (d : D) | exc (c : Nat)
/-- where an expression stands: the def's names, its block's, the module's, the builtin ones that the module leaves alone -/
structure SC where
  N : List Str
  sc : Scope
  calm : Bool
  gl : List (Str × GV)
  fr : List Str
  fns : Option Scope := none
def fnS (s : Option Scope) (x : Str) : Bool := match s with
  | none => true
  | some s => s.names.lookup x == some .cell
structure XOk (G : Gx) (F : Fi) (C : SC) (X : Cx) : Prop where
  k : X.K = G.K
  kok : KOk G
  n : X.N = C.N
  nd : C.N.Nodup
  sc : X.env.scope = C.sc
  calm : C.calm = true → X.calm = true
  un : X.A.units + 65 < cLine
  fnl : ∀ x, fnS C.fns x = true → X.fn x = true
  fr : ∀ x, C.fr.contains x = true → X.mg x = none
  cst : ∀ x d, C.gl.lookup x = some (.cst d) → ∃ u v, X.mg x = some u ∧ RelV v u ∧ ∀ Z, RelD G Z v d
  fn : C.calm = true → ∀ x i n, C.gl.lookup x = some (.fn i n) → ∃ k f fd ps, FnOk X.prog X.w X.K X.mg X.base (L2.CX X.prog X.w) k f fd ps (spF G (F i) n) ∧ Room k X.A ∧ X.mg x = some (.ref f) ∧ PySem.W.keepIn X.K (.ref f) = true ∧ Binds X.K fd ps []
  exc : ∀ x c, C.gl.lookup x = some (.exc c) → X.mg x = some (.ref (G.cls c)) ∧ PySem.W.keepIn X.K (.ref (G.cls c)) = true ∧ PySem.W.subIn X.K (.ref (G.cls c)) (.type "BaseException") = some true ∧ PySem.W.typeIn X.K (.ref (G.cls c)) = some (.type "type") ∧
    ∃ (B newId initId : String) (bmB : List Value), ExcBaseFacts B newId initId bmB ∧ PySem.W.excIn X.K (G.cls c) bmB newId = true

/-! ### names -/
def kindB (C : SC) (x : Str) (k : NameKind) : Bool := C.sc.names.lookup x == some k
def visB (C : SC) (x : Str) : Bool := kindB C x .local || kindB C x .cell || kindB C x .free
def locB (C : SC) (x : Str) : Bool := kindB C x .local || (kindB C x .cell && fnS C.fns x)
def nmB (C : SC) (i : Nat) (x : Str) : Bool := C.N[i]? == some x && visB C x && !(x == ("__debug__" : Str)) && !(x == ("__classdict__" : Str))
def glB (C : SC) (x : Str) : Bool := kindB C x .globalImplicit && !(x == ("__debug__" : Str))
def frB (C : SC) (x : Str) : Bool := glB C x && C.fr.contains x
section
variable {G : Gx} {F : Fi} {C : SC} {W : WX} {X : Cx} {e a b c : Expr} {es rest : List Expr} {pos : Pos} {x : Str} {i : Nat}
theorem kindB_ok {k : NameKind} (h : kindB C x k = true) : C.sc.names.lookup x = some k := beq_iff_eq.mp h
theorem vis_ok (hx : XOk G F C X) (h : visB C x = true) : Vis X.env.scope x := by
  unfold visB at h
  simp only [Bool.or_eq_true] at h
  unfold Vis
  rw [hx.sc]
  rcases h with (h | h) | h
  · exact .inl (kindB_ok h)
  · exact .inr (.inl (kindB_ok h))
  · exact .inr (.inr (kindB_ok h))
theorem loc_ok (hx : XOk G F C X) (h : locB C x = true) : L2.Loc X.env.scope x := by
  unfold locB at h
  simp only [Bool.or_eq_true, Bool.and_eq_true] at h
  unfold L2.Loc
  rw [hx.sc]
  rcases h with h | h
  · exact .inl (kindB_ok h)
  · exact .inr (kindB_ok h.1)
theorem loc_fn (hx : XOk G F C X) (h : locB C x = true) : X.fn x = true ∨ X.env.scope.names.lookup x = some .local := by
  unfold locB at h
  simp only [Bool.or_eq_true, Bool.and_eq_true] at h
  rw [hx.sc]
  rcases h with h | h
  · exact .inr (kindB_ok h)
  · exact .inl (hx.fnl x h.2)
theorem gl_ok (hx : XOk G F C X) (h : glB C x = true) : Gl X x ∧ (x == ("__debug__" : Str)) = false := by
  unfold glB at h
  simp only [Bool.and_eq_true, Bool.not_eq_true'] at h
  refine ⟨?_, h.2⟩
  show X.env.scope.names.lookup x = _
  rw [hx.sc]; exact kindB_ok h.1
theorem fr_ok (hx : XOk G F C X) (h : frB C x = true) : Gl X x ∧ X.mg x = none ∧ (x == ("__debug__" : Str)) = false := by
  unfold frB at h
  rw [Bool.and_eq_true] at h
  exact ⟨(gl_ok hx h.1).1, hx.fr x h.2, (gl_ok hx h.1).2⟩
theorem nm_var (hx : XOk G F C X) (h : nmB C i x = true) : PE X (.Name x pos) (tVar i) := by
  unfold nmB at h
  simp only [Bool.and_eq_true, Bool.not_eq_true'] at h
  exact pe_var (by rw [hx.n]; exact beq_iff_eq.mp h.1.1.1) (vis_ok hx h.1.1.2) h.1.2 h.2

/-! ### shapes -/
def shName : Expr → Option Str
  | .Name x _ => some x
  | _ => none
theorem shName_ok {x : Str} (h : shName e = some x) : ∃ p, e = .Name x p := by cases e <;> first | (cases h; exact ⟨_, rfl⟩) | cases h
def shBin : Expr → Option (Expr × Operator × Expr)
  | .BinOp a o b _ => some (a, o, b)
  | _ => none
theorem shBin_ok {o : Operator} (h : shBin e = some (a, o, b)) : ∃ p, e = .BinOp a o b p := by cases e <;> first | (cases h; exact ⟨_, rfl⟩) | cases h
def shUn : Expr → Option (UnaryOp × Expr)
  | .UnaryOp o a _ => some (o, a)
  | _ => none
theorem shUn_ok {o : UnaryOp} (h : shUn e = some (o, a)) : ∃ p, e = .UnaryOp o a p := by cases e <;> first | (cases h; exact ⟨_, rfl⟩) | cases h
def shCmp : Expr → Option (Expr × List CmpOp × List Expr)
  | .Compare a os bs _ => some (a, os, bs)
  | _ => none
theorem shCmp_ok {os : List CmpOp} {bs : List Expr} (h : shCmp e = some (a, os, bs)) : ∃ p, e = .Compare a os bs p := by cases e <;> first | (cases h; exact ⟨_, rfl⟩) | cases h
def shBool : Expr → Option (BoolOp × List Expr × Pos)
  | .BoolOp o vs p => some (o, vs, p)
  | _ => none
theorem shBool_ok {o : BoolOp} {vs : List Expr} {p : Pos} (h : shBool e = some (o, vs, p)) : e = .BoolOp o vs p := by cases e <;> first | (cases h; rfl) | cases h
def shIf : Expr → Option (Expr × Expr × Expr)
  | .IfExp c a b _ => some (c, a, b)
  | _ => none
theorem shIf_ok (h : shIf e = some (c, a, b)) : ∃ p, e = .IfExp c a b p := by cases e <;> first | (cases h; exact ⟨_, rfl⟩) | cases h
def shCall : Expr → Option (Str × List Expr)
  | .Call (.Name x _) as [] _ => some (x, as)
  | _ => none
theorem shCall_ok {as : List Expr} (h : shCall e = some (x, as)) : ∃ p p', e = .Call (.Name x p) as [] p' := by
  unfold shCall at h
  split at h
  · cases h; exact ⟨_, _, rfl⟩
  · cases h
def shMeth : Expr → Option (Expr × Str × Pos × List Expr × Pos)
  | .Call (.Attribute o x p) as [] p' => some (o, x, p, as, p')
  | _ => none
theorem shMeth_ok {as : List Expr} {p p' : Pos} (h : shMeth e = some (a, x, p, as, p')) : e = .Call (.Attribute a x p) as [] p' := by
  unfold shMeth at h
  split at h
  · cases h; rfl
  · cases h
def shTup : Expr → Option (List Expr)
  | .Tuple es _ _ => some es
  | _ => none
theorem shTup_ok (h : shTup e = some es) : ∃ k p, e = .Tuple es k p := by cases e <;> first | (cases h; exact ⟨_, _, rfl⟩) | cases h
def shLst : Expr → Option (List Expr)
  | .List es _ => some es
  | _ => none
theorem shLst_ok (h : shLst e = some es) : ∃ p, e = .List es p := by cases e <;> first | (cases h; exact ⟨_, rfl⟩) | cases h
def shSub : Expr → Option (Expr × Expr)
  | .Subscript a i _ => some (a, i)
  | _ => none
theorem shSub_ok (h : shSub e = some (a, b)) : ∃ p, e = .Subscript a b p := by cases e <;> first | (cases h; exact ⟨_, rfl⟩) | cases h
def shSlc : Expr → Option (Option Expr × Option Expr)
  | .Slice l u none _ => some (l, u)
  | _ => none
theorem shSlc_ok {l u : Option Expr} (h : shSlc e = some (l, u)) : ∃ p, e = .Slice l u none p := by
  unfold shSlc at h
  split at h
  · cases h; exact ⟨_, rfl⟩
  · cases h
def shRev : Expr → Bool
  | .Slice none none (some (.UnaryOp .USub (.Constant (.int 1) _ _) _)) _ => true
  | _ => false
theorem shRev_ok (h : shRev e = true) : ∃ k p1 p2 p3, e = .Slice none none (some (.UnaryOp .USub (.Constant (.int 1) k p1) p2)) p3 := by
  unfold shRev at h
  split at h
  · exact ⟨_, _, _, _, rfl⟩
  · cases h
def shComp : Expr → Option (Expr × Expr × Expr × List Expr × Scope)
  | .ListComp elt [⟨tg, it, ifs, 0⟩] sc _ => some (elt, tg, it, ifs, sc)
  | _ => none
theorem shComp_ok {elt tg it : Expr} {ifs : List Expr} {sc : Scope} (h : shComp e = some (elt, tg, it, ifs, sc)) : ∃ p, e = .ListComp elt [⟨tg, it, ifs, 0⟩] sc p := by
  unfold shComp at h
  split at h
  · cases h; exact ⟨_, rfl⟩
  · cases h
def shFmt : Expr → Option Expr
  | .FormattedValue a i none _ => if i == -1 then some a else none
  | _ => none
theorem shFmt_ok (h : shFmt e = some a) : ∃ p, e = .FormattedValue a (-1) none p := by
  unfold shFmt at h
  split at h
  · split at h
    · rename_i hh; cases h; rw [beq_iff_eq.mp hh]; exact ⟨_, rfl⟩
    · cases h
  · cases h
def shFstr : Expr → Option (List Expr)
  | .JoinedStr es _ => some es
  | _ => none
theorem shFstr_ok (h : shFstr e = some es) : ∃ p, e = .JoinedStr es p := by cases e <;> first | (cases h; exact ⟨_, rfl⟩) | cases h

/-! ### constants -/
def cstB : Const → D → Bool
  | .none, .non => true
  | .bool b, .bl c => b == c
  | .int i, .int j => i == j
  | .str s, .str t => s == ⟨t.toArray⟩
  | _, _ => false
def shCst : Expr → Option Const
  | .Constant c _ _ => some c
  | _ => none
theorem shCst_ok {c : Const} (h : shCst e = some c) : ∃ k p, e = .Constant c k p := by cases e <;> first | (cases h; exact ⟨_, _, rfl⟩) | cases h
theorem cst_ok {c : Const} {d : D} {k : Nat} {p : Pos} (h : cstB c d = true) : PE X (.Constant c k p) (tE G W (ret d)) := by
  unfold cstB at h
  split at h
  · exact pe_cst pe_non (fun σ H Q q => q) fun Z => trivial
  · rename_i b c; cases (beq_iff_eq.mp h : b = c); exact pe_cst pe_bl (fun σ H Q q => q) fun Z => rfl
  · rename_i b c; cases (beq_iff_eq.mp h : b = c); exact pe_cst pe_int (fun σ H Q q => q) fun Z => rfl
  · rename_i b c; cases (beq_iff_eq.mp h : b = _); exact pe_cst pe_str (fun σ H Q q => q) fun Z => rfl
  · cases h
def nst : Expr → Bool
  | .Starred _ _ => false
  | _ => true
def nsts (es : List Expr) : Bool := es.all nst
theorem star_cons (h : nst e = true) {env : Env} : starEach (e :: es) env = (false, eval e env) :: starEach es env := by cases e <;> first | rfl | cases h
theorem star_any (h : nsts es = true) {env : Env} {pos : Pos} : (backTo pos (starEach es env)).any (·.1) = false := by
  induction es with
  | nil => rfl
  | cons e es ih =>
    unfold nsts at h ih
    rw [List.all_cons, Bool.and_eq_true] at h
    rw [star_cons h.1]
    have := ih h.2
    simp only [backTo, List.map_cons, List.any_cons, Bool.false_or] at this ⊢
    exact this
theorem star_few (h : nsts es = true) (hl : es.length < 30) {env : Env} {pos : Pos} : ((backTo pos (starEach es env)).all (fun x => !x.1) && (backToKw pos (keywordEach [] env)).all (fun x => x.1.isSome)
      && decide (es.length + ([] : List Keyword).length + (if ([] : List Keyword).isEmpty then 0 else 1) < 30)) = true := by
  have : (backTo pos (starEach es env)).all (fun x => !x.1) = true := by
    induction es with
    | nil => rfl
    | cons e es ih =>
      unfold nsts at h ih
      rw [List.all_cons, Bool.and_eq_true] at h
      rw [star_cons h.1]
      have := ih h.2 (by simp at hl; omega)
      simp only [backTo, List.map_cons, List.all_cons, Bool.not_false, Bool.true_and] at this ⊢
      exact this
  rw [this]
  simpa [keywordEach, backToKw] using hl
def nsup : Expr → Bool
  | .Call (.Name _ _) [] [] _ => false
  | _ => true
theorem base_ok (h : nsup e = true) {env : Env} {x : Str} {w : Sem Value} : attributeBase e x env w = w := by
  cases e <;> try rfl
  case Call f as ks p =>
    cases f <;> try rfl
    cases as <;> try rfl
    cases ks <;> first | rfl | cases h
def nset : Expr → Bool
  | .Set _ _ _ => false
  | _ => true
theorem set_ok' (h : nset e = true) {env : Env} : ∀ x, foldedSetIterable e env x = pure x := by cases e <;> first | (intro _; rfl) | cases h
def plainB : Expr → Bool
  | .Slice _ _ _ _ => false
  | _ => true
theorem plain_ok (h : plainB e = true) : PlainIx e := by cases e <;> first | (intro _ _; rfl) | cases h
def testB : Expr → Bool
  | .UnaryOp .Not _ _ => false
  | .BoolOp _ _ _ => false
  | .IfExp _ _ _ _ => false
  | .Compare _ _ _ _ => false
  | _ => true
theorem test_ok (h : testB e = true) {env : Env} : ∀ whole, isTrue e env whole = (do let v ← whole; standAt e.pos; holding [v] (truthy v)) := by
  cases e <;> first | (intro _; rfl) | (cases h; done) | skip
  case UnaryOp op a p => cases op <;> first | (intro _; rfl) | cases h

/-! ### operators -/
def opB : B2 → Operator → Bool
  | .add, .Add => true | .sub, .Sub => true | .mul, .Mult => true | .fdiv, .FloorDiv => true | .mod, .Mod => true | .pow, .Pow => true
  | _, _ => false
theorem op_ok (hx : XOk G F C X) {o : B2} {op : Operator} (h : opB o op = true) : ∃ r, OpR X (binaryOp op) r ∧ Compat2 G r (b2G o) := by
  cases o <;> cases op <;> first | (cases h; done) | skip
  · exact ⟨_, op_addA, by rw [hx.k]; exact addG_ok hx.kok⟩
  · exact ⟨_, op_sub, subG_ok hx.kok⟩
  · exact ⟨_, op_mulA, mulG_ok hx.kok⟩
  · exact ⟨_, op_fdivA, fdivG_ok hx.kok⟩
  · exact ⟨_, op_modN, modG_ok hx.kok⟩
  · exact ⟨_, op_pow, powG_ok hx.kok⟩
def cmB : C2 → CmpOp → Bool
  | .eq, .Eq => true | .ne, .NotEq => true | .lt, .Lt => true | .le, .LtE => true | .gt, .Gt => true | .ge, .GtE => true
  | .isN, .Is => true | .notN, .IsNot => true | .inn, .In => true | .nin, .NotIn => true
  | _, _ => false
theorem cm_ok (hx : XOk G F C X) {o : C2} {op : CmpOp} (h : cmB o op = true) : ∃ r, OpR X (compareOp op) r ∧ Compat2 G r (c2G o) := by
  have hu := hx.un
  cases o <;> cases op <;> first | (cases h; done) | skip
  · exact ⟨_, op_eqA (by omega), by rw [hx.k]; exact eqG_ok hx.kok⟩
  · exact ⟨_, op_neA (by omega), by rw [hx.k]; exact neG_ok hx.kok⟩
  · exact ⟨_, op_ltA, cmpI_ok hx.kok _ _⟩
  · exact ⟨_, op_leA, cmpI_ok hx.kok _ _⟩
  · exact ⟨_, op_gtA, cmpI_ok hx.kok _ _⟩
  · exact ⟨_, op_geA, cmpI_ok hx.kok _ _⟩
  · exact ⟨_, op_isN, isNG_ok hx.kok⟩
  · exact ⟨_, op_notN, isNotNG_ok hx.kok⟩
  · exact ⟨_, op_inA hu, by rw [hx.k]; exact inG_ok hx.kok⟩
  · exact ⟨_, op_notInA hu, by rw [hx.k]; exact notInG_ok hx.kok⟩
end
end FW
set_option Elab.async false
set_option linter.all false
set_option maxRecDepth 100000
/-! FW12: the check of expressions, and that it tells right -/
namespace FW
open PySem PySem.Spec L2

/-! ### built-in functions -/
def biB : BI → Str × Bool × Nat → Bool := fun b p => match b with
  | .len => p.1 == ("len" : Str) && p.2.2 == 1
  | .int => p.1 == ("int" : Str) && p.2.2 == 1
  | .str => p.1 == ("str" : Str) && p.2.2 == 1
  | .abs => p.1 == ("abs" : Str) && p.2.2 == 1
  | .max2 => p.1 == ("max" : Str) && p.2.2 == 2 && p.2.1
  | .min2 => p.1 == ("min" : Str) && p.2.2 == 2 && p.2.1
  | .maxL => p.1 == ("max" : Str) && p.2.2 == 1 && p.2.1
  | .minL => p.1 == ("min" : Str) && p.2.2 == 1 && p.2.1
  | .sum => p.1 == ("sum" : Str) && p.2.2 == 1 && p.2.1
  | .all => p.1 == ("all" : Str) && p.2.2 == 1 && p.2.1
  | .any => p.1 == ("any" : Str) && p.2.2 == 1 && p.2.1
  | .list => p.1 == ("list" : Str) && p.2.2 == 1
  | .tuple => p.1 == ("tuple" : Str) && p.2.2 == 1
  | .ord => p.1 == ("ord" : Str) && p.2.2 == 1
section
variable {G : Gx} {F : Fi} {C : SC} {W : WX} {X : Cx} {e a b c : Expr} {es rest : List Expr} {pos : Pos} {x : Str} {i : Nat}
theorem blt_fn {id : String} {r : List V → Hp → VK → Prop} {g : List D → Option D} {ms : M (List Arg)} {p : Pos} (hx : XOk G F C X) (hf : frB C x = true) (hn : x ≠ "__name__") (hv : bootBuiltins x = some (.builtin id)) (hc : CallR X (.builtin id) r) (hg : CompatL G r g)
    (hs : nsts (e :: es) = true) (ha : PA X (e :: es) (tAA G W ms)) : PE X (.Call (.Name x p) (e :: es) [] pos) (tO G W (bnd ms fun xs => withA xs g)) := by
  obtain ⟨h1, h2, h3⟩ := fr_ok hx hf
  have hs2 : nst e = true ∧ nsts es = true := by unfold nsts at hs ⊢; rw [List.all_cons, Bool.and_eq_true] at hs; exact hs
  exact PE.imp (pe_callB hc h1 h2 hv ha hn h3 (star_cons hs2.1) (star_any hs2.2)) (args_ownA hg)
theorem blt_ty {T : String} {r : List V → Hp → VK → Prop} {g : List D → Option D} {ms : M (List Arg)} {p : Pos} (hx : XOk G F C X) (hf : frB C x = true) (hn : x ≠ "__name__") (hv : bootBuiltins x = some (.type T)) (hc : CallR X (.type T) r) (hg : CompatL G r g)
    (hs : nsts (e :: es) = true) (ha : PA X (e :: es) (tAA G W ms)) : PE X (.Call (.Name x p) (e :: es) [] pos) (tO G W (bnd ms fun xs => withA xs g)) := by
  obtain ⟨h1, h2, h3⟩ := fr_ok hx hf
  have hs2 : nst e = true ∧ nsts es = true := by unfold nsts at hs ⊢; rw [List.all_cons, Bool.and_eq_true] at hs; exact hs
  exact PE.imp (pe_callTy hc h1 h2 hv ha hn h3 (star_cons hs2.1) (star_any hs2.2)) (args_ownA hg)
theorem bi_ok {bi : BI} {ms : M (List Arg)} {p : Pos} (hx : XOk G F C X) (hf : frB C x = true) (hb : biB bi (x, C.calm, (e :: es).length) = true) (hs : nsts (e :: es) = true) (ha : PA X (e :: es) (tAA G W ms)) :
    PE X (.Call (.Name x p) (e :: es) [] pos) (tO G W (bnd ms fun xs => withA xs (biG bi))) := by
  have hk := hx.k
  have hkok := hx.kok
  cases bi <;> simp only [biB, Bool.and_eq_true, beq_iff_eq] at hb
  · obtain ⟨rfl, _⟩ := hb; exact blt_fn hx hf (by decide +kernel) (by decide +kernel) call_len (by rw [hk]; exact lenG_ok hkok) hs ha
  · obtain ⟨rfl, _⟩ := hb; exact blt_ty hx hf (by decide +kernel) (by decide +kernel) call_intA (intG1_ok hkok) hs ha
  · obtain ⟨rfl, _⟩ := hb; exact blt_ty hx hf (by decide +kernel) (by decide +kernel) call_str_int (strG1_ok hkok) hs ha
  · obtain ⟨rfl, _⟩ := hb; exact blt_fn hx hf (by decide +kernel) (by decide +kernel) call_abs (absG_ok hkok) hs ha
  · obtain ⟨⟨rfl, _⟩, hc⟩ := hb; exact blt_fn hx hf (by decide +kernel) (by decide +kernel) (call_max2 (hx.calm hc)) (mm2_ok hkok _) hs ha
  · obtain ⟨⟨rfl, _⟩, hc⟩ := hb; exact blt_fn hx hf (by decide +kernel) (by decide +kernel) (call_min2 (hx.calm hc)) (mm2_ok hkok _) hs ha
  · obtain ⟨⟨rfl, _⟩, hc⟩ := hb; exact blt_fn hx hf (by decide +kernel) (by decide +kernel) (cr_max (hx.calm hc)) (by rw [hk]; exact maxG_ok hkok) hs ha
  · obtain ⟨⟨rfl, _⟩, hc⟩ := hb; exact blt_fn hx hf (by decide +kernel) (by decide +kernel) (cr_min (hx.calm hc)) (by rw [hk]; exact minG_ok hkok) hs ha
  · obtain ⟨⟨rfl, _⟩, hc⟩ := hb; exact blt_fn hx hf (by decide +kernel) (by decide +kernel) (cr_sum (hx.calm hc)) (by rw [hk]; exact sumG_ok hkok) hs ha
  · obtain ⟨⟨rfl, _⟩, hc⟩ := hb; exact blt_fn hx hf (by decide +kernel) (by decide +kernel) (cr_all (hx.calm hc)) (by rw [hk]; exact allG_ok hkok) hs ha
  · obtain ⟨⟨rfl, _⟩, hc⟩ := hb; exact blt_fn hx hf (by decide +kernel) (by decide +kernel) (cr_any (hx.calm hc)) (by rw [hk]; exact anyG_ok hkok) hs ha
  · obtain ⟨rfl, _⟩ := hb; exact blt_ty hx hf (by decide +kernel) (by decide +kernel) call_list_of (by rw [hk]; exact listG_ok hkok) hs ha
  · obtain ⟨rfl, _⟩ := hb; exact blt_ty hx hf (by decide +kernel) (by decide +kernel) call_tuple_of (by rw [hk]; exact tupleG_ok hkok) hs ha
  · obtain ⟨rfl, _⟩ := hb; exact blt_fn hx hf (by decide +kernel) (by decide +kernel) call_ord (ordG_ok hkok) hs ha
/-! ### methods -/
def miB : MI → Str → Bool
  | .split, x => x == ("split" : Str)
  | .part, x => x == ("partition" : Str)
  | .join, x => x == ("join" : Str)
theorem mt1 {id : String} {r : V → List V → Hp → VK → Prop} {g : D → List D → Option D} {m : M D} {ms : M (List Arg)} {ap cp : Pos} (hx : XOk G F C X) (slot : Slot "str" x id) (hty : typeOf (.builtin id) = pure (.type "method_descriptor")) (hm : MtR X id r) (hg : CompatM G r g)
    (hb : nsup a = true) (hl : (ap.endLine == cp.line) = true) (hs : nsts (e :: es) = true) (hn : (e :: es).length < 30) (ho : PE X a (tE G W m)) (ha : PA X (e :: es) (tAA G W ms)) : PE X (.Call (.Attribute a x ap) (e :: es) [] cp) (tO G W (methA "str" m ms g)) := by
  have hs2 : nst e = true ∧ nsts es = true := by unfold nsts at hs ⊢; rw [List.all_cons, Bool.and_eq_true] at hs; exact hs
  have := pe_bm PySem.F.plainAttrs_str slot hty hm ho ha (base_ok hb) (star_few hs hn) hl (star_cons hs2.1) (star_any hs2.2)
  rw [hx.k] at this
  exact PE.imp this (methA_to hx.kok hg)
theorem mi_ok {mi : MI} {m : M D} {ms : M (List Arg)} {ap cp : Pos} (hx : XOk G F C X) (hb' : miB mi x = true) (hb : nsup a = true) (hl : (ap.endLine == cp.line) = true) (hs : nsts (e :: es) = true) (hn : (e :: es).length < 30) (ho : PE X a (tE G W m)) (ha : PA X (e :: es) (tAA G W ms)) :
    PE X (.Call (.Attribute a x ap) (e :: es) [] cp) (tO G W (methA (miT mi) m ms (miG mi))) := by
  have hk := hx.k
  have hkok := hx.kok
  cases mi <;> simp only [miB, beq_iff_eq] at hb' <;> subst hb'
  · exact mt1 hx PySem.F.slot_str_split PySem.F.type_str_split mt_split (splitG_ok hkok) hb hl hs hn ho ha
  · exact mt1 hx PySem.F.slot_str_partition PySem.F.type_str_partition mt_partition (partG_ok hkok) hb hl hs hn ho ha
  · exact mt1 hx PySem.F.slot_str_join PySem.F.type_str_join mt_join (by rw [hk]; exact joinG_ok hkok) hb hl hs hn ho ha

/-! ### targets -/
mutual
def okG (C : SC) : Tg → Expr → Bool
  | .name i, e => match shName e with
    | some x => C.N[i]? == some x && locB C x
    | none => false
  | .tup l, e => match shTup e with
    | some es => okGs C l es
    | none => false
def okGs (C : SC) : List Tg → List Expr → Bool
  | [], [] => true
  | t :: ts, e :: es => okG C t e && okGs C ts es
  | _, _ => false
end
mutual
def tgIs : Tg → List Nat
  | .name i => [i]
  | .tup l => tgIss l
def tgIss : List Tg → List Nat
  | [] => []
  | t :: ts => tgIs t ++ tgIss ts
end
theorem okG_nst {t : Tg} (h : okG C t e = true) : nst e = true := by
  cases t <;> cases e <;> first | rfl | (simp [okG, shName, shTup] at h)
theorem asg_cons (h : nst e = true) {env : Env} : assignEach (e :: es) env = (false, assign e env) :: assignEach es env := by cases e <;> first | rfl | cases h
theorem okGs_len {l : List Tg} {env : Env} : ∀ {es : List Expr}, okGs C l es = true → (assignEach es env).length = (tgM.tgMs l).length ∧ (assignEach es env).findIdx? (·.1) = none := by
  induction l with
  | nil =>
    intro es h
    cases es with
    | nil => exact ⟨rfl, rfl⟩
    | cons e es => simp [okGs] at h
  | cons t ts ih =>
    intro es h
    cases es with
    | nil => simp [okGs] at h
    | cons e es =>
      rw [okGs, Bool.and_eq_true] at h
      rw [asg_cons (okG_nst h.1)]
      obtain ⟨h1, h2⟩ := ih h.2
      refine ⟨by simp [tgM.tgMs, h1], ?_⟩
      rw [List.findIdx?_cons]
      simp [h2]
mutual
theorem okG_ok : ∀ (t : Tg) {e : Expr} {C : SC} {X : Cx}, XOk G F C X → X.calm = true → okG C t e = true → PG X e (tG G (tgIs t) (tgM t))
  | .name i, e, C, X, hx, hc, h => by
    unfold okG at h
    cases q : shName e with
    | none => rw [q] at h; cases h
    | some x =>
      rw [q] at h
      simp only [Bool.and_eq_true] at h
      obtain ⟨p, rfl⟩ := shName_ok q
      have hl := loc_ok hx h.2
      exact pg_nameD (pg_name (by rw [hx.n]; exact hx.nd) (by rw [hx.n]; exact beq_iff_eq.mp h.1) hl (loc_fn hx h.2))
  | .tup l, e, C, X, hx, hc, h => by
    unfold okG at h
    cases q : shTup e with
    | none => rw [q] at h; cases h
    | some es =>
      rw [q] at h
      obtain ⟨k, p, rfl⟩ := shTup_ok q
      obtain ⟨h1, h2⟩ := okGs_len (env := X.env) h
      exact pg_tupD hx.kok hx.k hc (okGs_ok l hx hc h) h1 h2
theorem okGs_ok : ∀ (l : List Tg) {es : List Expr} {C : SC} {X : Cx}, XOk G F C X → X.calm = true → okGs C l es = true → PGs X es (tGs G (tgIss l) (gsM (tgM.tgMs l)))
  | [], [], C, X, hx, hc, h => pgs_nilD
  | [], _ :: _, C, X, hx, hc, h => by simp [okGs] at h
  | _ :: _, [], C, X, hx, hc, h => by simp [okGs] at h
  | t :: ts, e :: es, C, X, hx, hc, h => by
    rw [okGs, Bool.and_eq_true] at h
    exact pgs_consD (okG_ok t hx hc h.1) (okGs_ok ts hx hc h.2) (by rw [asg_cons (okG_nst h.1)]; rfl)
end
/-! ### a block's context -/
def relS (scope sc : Scope) : Scope := { scope with names := scope.names.map fun (n, k) => if (k == NameKind.free && sc.kind == .function && sc.names.lookup n == some .cell) then (n, NameKind.cell) else (n, k) }
def blkS (C : SC) (scope : Scope) : SC := { C with sc := relS scope C.sc, fns := some scope }
theorem XOk.blk {s : Shared} {H : Hp} {scope : Scope} {cl : List (Str × Addr)} {Cc : Addr} {fp : List Addr} (hx : XOk G F C X) : XOk G F (blkS C scope) (X.blk s H scope (compEnvC scope cl Cc X.env) fp) where
  k := hx.k
  kok := hx.kok
  n := hx.n
  nd := hx.nd
  sc := by
    show relabel scope X.env = relS scope C.sc
    rw [← hx.sc]; rfl
  calm := hx.calm
  un := hx.un
  fnl := fun x h => h
  fr := hx.fr
  cst := hx.cst
  fn := hx.fn
  exc := hx.exc
theorem takes_no : Takes X (fun _ _ _ _ => False) := fun u s' ⟨a, B, sI, pins, σ, H, cls, d, e, I, nb, up, sky, na, os, ag, w⟩ => w.elim
end
end FW
set_option Elab.async false
set_option linter.all false
set_option maxRecDepth 100000
/-! FW13: the check of expressions, and that it tells right -/
namespace FW
open PySem PySem.Spec L2

def nmE (C : SC) (i : Nat) (e : Expr) : Bool := match shName e with
  | some x => nmB C i x
  | none => false
def andRest (o : BoolOp) (y : Expr) (rest : List Expr) (p : Pos) : Expr := match rest with
  | [] => y
  | r :: rs => .BoolOp o (y :: r :: rs) p
def isTupE : Expr → Bool
  | .Tuple _ _ _ => true
  | _ => false
theorem isTupE_ok {e : Expr} (h : isTupE e = true) : ∃ es k p, e = .Tuple es k p := by cases e <;> first | exact ⟨_, _, _, rfl⟩ | cases h
theorem len_two {α : Type} {l : List α} (h : l.length = 2) : ∃ a b, l = [a, b] := by
  match l, h with
  | [a, b], _ => exact ⟨a, b, rfl⟩
mutual
def okE : CE → SC → Expr → Bool
  | .cst d, C, e => (match shCst e with
    | some c => cstB c d
    | none => match shName e with
      | some x => glB C x && (match C.gl.lookup x with
        | some (.cst d') => eqD d' d
        | _ => false)
      | none => false)
  | .var i, C, e => nmE C i e
  | .mv i, C, e => nmE C i e
  | .brw i, C, e => nmE C i e
  | .bin o a b, C, e => (match shBin e with
    | some (x, op, y) => opB o op && okE a C x && okE b C y
    | none => false)
  | .neg a, C, e => (match shUn e with
    | some (.USub, x) => okE a C x
    | _ => false)
  | .cmp o a b, C, e => (match shCmp e with
    | some (x, [op], [y]) => cmB o op && !behindInMarks op y && okE a C x && okE b C y
    | _ => false)
  | .chn o o' a b c, C, e => (match shCmp e with
    | some (x, [op, op'], [y, z]) => cmB o op && cmB o' op' && !lastMarks [op, op'] [y, z] && okE a C x && okE b C y && okE c C z
    | _ => false)
  | .and a b, C, e => (match shBool e with
    | some (.And, x :: y :: rest, p) => okE a C x && okE b C (andRest .And y rest p)
    | _ => false)
  | .or a b, C, e => (match shBool e with
    | some (.Or, x :: y :: rest, p) => okE a C x && okE b C (andRest .Or y rest p)
    | _ => false)
  | .not a, C, e => (match shUn e with
    | some (.Not, x) => okE a C x
    | _ => false)
  | .ite t a b, C, e => (match shIf e with
    | some (x, y, z) => okT t C x && okE a C y && okE b C z
    | none => false)
  | .call f n as, C, e => (match shCall e with
    | some (x, es) => glB C x && C.calm && (match C.gl.lookup x with
      | some (.fn f' n') => f' == f && n' == n
      | _ => false) && nsts es && okEs as C es
    | none => false)
  | .bi b as, C, e => (match shCall e with
    | some (x, es) => frB C x && biB b (x, C.calm, es.length) && nsts es && !es.isEmpty && okEs as C es
    | none => false)
  | .isi T a, C, e => (match shCall e with
    | some (x, [y, t]) => x == ("isinstance" : Str) && frB C x && nst y && (match shName t with
      | some tn => frB C tn && (match bootBuiltins tn with
        | some (.type T') => T' == T
        | _ => false) && !(tn == ("__name__" : Str))
      | none => false) && okE a C y
    | _ => false)
  | .mth m a as, C, e => (match shMeth e with
    | some (o, x, ap, es, cp) => miB m x && nsup o && ap.endLine == cp.line && nsts es && !es.isEmpty && decide (es.length < 30) && okE a C o && okEs as C es
    | none => false)
  | .tup as, C, e => (match shTup e with
    | some es => nsts es && okEs as C es
    | none => false)
  | .lst as, C, e => (match shLst e with
    | some es => nsts es && okEs as C es
    | none => false)
  | .idx a i, C, e => (match shSub e with
    | some (x, y) => plainB y && okE a C x && okE i C y
    | none => false)
  | .slc a lo hi, C, e => (match shSub e with
    | some (x, y) => (match shSlc y with
      | some (l, u) => okE a C x && okOp lo C l && okOp hi C u
      | none => false)
    | none => false)
  | .rev a, C, e => (match shSub e with
    | some (x, y) => shRev y && okE a C x
    | none => false)
  | .comp own it tg t el, C, e => (match shComp e with
    | some (elt, tgE, itE, ifs, sc) => C.calm && blkC C.N C.sc sc own && nset itE && okI it C tgE itE && okG (blkS C sc) tg tgE && (tgIs tg).all (fun i => decide (i ∈ own.map (·.2))) && (match ifs with
      | [] => (match t with | .yes => true | _ => false)
      | [c] => okT t (blkS C sc) c
      | _ => false) && okE el (blkS C sc) elt
    | none => false)
  | .fmt a, C, e => (match shFmt e with
    | some x => okE a C x
    | none => false)
  | .fstr as, C, e => (match shFstr e with
    | some es => decide (2 ≤ es.length) && okEs as C es
    | none => false)
def okEs : CEs → SC → List Expr → Bool
  | .nil, _, es => es.isEmpty
  | .cons a as, C, es => (match es with
    | e :: es => okE a C e && okEs as C es
    | [] => false)
def okOp : CO → SC → Option Expr → Bool
  | .none, _, o => o.isNone
  | .some a, C, o => (match o with
    | some e => okE a C e
    | none => false)
def okT : CT → SC → Expr → Bool
  | .val a, C, e => testB e && okE a C e
  | .cmp o a b, C, e => (match shCmp e with
    | some (x, [op], [y]) => cmB o op && !behindInMarks op y && okE a C x && okE b C y
    | _ => false)
  | .chn o o' a b c, C, e => (match shCmp e with
    | some (x, [op, op'], [y, z]) => cmB o op && cmB o' op' && !lastMarks [op, op'] [y, z] && okE a C x && okE b C y && okE c C z
    | _ => false)
  | .and a b, C, e => (match shBool e with
    | some (.And, x :: y :: rest, p) => okT a C x && okT b C (andRest .And y rest p)
    | _ => false)
  | .or a b, C, e => (match shBool e with
    | some (.Or, x :: y :: rest, p) => okT a C x && okT b C (andRest .Or y rest p)
    | _ => false)
  | .not a, C, e => (match shUn e with
    | some (.Not, x) => okT a C x
    | _ => false)
  | .yes, _, _ => false
def okI : CI → SC → Expr → Expr → Bool
  | .seq a, C, _, e => okE a C e
  | .rng n as, C, _, e => (match shCall e with
    | some (x, es) => x == ("range" : Str) && frB C x && es.length == n && (n == 1 || n == 2) && nsts es && okEs as C es
    | none => false)
  | .enum as, C, tg, e => (match shCall e with
    | some (x, es) => x == ("enumerate" : Str) && frB C x && es.length == 1 && isTupE tg && nsts es && okEs as C es
    | none => false)
  | .zip as, C, tg, e => (match shCall e with
    | some (x, es) => x == ("zip" : Str) && frB C x && es.length == 2 && isTupE tg && nsts es && okEs as C es
    | none => false)
end

section
variable {G : Gx} {F : Fi}
theorem pe_stk {X : Cx} {e : Expr} {W : WX} : PE X e (tO G W stk) := ⟨fun pins s σ H Q I ⟨B, Z, ρ, hr, hw⟩ => hw.elim⟩
theorem nmE_ok {C : SC} {i : Nat} {e : Expr} {X : Cx} (hx : XOk G F C X) (h : nmE C i e = true) : PE X e (tVar i) := by
  unfold nmE at h
  cases q : shName e with
  | none => rw [q] at h; cases h
  | some x =>
    rw [q] at h
    obtain ⟨p, rfl⟩ := shName_ok q
    exact nm_var hx h
theorem arg_ok {C : SC} {e : Expr} {X : Cx} {W : WX} (hx : XOk G F C X) : ∀ (c : CE), okE c C e = true → PE X e (tO G W (semO F c)) → PE X e (tA1 G W (argOf c (semO F c))) := by
  intro c h hp
  cases c with
  | brw i =>
    unfold okE at h
    exact pe_brw (nmE_ok hx h)
  | _ => exact pe_dat (pe_frz hp)
mutual
theorem okE_ok : ∀ (c : CE) {C : SC} {X : Cx} {W : WX} {e : Expr}, XOk G F C X → Takes X W → okE c C e = true → PE X e (tO G W (semO F c))
  | .cst d, C, X, W, e, hx, tk, h => by
    unfold okE at h
    cases q : shCst e with
    | some c =>
      rw [q] at h
      obtain ⟨k, p, rfl⟩ := shCst_ok q
      exact pe_fz (cst_ok h)
    | none =>
      rw [q] at h
      cases q2 : shName e with
      | none => rw [q2] at h; cases h
      | some x =>
        rw [q2] at h
        simp only [Bool.and_eq_true] at h
        obtain ⟨p, rfl⟩ := shName_ok q2
        obtain ⟨hg, hd⟩ := gl_ok hx h.1
        have h2 := h.2
        cases q3 : C.gl.lookup x with
        | none => rw [q3] at h2; cases h2
        | some gv =>
          rw [q3] at h2
          cases gv with
          | cst d' =>
            cases eqD_ok h2
            obtain ⟨u, v, hm, r, hz⟩ := hx.cst x d q3
            exact pe_fz (pe_cst (pe_glob hg hm r hd) (fun σ H Q q => q) hz)
          | _ => cases h2
  | .var i, C, X, W, e, hx, tk, h => by
    unfold okE at h
    exact pe_fz (pe_rd (nmE_ok hx h))
  | .mv i, C, X, W, e, hx, tk, h => by
    unfold okE at h
    exact pe_mv (nmE_ok hx h)
  | .brw i, C, X, W, e, hx, tk, h => pe_stk
  | .bin o a b, C, X, W, e, hx, tk, h => by
    unfold okE at h
    cases q : shBin e with
    | none => rw [q] at h; cases h
    | some p =>
      obtain ⟨x, op, y⟩ := p
      rw [q] at h
      simp only [Bool.and_eq_true] at h
      obtain ⟨p, rfl⟩ := shBin_ok q
      obtain ⟨r, h1, h2⟩ := op_ok hx h.1.1
      exact pe_binA h1 h2 (arg_ok hx a h.1.2 (okE_ok a hx tk h.1.2)) (arg_ok hx b h.2 (okE_ok b hx tk h.2))
  | .neg a, C, X, W, e, hx, tk, h => by
    unfold okE at h
    split at h
    · rename_i x q
      obtain ⟨p, rfl⟩ := shUn_ok q
      exact pe_un1 un_neg (negG_ok hx.kok) (pe_frz (okE_ok a hx tk h))
    · cases h
  | .cmp o a b, C, X, W, e, hx, tk, h => by
    unfold okE at h
    split at h
    · rename_i x op y q
      simp only [Bool.and_eq_true, Bool.not_eq_true'] at h
      obtain ⟨p, rfl⟩ := shCmp_ok q
      obtain ⟨r, h1, h2⟩ := cm_ok hx h.1.1.1
      exact pe_cmpA h1 h2 h.1.1.2 (arg_ok hx a h.1.2 (okE_ok a hx tk h.1.2)) (arg_ok hx b h.2 (okE_ok b hx tk h.2))
    · cases h
  | .chn o o' a b c, C, X, W, e, hx, tk, h => by
    unfold okE at h
    split at h
    · rename_i x op op' y z q
      simp only [Bool.and_eq_true, Bool.not_eq_true'] at h
      obtain ⟨p, rfl⟩ := shCmp_ok q
      obtain ⟨⟨⟨⟨⟨k1, k2⟩, k3⟩, k4⟩, k5⟩, k6⟩ := h
      obtain ⟨r, h1, h2⟩ := cm_ok hx k1
      obtain ⟨r', h1', h2'⟩ := cm_ok hx k2
      exact pe_chain2 hx.kok h1 h1' h2 h2' k3 (pe_frz (okE_ok a hx tk k4)) (pe_frz (okE_ok b hx tk k5)) (pe_frz (okE_ok c hx tk k6))
    · cases h
  | .and a b, C, X, W, e, hx, tk, h => by
    unfold okE at h
    split at h
    · rename_i x y rest p q
      simp only [Bool.and_eq_true] at h
      cases shBool_ok q
      refine pe_andVD hx.kok (okE_ok a hx tk h.1) ?_
      have hb := okE_ok b hx tk h.2
      cases rest with
      | nil => exact pe_one hb
      | cons r rs => exact hb
    · cases h
  | .or a b, C, X, W, e, hx, tk, h => by
    unfold okE at h
    split at h
    · rename_i x y rest p q
      simp only [Bool.and_eq_true] at h
      cases shBool_ok q
      refine pe_orVD hx.kok (okE_ok a hx tk h.1) ?_
      have hb := okE_ok b hx tk h.2
      cases rest with
      | nil => exact pe_one hb
      | cons r rs => exact hb
    · cases h
  | .not a, C, X, W, e, hx, tk, h => by
    unfold okE at h
    split at h
    · rename_i x q
      obtain ⟨p, rfl⟩ := shUn_ok q
      exact pe_notVD hx.kok (pe_frz (okE_ok a hx tk h))
    · cases h
  | .ite t a b, C, X, W, e, hx, tk, h => by
    unfold okE at h
    cases q : shIf e with
    | none => rw [q] at h; cases h
    | some p =>
      obtain ⟨x, y, z⟩ := p
      rw [q] at h
      simp only [Bool.and_eq_true] at h
      obtain ⟨p, rfl⟩ := shIf_ok q
      exact pe_iteO (okT_ok t hx tk h.1.1).1 (okE_ok a hx tk h.1.2) (okE_ok b hx tk h.2)
  | .call f n as, C, X, W, e, hx, tk, h => by
    unfold okE at h
    cases q : shCall e with
    | none => rw [q] at h; cases h
    | some p =>
      obtain ⟨x, es⟩ := p
      rw [q] at h
      simp only [Bool.and_eq_true] at h
      obtain ⟨p, p', rfl⟩ := shCall_ok q
      obtain ⟨⟨⟨⟨k1, k2⟩, k3⟩, k4⟩, k5⟩ := h
      obtain ⟨hg, hd⟩ := gl_ok hx k1
      cases q3 : C.gl.lookup x with
      | none => rw [q3] at k3; cases k3
      | some gv =>
        rw [q3] at k3
        cases gv with
        | fn f' n' =>
          simp only [Bool.and_eq_true, beq_iff_eq] at k3
          obtain ⟨rfl, rfl⟩ := k3
          obtain ⟨k, fa, fd, ps, FO, hr, hm, hkp, hb⟩ := hx.fn k2 x f' n' q3
          have ha := okEs_ok as hx tk k4 k5
          cases es with
          | nil =>
            cases as with
            | nil => exact pe_call0A FO hr hg hm hkp hb tk hd
            | cons a as => simp [okEs] at k5
          | cons e es =>
            have hs2 : nst e = true ∧ nsts es = true := by unfold nsts at k4 ⊢; rw [List.all_cons, Bool.and_eq_true] at k4; exact k4
            exact pe_callA' hx.k FO hr hg hm hkp hb tk ha hd (star_cons hs2.1) (star_any hs2.2)
        | _ => cases k3
  | .bi b as, C, X, W, e, hx, tk, h => by
    unfold okE at h
    cases q : shCall e with
    | none => rw [q] at h; cases h
    | some p =>
      obtain ⟨x, es⟩ := p
      rw [q] at h
      simp only [Bool.and_eq_true] at h
      obtain ⟨p, p', rfl⟩ := shCall_ok q
      obtain ⟨⟨⟨⟨k1, k2⟩, k3⟩, k4⟩, k5⟩ := h
      cases es with
      | nil => cases k4
      | cons e es => exact bi_ok hx k1 k2 k3 (okEs_ok as hx tk k3 k5)
  | .isi T a, C, X, W, e, hx, tk, h => by
    unfold okE at h
    split at h
    · rename_i x y t q
      simp only [Bool.and_eq_true, beq_iff_eq] at h
      obtain ⟨p, p', rfl⟩ := shCall_ok q
      obtain ⟨⟨⟨⟨rfl, k2⟩, k3⟩, k4⟩, k5⟩ := h
      obtain ⟨hg, hm, _⟩ := fr_ok hx k2
      cases q3 : shName t with
      | none => rw [q3] at k4; cases k4
      | some tn =>
        rw [q3] at k4
        simp only [Bool.and_eq_true, Bool.not_eq_true'] at k4
        obtain ⟨p2, rfl⟩ := shName_ok q3
        obtain ⟨⟨j1, j2⟩, j3⟩ := k4
        obtain ⟨hgT, hmT, hdT⟩ := fr_ok hx j1
        cases q4 : bootBuiltins tn with
        | none => rw [q4] at j2; cases j2
        | some u =>
          rw [q4] at j2
          cases u with
          | type T' =>
            cases (beq_iff_eq.mp j2 : T' = T)
            exact pe_isiA hx.kok hx.k hg hm hgT hmT q4 (fun z => by rw [z] at j3; exact absurd j3 (by decide +kernel)) hdT (arg_ok hx a k5 (okE_ok a hx tk k5)) (star_cons k3)
          | _ => cases j2
    · cases h
  | .mth m a as, C, X, W, e, hx, tk, h => by
    unfold okE at h
    cases q : shMeth e with
    | none => rw [q] at h; cases h
    | some p =>
      obtain ⟨o, x, ap, es, cp⟩ := p
      rw [q] at h
      simp only [Bool.and_eq_true, decide_eq_true_eq] at h
      cases shMeth_ok q
      obtain ⟨⟨⟨⟨⟨⟨⟨k1, k2⟩, k3⟩, k4⟩, k5⟩, k6⟩, k7⟩, k8⟩ := h
      cases es with
      | nil => cases k5
      | cons e es => exact mi_ok hx k1 k2 k3 k4 k6 (pe_frz (okE_ok a hx tk k7)) (okEs_ok as hx tk k4 k8)
  | .tup as, C, X, W, e, hx, tk, h => by
    unfold okE at h
    cases q : shTup e with
    | none => rw [q] at h; cases h
    | some es =>
      rw [q] at h
      simp only [Bool.and_eq_true] at h
      obtain ⟨k, p, rfl⟩ := shTup_ok q
      exact pe_tupD (pa_dats (okEs_ok as hx tk h.1 h.2))
  | .lst as, C, X, W, e, hx, tk, h => by
    unfold okE at h
    cases q : shLst e with
    | none => rw [q] at h; cases h
    | some es =>
      rw [q] at h
      simp only [Bool.and_eq_true] at h
      obtain ⟨p, rfl⟩ := shLst_ok q
      exact pe_lstD (pa_dats (okEs_ok as hx tk h.1 h.2))
  | .idx a i, C, X, W, e, hx, tk, h => by
    unfold okE at h
    cases q : shSub e with
    | none => rw [q] at h; cases h
    | some p =>
      obtain ⟨x, y⟩ := p
      rw [q] at h
      simp only [Bool.and_eq_true] at h
      obtain ⟨p, rfl⟩ := shSub_ok q
      exact pe_idxA hx.kok hx.k (plain_ok h.1.1) (arg_ok hx a h.1.2 (okE_ok a hx tk h.1.2)) (arg_ok hx i h.2 (okE_ok i hx tk h.2))
  | .slc a lo hi, C, X, W, e, hx, tk, h => by
    unfold okE at h
    cases q : shSub e with
    | none => rw [q] at h; cases h
    | some p =>
      obtain ⟨x, y⟩ := p
      rw [q] at h
      simp only at h
      obtain ⟨p, rfl⟩ := shSub_ok q
      cases q2 : shSlc y with
      | none => rw [q2] at h; cases h
      | some p2 =>
        obtain ⟨l, u⟩ := p2
        rw [q2] at h
        simp only [Bool.and_eq_true] at h
        obtain ⟨p3, rfl⟩ := shSlc_ok q2
        exact pe_slcA hx.kok hx.k (arg_ok hx a h.1.1 (okE_ok a hx tk h.1.1)) (okOp_ok lo hx tk h.1.2) (okOp_ok hi hx tk h.2)
  | .rev a, C, X, W, e, hx, tk, h => by
    unfold okE at h
    cases q : shSub e with
    | none => rw [q] at h; cases h
    | some p =>
      obtain ⟨x, y⟩ := p
      rw [q] at h
      simp only [Bool.and_eq_true] at h
      obtain ⟨p, rfl⟩ := shSub_ok q
      obtain ⟨k, p1, p2, p3, rfl⟩ := shRev_ok h.1
      exact pe_revA hx.kok hx.k (arg_ok hx a h.2 (okE_ok a hx tk h.2))
  | .comp own it tg t el, C, X, W, e, hx, tk, h => by
    unfold okE at h
    cases q : shComp e with
    | none => rw [q] at h; cases h
    | some p =>
      obtain ⟨elt, tgE, itE, ifs, sc⟩ := p
      rw [q] at h
      simp only [Bool.and_eq_true, List.all_eq_true, decide_eq_true_eq] at h
      obtain ⟨p, rfl⟩ := shComp_ok q
      obtain ⟨⟨⟨⟨⟨⟨⟨k1, k2⟩, k3⟩, k4⟩, k5⟩, k6⟩, k7⟩, k8⟩ := h
      have hc := hx.calm k1
      refine pe_compD (is := tgIs tg) hc (by rw [hx.n]; exact hx.nd) (okI_ok it hx tk k4) (blkOk_by (by rw [hx.n, hx.sc]; exact k2)) k6 (fun s H Cc cl fp => okG_ok tg hx.blk hc k5) (fun s H Cc cl fp => ?_) (fun s H Cc cl fp => pe_frz (okE_ok el hx.blk takes_no k8)) (set_ok' k3)
      split at k7
      · split at k7
        · exact ⟨fun pins s σ H Q I ⟨B, Z, ρ, hr, hw⟩ => pts_nil.run pins s σ H Q I (hw Z H hr (Le.refl _))⟩
        · cases k7
      · exact pts_one (okT_ok t hx.blk takes_no k7).1
      · cases k7
  | .fmt a, C, X, W, e, hx, tk, h => by
    unfold okE at h
    cases q : shFmt e with
    | none => rw [q] at h; cases h
    | some x =>
      rw [q] at h
      obtain ⟨p, rfl⟩ := shFmt_ok q
      exact pe_fmtD hx.kok (pe_frz (okE_ok a hx tk h))
  | .fstr as, C, X, W, e, hx, tk, h => by
    unfold okE at h
    cases q : shFstr e with
    | none => rw [q] at h; cases h
    | some es =>
      rw [q] at h
      simp only [Bool.and_eq_true, decide_eq_true_eq] at h
      obtain ⟨p, rfl⟩ := shFstr_ok q
      have hp := okPs_ok as hx tk h.2
      match es, h.1, hp with
      | v1 :: v2 :: rest, _, hp => exact pe_fstrD hx.kok hp
      | [_], hl, _ => simp at hl
      | [], hl, _ => simp at hl
theorem okEs_ok : ∀ (cs : CEs) {C : SC} {X : Cx} {W : WX} {es : List Expr}, XOk G F C X → Takes X W → nsts es = true → okEs cs C es = true → PA X es (tAA G W (semEs F cs))
  | .nil, C, X, W, es, hx, tk, hs, h => by
    cases es with
    | nil => exact pa_nilA
    | cons e es => simp [okEs] at h
  | .cons a as, C, X, W, es, hx, tk, hs, h => by
    cases es with
    | nil => simp [okEs] at h
    | cons e es =>
      rw [okEs, Bool.and_eq_true] at h
      have hs2 : nst e = true ∧ nsts es = true := by unfold nsts at hs ⊢; rw [List.all_cons, Bool.and_eq_true] at hs; exact hs
      exact pa_consA (arg_ok hx a h.1 (okE_ok a hx tk h.1)) (okEs_ok as hx tk hs2.2 h.2) (star_cons hs2.1)
theorem okPs_ok : ∀ (cs : CEs) {C : SC} {X : Cx} {W : WX} {es : List Expr}, XOk G F C X → Takes X W → okEs cs C es = true → PJ X es ((semPs F cs).map (tE G W))
  | .nil, C, X, W, es, hx, tk, h => by
    cases es with
    | nil => exact .nil
    | cons e es => simp [okEs] at h
  | .cons a as, C, X, W, es, hx, tk, h => by
    cases es with
    | nil => simp [okEs] at h
    | cons e es =>
      rw [okEs, Bool.and_eq_true] at h
      exact .cons (pe_frz (okE_ok a hx tk h.1)) (okPs_ok as hx tk h.2)
theorem okOp_ok : ∀ (c : CO) {C : SC} {X : Cx} {W : WX} {o : Option Expr}, XOk G F C X → Takes X W → okOp c C o = true → PO X o (tOp' G W (semOp F c))
  | .none, C, X, W, o, hx, tk, h => by
    cases o with
    | none => exact po_noneD
    | some e => simp [okOp] at h
  | .some a, C, X, W, o, hx, tk, h => by
    cases o with
    | none => simp [okOp] at h
    | some e => rw [okOp] at h; exact po_someD hx.kok (pe_frz (okE_ok a hx tk h))
theorem okT_ok : ∀ (c : CT) {C : SC} {X : Cx} {W : WX} {e : Expr}, XOk G F C X → Takes X W → okT c C e = true → PT X e (tB G W (semT F c)) ∧ (∀ o vs p, e = .BoolOp o vs p → PW X e (tB G W (semT F c)))
  | .val a, C, X, W, e, hx, tk, h => by
    rw [okT, Bool.and_eq_true] at h
    exact ⟨pt_truA hx.kok (arg_ok hx a h.2 (okE_ok a hx tk h.2)) (test_ok h.1) hx.k, fun o vs p z => by subst z; cases h.1⟩
  | .cmp o a b, C, X, W, e, hx, tk, h => by
    unfold okT at h
    split at h
    · rename_i x op y q
      simp only [Bool.and_eq_true, Bool.not_eq_true'] at h
      obtain ⟨p, rfl⟩ := shCmp_ok q
      obtain ⟨r, h1, h2⟩ := cm_ok hx h.1.1.1
      exact ⟨pt_cmpA hx.kok h1 h2 h.1.1.2 (arg_ok hx a h.1.2 (okE_ok a hx tk h.1.2)) (arg_ok hx b h.2 (okE_ok b hx tk h.2)), fun o vs p z => nomatch z⟩
    · cases h
  | .chn o o' a b c, C, X, W, e, hx, tk, h => by
    unfold okT at h
    split at h
    · rename_i x op op' y z q
      simp only [Bool.and_eq_true, Bool.not_eq_true'] at h
      obtain ⟨p, rfl⟩ := shCmp_ok q
      obtain ⟨⟨⟨⟨⟨k1, k2⟩, k3⟩, k4⟩, k5⟩, k6⟩ := h
      obtain ⟨r, h1, h2⟩ := cm_ok hx k1
      obtain ⟨r', h1', h2'⟩ := cm_ok hx k2
      exact ⟨pt_chain2 hx.kok h1 h1' h2 h2' k3 (pe_frz (okE_ok a hx tk k4)) (pe_frz (okE_ok b hx tk k5)) (pe_frz (okE_ok c hx tk k6)), fun o vs p z => nomatch z⟩
    · cases h
  | .and a b, C, X, W, e, hx, tk, h => by
    unfold okT at h
    split at h
    · rename_i x y rest p q
      simp only [Bool.and_eq_true] at h
      cases shBool_ok q
      have hw := pw_andM (okT_ok a hx tk h.1).1 (b := y) (rest := rest) (pos := p) (n := semT F b) (by
        have hb := okT_ok b hx tk h.2
        cases rest with
        | nil => exact pw_and1M hb.1
        | cons r rs => exact hb.2 _ _ _ rfl)
      exact ⟨hw.pt, fun _ _ _ _ => hw⟩
    · cases h
  | .or a b, C, X, W, e, hx, tk, h => by
    unfold okT at h
    split at h
    · rename_i x y rest p q
      simp only [Bool.and_eq_true] at h
      cases shBool_ok q
      have hw := pw_orM (okT_ok a hx tk h.1).1 (b := y) (rest := rest) (pos := p) (n := semT F b) (by
        have hb := okT_ok b hx tk h.2
        cases rest with
        | nil => exact pw_or1M hb.1
        | cons r rs => exact hb.2 _ _ _ rfl)
      exact ⟨hw.pt, fun _ _ _ _ => hw⟩
    · cases h
  | .not a, C, X, W, e, hx, tk, h => by
    unfold okT at h
    split at h
    · rename_i x q
      obtain ⟨p, rfl⟩ := shUn_ok q
      exact ⟨pt_notM (okT_ok a hx tk h).1, fun o vs p z => nomatch z⟩
    · cases h
  | .yes, C, X, W, e, hx, tk, h => by simp [okT] at h
theorem okI_ok : ∀ (c : CI) {C : SC} {X : Cx} {W : WX} {tg e : Expr}, XOk G F C X → Takes X W → okI c C tg e = true → PI X tg e (tI G W (semI F c))
  | .seq a, C, X, W, tg, e, hx, tk, h => by
    rw [okI] at h
    exact pi_seq hx.kok hx.k (pe_frz (okE_ok a hx tk h))
  | .rng n as, C, X, W, tg, e, hx, tk, h => by
    unfold okI at h
    cases q : shCall e with
    | none => rw [q] at h; cases h
    | some p =>
      obtain ⟨x, es⟩ := p
      rw [q] at h
      simp only [Bool.and_eq_true, Bool.or_eq_true, beq_iff_eq] at h
      obtain ⟨p, p', rfl⟩ := shCall_ok q
      obtain ⟨⟨⟨⟨⟨rfl, k2⟩, rfl⟩, k4⟩, k5⟩, k6⟩ := h
      obtain ⟨hg, hm, _⟩ := fr_ok hx k2
      have ha := pa_dats (okEs_ok as hx tk k5 k6)
      rcases k4 with k4 | k4
      · obtain ⟨a, rfl⟩ := List.length_eq_one_iff.mp k4
        have hs2 : nst a = true := by unfold nsts at k5; rw [List.all_cons, Bool.and_eq_true] at k5; exact k5.1
        exact pi_rng1 hx.kok hg hm ha (star_cons hs2)
      · obtain ⟨a, b, rfl⟩ := len_two k4
        unfold nsts at k5
        simp only [List.all_cons, List.all_nil, Bool.and_true, Bool.and_eq_true] at k5
        exact pi_rng2 hx.kok hg hm ha (by rw [star_cons k5.1, star_cons k5.2]; rfl) (by rw [star_cons k5.2]; rfl)
  | .enum as, C, X, W, tg, e, hx, tk, h => by
    unfold okI at h
    cases q : shCall e with
    | none => rw [q] at h; cases h
    | some p =>
      obtain ⟨x, es⟩ := p
      rw [q] at h
      simp only [Bool.and_eq_true, beq_iff_eq] at h
      obtain ⟨p, p', rfl⟩ := shCall_ok q
      obtain ⟨⟨⟨⟨⟨rfl, k2⟩, k3⟩, k4⟩, k5⟩, k6⟩ := h
      obtain ⟨hg, hm, _⟩ := fr_ok hx k2
      have ha := pa_dats (okEs_ok as hx tk k5 k6)
      obtain ⟨a, rfl⟩ := List.length_eq_one_iff.mp k3
      obtain ⟨es, k, p, rfl⟩ := isTupE_ok k4
      have hs2 : nst a = true := by unfold nsts at k5; rw [List.all_cons, Bool.and_eq_true] at k5; exact k5.1
      exact pi_enumL hx.kok hx.k hg hm ha (star_cons hs2)
  | .zip as, C, X, W, tg, e, hx, tk, h => by
    unfold okI at h
    cases q : shCall e with
    | none => rw [q] at h; cases h
    | some p =>
      obtain ⟨x, es⟩ := p
      rw [q] at h
      simp only [Bool.and_eq_true, beq_iff_eq] at h
      obtain ⟨p, p', rfl⟩ := shCall_ok q
      obtain ⟨⟨⟨⟨⟨rfl, k2⟩, k3⟩, k4⟩, k5⟩, k6⟩ := h
      obtain ⟨hg, hm, _⟩ := fr_ok hx k2
      have ha := pa_dats (okEs_ok as hx tk k5 k6)
      obtain ⟨a, b, rfl⟩ := len_two k3
      obtain ⟨es, k, p, rfl⟩ := isTupE_ok k4
      unfold nsts at k5
      simp only [List.all_cons, List.all_nil, Bool.and_true, Bool.and_eq_true] at k5
      exact pi_zipL hx.kok hx.k hg hm ha (by rw [star_cons k5.1, star_cons k5.2]; rfl) (by rw [star_cons k5.2]; rfl)
end
end
end FW
set_option Elab.async false
set_option linter.all false
set_option maxRecDepth 100000
/-! FW14: the check of statements, and that it tells right -/
namespace FW
open PySem PySem.Spec L2

def starB : Expr → Bool
  | .Starred _ _ => true
  | _ => false
/-- which names are stored in turn by a, b = e, f -/
def swpE (sc : Scope) (ts vs : List Expr) : Option (Option (List Str)) :=
  if !(ts.length == 2 || ts.length == 3) || vs.length != ts.length then some none
  else if vs.any starB then some none
  else
    let line := (ts.head?.map (·.pos.line)).getD 0
    let names := ts.filterMap fun
      | .Name id pos => if sc.names.lookup id == some .local && pos.line == line then some id else none
      | _ => none
    if names.length != ts.length || names.eraseDups.length != names.length then some none
    else if vs.all (foldedForSure 8) then some none
    else if vs.all (constantsAlone 8) then none
    else some (some names)
theorem starB_eq : (fun (e : Expr) => match e with | .Starred .. => true | _ => false) = starB := by
  funext e; cases e <;> rfl
theorem swp_ok {env : Env} {ts vs : List Expr} {k k2 : Nat} {p p2 : Pos} {r : Option (List Str)} (hk : env.scope.kind = .function) (h : swpE env.scope ts vs = some r) : swappedStores [.Tuple ts k p] (.Tuple vs k2 p2) env = pure r := by
  unfold swpE at h
  unfold swappedStores
  have hb : env.blockKind = .function := by unfold Env.blockKind; rw [hk]; rfl
  have hb2 : (env.blockKind != .function) = false := by rw [hb]; rfl
  simp only [hb2, Bool.or_false, starB_eq]
  split at h
  · rename_i hc; cases h; rw [if_pos hc]
  · rename_i hc
    rw [if_neg hc]
    split at h
    · rename_i hc; cases h
      exact if_pos hc
    · rename_i hc2
      show (if vs.any starB = true then (pure none : Sem (Option (List Str))) else _) = _
      rw [if_neg hc2]
      simp only at h
      split at h
      · rename_i hc3; cases h; exact if_pos hc3
      · rename_i hc3
        refine Eq.trans (if_neg hc3) ?_
        split at h
        · rename_i hc4; cases h; exact if_pos hc4
        · rename_i hc4
          refine Eq.trans (if_neg hc4) ?_
          split at h
          · cases h
          · rename_i hc5; cases h; exact if_neg hc5

/-- no comprehension -/
def ncE : Expr → Bool
  | .ListComp _ _ _ _ => false
  | .SetComp _ _ _ _ => false
  | .DictComp _ _ _ _ _ => false
  | _ => true
theorem nc_ok {e : Expr} (h : ncE e = true) {t : Option Expr} {l : Nat} {env : Env} : swapsWith e t l env = pure false := by cases e <;> first | rfl | cases h
theorem nc1_ok {e t : Expr} (h : ncE e = true) {l : Nat} {env : Env} : swapsWithSole [t] e l env = pure false := by unfold swapsWithSole; exact nc_ok h
/-- name = [..]: is the store the comprehension's own? -/
def swB (C : SC) (x : Str) (px : Pos) : Expr → Option Bool
  | .ListComp _ _ sc p => if C.sc.kind == .function then some (C.sc.names.lookup x == some .local && px.line == p.line && !(sc.names.any fun (n, k) => n == x && (k == .local || k == .cell))) else none
  | _ => none
theorem swB_ok {C : SC} {x : Str} {px : Pos} {e : Expr} {b : Bool} {l : Nat} {env : Env} (hs : env.scope = C.sc) (h : swB C x px e = some b) : swapsWith e (some (.Name x px)) l env = pure b := by
  unfold swB at h
  split at h
  · rename_i elt gs sc p
    split at h
    · rename_i hk
      have h := Option.some.inj h
      subst h
      have hb : env.blockKind = .function := by unfold Env.blockKind; rw [hs, beq_iff_eq.mp hk]; rfl
      have hkn : env.kindOf x = C.sc.names.lookup x := by unfold Env.kindOf; rw [hs]
      unfold swapsWith
      simp only [hb, hkn]
      rfl
    · exact absurd h (fun z => nomatch z)
  · exact absurd h (fun z => nomatch z)
def shAsg : Stmt → Option (Expr × Expr × Pos)
  | .Assign [t] e p => some (t, e, p)
  | _ => none
theorem shAsg_ok {s : Stmt} {t e : Expr} {p : Pos} (h : shAsg s = some (t, e, p)) : s = .Assign [t] e p := by
  unfold shAsg at h
  split at h
  · cases h; rfl
  · cases h
def isNameE : Expr → Option (Str × Pos)
  | .Name x p => some (x, p)
  | _ => none
theorem isNameE_ok {e : Expr} {x : Str} {p : Pos} (h : isNameE e = some (x, p)) : e = .Name x p := by cases e <;> first | (cases h; rfl) | cases h
def isTup3 : Expr → Option (List Expr × Nat × Pos)
  | .Tuple es k p => some (es, k, p)
  | _ => none
theorem isTup3_ok {e : Expr} {es : List Expr} {k : Nat} {p : Pos} (h : isTup3 e = some (es, k, p)) : e = .Tuple es k p := by cases e <;> first | (cases h; rfl) | cases h
/-- a, b = e: no stores in turn -/
def noswB (C : SC) (tg e : Expr) : Bool := match isTup3 tg with
  | some (ts, _, _) => (match isTup3 e with
    | some (vs, _, _) => C.sc.kind == .function && (match swpE C.sc ts vs with
      | some none => true
      | _ => false)
    | none => true)
  | none => false
theorem tup3_none {e : Expr} (q : isTup3 e = none) {ts : List Expr} {k : Nat} {p : Pos} {env : Env} : swappedStores [.Tuple ts k p] e env = pure none := by cases e <;> first | (cases q; done) | rfl
theorem nosw_ok {C : SC} {tg e : Expr} {env : Env} (hs : env.scope = C.sc) (h : noswB C tg e = true) : swappedStores [tg] e env = pure none ∧ (∃ ts k p, tg = .Tuple ts k p) := by
  unfold noswB at h
  cases q : isTup3 tg with
  | none => rw [q] at h; cases h
  | some t =>
    obtain ⟨ts, k, p⟩ := t
    rw [q] at h
    cases isTup3_ok q
    refine ⟨?_, ts, k, p, rfl⟩
    simp only at h
    cases q2 : isTup3 e with
    | none => exact tup3_none q2
    | some t2 =>
      obtain ⟨vs, k2, p2⟩ := t2
      rw [q2] at h
      cases isTup3_ok q2
      simp only [Bool.and_eq_true, beq_iff_eq] at h
      have h2 := h.2
      split at h2
      · rename_i q3
        exact swp_ok (by rw [hs]; exact h.1) (by rw [hs]; exact q3)
      · cases h2
def shRaise : Stmt → Option Str
  | .Raise (some (.Call (.Name x _) [.Constant (.str _) _ _] [] _)) none _ => some x
  | _ => none
theorem shRaise_ok {s : Stmt} {x : Str} (h : shRaise s = some x) : ∃ p1 m j p2 p3 p4, s = .Raise (some (.Call (.Name x p1) [.Constant (.str m) j p2] [] p3)) none p4 := by
  unfold shRaise at h
  split at h
  · cases h; exact ⟨_, _, _, _, _, _, rfl⟩
  · cases h
def shTry : Stmt → Option (List Stmt × Str × List Stmt)
  | .Try body [.ExceptHandler (some (.Name x _)) none suite _] [] [] _ => some (body, x, suite)
  | _ => none
theorem shTry_ok {s : Stmt} {x : Str} {body suite : List Stmt} (h : shTry s = some (body, x, suite)) : ∃ p1 p2 p3, s = .Try body [.ExceptHandler (some (.Name x p1)) none suite p2] [] [] p3 := by
  unfold shTry at h
  split at h
  · cases h; exact ⟨_, _, _, rfl⟩
  · cases h
def shApp : Stmt → Option (Str × Pos × Expr × Pos)
  | .Expr (.Call (.Attribute (.Name x _) a ap) [e] [] cp) _ => if a == ("append" : Str) then some (x, ap, e, cp) else none
  | _ => none
theorem shApp_ok {s : Stmt} {x : Str} {ap cp : Pos} {e : Expr} (h : shApp s = some (x, ap, e, cp)) : ∃ p p2, s = .Expr (.Call (.Attribute (.Name x p) "append" ap) [e] [] cp) p2 := by
  unfold shApp at h
  split at h
  · split at h
    · rename_i hh; cases h; rw [beq_iff_eq.mp hh]; exact ⟨_, _, rfl⟩
    · cases h
  · cases h
def shExpr : Stmt → Option Expr
  | .Expr e _ => some e
  | _ => none
theorem shExpr_ok {s : Stmt} {e : Expr} (h : shExpr s = some e) : ∃ p, s = .Expr e p := by cases s <;> first | (cases h; exact ⟨_, rfl⟩) | cases h
def shRet : Stmt → Option (Option Expr)
  | .Return e _ => some e
  | _ => none
theorem shRet_ok {s : Stmt} {e : Option Expr} (h : shRet s = some e) : ∃ p, s = .Return e p := by cases s <;> first | (cases h; exact ⟨_, rfl⟩) | cases h
def shAug : Stmt → Option (Str × Operator × Expr)
  | .AugAssign (.Name x _) o e _ => some (x, o, e)
  | _ => none
theorem shAug_ok {s : Stmt} {x : Str} {o : Operator} {e : Expr} (h : shAug s = some (x, o, e)) : ∃ p p2, s = .AugAssign (.Name x p) o e p2 := by
  unfold shAug at h
  split at h
  · cases h; exact ⟨_, _, rfl⟩
  · cases h
def shIfS : Stmt → Option (Expr × List Stmt × List Stmt)
  | .If c a b _ => some (c, a, b)
  | _ => none
theorem shIfS_ok {s : Stmt} {c : Expr} {a b : List Stmt} (h : shIfS s = some (c, a, b)) : ∃ p, s = .If c a b p := by cases s <;> first | (cases h; exact ⟨_, rfl⟩) | cases h
def shWh : Stmt → Option (Expr × List Stmt)
  | .While c a [] _ => some (c, a)
  | _ => none
theorem shWh_ok {s : Stmt} {c : Expr} {a : List Stmt} (h : shWh s = some (c, a)) : ∃ p, s = .While c a [] p := by
  unfold shWh at h
  split at h
  · cases h; exact ⟨_, rfl⟩
  · cases h
def shFor : Stmt → Option (Expr × Expr × List Stmt)
  | .For t i a [] _ => some (t, i, a)
  | _ => none
theorem shFor_ok {s : Stmt} {t i : Expr} {a : List Stmt} (h : shFor s = some (t, i, a)) : ∃ p, s = .For t i a [] p := by
  unfold shFor at h
  split at h
  · cases h; exact ⟨_, rfl⟩
  · cases h
def iopB : B2 → Operator → Bool
  | .add, .Add => true | .sub, .Sub => true
  | _, _ => false
def simB : CS → Stmt → Bool
  | .pass, .Pass _ => true
  | .brk, .Break _ => true
  | .cnt, .Continue _ => true
  | _, _ => false
def setB (i : Nat) (a : CE) (C : SC) (s : Stmt) : Bool := (match shAsg s with
    | some (t, e, p) => (match isNameE t with
      | some (x, px) => C.N[i]? == some x && locB C x && okE a C e && (ncE e || (match swB C x px e with
        | some false => true
        | some true => (match a with | .comp _ _ _ _ _ => C.sc.names.lookup x == some .local | _ => false)
        | none => false))
      | none => false)
    | none => false)
mutual
def okS : CS → SC → Stmt → Bool
  | .nil, _, _ => false
  | .seq _ _, _, _ => false
  | .pass, _, s => (match s with | .Pass _ => true | _ => false)
  | .brk, _, s => (match s with | .Break _ => true | _ => false)
  | .cnt, _, s => (match s with | .Continue _ => true | _ => false)
  | .expr a, C, s => (match shExpr s with
    | some e => ncE e && okE a C e
    | none => false)
  | .ret a, C, s => (match shRet s with
    | some (some e) => okE a C e
    | _ => false)
  | .retN, C, s => (match shRet s with
    | some none => true
    | _ => false)
  | .set i a, C, s => setB i a C s
  | .setF i a, C, s => setB i a C s
  | .unp tg a, C, s => (match shAsg s with
    | some (t, e, p) => okG C tg t && noswB C t e && ncE e && C.calm && okE a C e
    | none => false)
  | .par i j as, C, s => (match shAsg s with
    | some (t, e, p) => (match isTup3 t, isTup3 e with
      | some ([.Name x px, .Name y py], _, _), some ([a, b], _, _) => C.calm && C.N[i]? == some x && C.N[j]? == some y && i != j && kindB C x .local && kindB C y .local && nst a && nst b && C.sc.kind == .function &&
          decide (swpE C.sc [.Name x px, .Name y py] [a, b] = some (some [x, y])) && okEs as C [a, b]
      | _, _ => false)
    | none => false)
  | .aug o i a, C, s => (match shAug s with
    | some (x, op, e) => C.N[i]? == some x && locB C x && iopB o op && okE a C e
    | none => false)
  | .ite t a b, C, s => (match shIfS s with
    | some (c, as, bs) => okT t C c && okB a C as && okB b C bs
    | none => false)
  | .whl t b, C, s => (match shWh s with
    | some (c, as) => okT t C c && okB b C as
    | none => false)
  | .for_ tg it b, C, s => (match shFor s with
    | some (t, i, as) => C.calm && nset i && okI it C t i && okG C tg t && okB b C as
    | none => false)
  | .raise c, C, s => C.calm && (match shRaise s with
    | some x => glB C x && (match C.gl.lookup x with
      | some (.exc c') => c' == c
      | _ => false)
    | none => false)
  | .try1 b c h, C, s => C.calm && (match shTry s with
    | some (body, x, suite) => glB C x && (match C.gl.lookup x with
      | some (.exc c') => c' == c
      | _ => false) && !suite.isEmpty && okB b C body && okB h { C with calm := false } suite
    | none => false)
  | .app i a, C, s => (match shApp s with
    | some (x, ap, e, cp) => nmB C i x && nst e && ap.endLine == cp.line && okE a C e
    | none => false)
  | .put i k a, C, s => (match shAsg s with
    | some (t, e, p) => (match shSub t with
      | some (o, ke) => nmE C i o && plainB ke && ncE e && okE k C ke && okE a C e
      | none => false)
    | none => false)
def okB : CS → SC → List Stmt → Bool
  | .nil, _, ss => ss.isEmpty
  | .seq a b, C, ss => (match ss with
    | s :: rest => okS a C s && okB b C rest
    | [] => false)
  | _, _, _ => false
end
section
variable {G : Gx} {F : Fi}
theorem XOk.tr {C : SC} {X : Cx} {pn : List (Addr × Obj)} {xe : Value → Shared → Prop} (hx : XOk G F C X) : XOk G F C (X.tr pn xe) :=
  ⟨hx.k, hx.kok, hx.n, hx.nd, hx.sc, hx.calm, hx.un, hx.fnl, hx.fr, hx.cst, hx.fn, hx.exc⟩
theorem XOk.suite {C : SC} {X : Cx} {a : Addr} {pn : List (Addr × Obj)} (hx : XOk G F C X) : XOk G F { C with calm := false } (X.suite a pn) :=
  ⟨hx.k, hx.kok, hx.n, hx.nd, hx.sc, fun z => (nomatch z), hx.un, hx.fnl, hx.fr, hx.cst, fun z => (nomatch z), hx.exc⟩
abbrev Stk (X : Cx) : Prop := X.stack = X.env :: X.outer ∧ X.env.frame = some X.env.locals
theorem sub_asg {x : Str} {p p2 : Pos} {k : Expr} {env : Env} (h : plainB k = true) : ∀ v, assign (.Subscript (.Name x p) k p2) env v = (do
      let ov ← holding [v] (eval (.Name x p) env)
      let iv ← holding [v, ov] (eval k env)
      standAt p2
      holding [v, ov, iv] (setItem ov iv v)
      release [v, ov, iv] []) := by
  cases k <;> first | (intro _; rfl) | cases h
theorem setB_ok {i : Nat} {a : CE} {C : SC} {X : Cx} {W : WX} {s : Stmt} (hx : XOk G F C X) (tkW : Takes X W) (h : setB i a C s = true) : PS X s (tS G W (bnd (semO F a) (putM i))) := by
  unfold setB at h
  cases q : shAsg s with
  | none => rw [q] at h; cases h
  | some t3 =>
    obtain ⟨t, e, p⟩ := t3
    rw [q] at h
    cases shAsg_ok q
    simp only at h
    cases q2 : isNameE t with
    | none => rw [q2] at h; cases h
    | some t2 =>
      obtain ⟨x, px⟩ := t2
      rw [q2] at h
      cases isNameE_ok q2
      simp only [Bool.and_eq_true, Bool.or_eq_true, beq_iff_eq] at h
      obtain ⟨⟨⟨k1, k2⟩, k3⟩, k4⟩ := h
      have hN : X.N.Nodup := by rw [hx.n]; exact hx.nd
      have hi : X.N[i]? = some x := by rw [hx.n]; exact k1
      rcases k4 with k4 | k4
      · exact ps_setD hN hi (loc_ok hx k2) (okE_ok a hx tkW k3) (nc_ok k4) (loc_fn hx k2)
      · cases q3 : swB C x px e with
        | none => rw [q3] at k4; cases k4
        | some b =>
          rw [q3] at k4
          cases b with
          | false => exact ps_setD hN hi (loc_ok hx k2) (okE_ok a hx tkW k3) (swB_ok hx.sc q3) (loc_fn hx k2)
          | true =>
            simp only at k4
            cases a with
            | comp own it tg t el =>
              simp only [beq_iff_eq] at k4
              unfold okE at k3
              cases q5 : shComp e with
              | none => rw [q5] at k3; cases k3
              | some t5 =>
                obtain ⟨elt, tgE, itE, ifs, sc⟩ := t5
                rw [q5] at k3
                simp only [Bool.and_eq_true, List.all_eq_true, decide_eq_true_eq] at k3
                obtain ⟨p5, rfl⟩ := shComp_ok q5
                obtain ⟨⟨⟨⟨⟨⟨⟨j1, j2⟩, j3⟩, j4⟩, j5⟩, j6⟩, j7⟩, j8⟩ := k3
                have hc := hx.calm j1
                refine ps_setCompD (is := tgIs tg) hc hN hi (by rw [hx.sc]; exact k4) (swB_ok hx.sc q3) (okI_ok it hx tkW j4) (blkOk_by (by rw [hx.n, hx.sc]; exact j2)) j6 (fun s H Cc cl fp => okG_ok tg hx.blk hc j5) (fun s H Cc cl fp => ?_) (fun s H Cc cl fp => pe_frz (okE_ok el hx.blk takes_no j8)) (set_ok' j3)
                split at j7
                · split at j7
                  · exact ⟨fun pins s σ H Q I ⟨B, Z, ρ, hr, hw⟩ => pts_nil.run pins s σ H Q I (hw Z H hr (Le.refl _))⟩
                  · cases j7
                · exact pts_one (okT_ok t hx.blk takes_no j7).1
                · cases j7
            | _ => cases k4
variable {tk : Nat → Nat → Option Bool} {fuel : Nat}
mutual
theorem okS_ok (htk : ∀ c' c b, tk c' c = some b → PySem.W.exmOne G.K (.ref (G.cls c')) (.ref (G.cls c)) = some b) : ∀ (c : CS) {C : SC} {X : Cx} {W : WX} {s : Stmt}, XOk G F C X → Takes X W → PassesOwn (model X.prog X.w) X.A X.env X.xe → Stk X → okS c C s = true → PS X s (tS G W (semS F tk fuel c))
  | .nil, C, X, W, s, hx, tkW, hp, hst, h => by simp [okS] at h
  | .seq _ _, C, X, W, s, hx, tkW, hp, hst, h => by simp [okS] at h
  | .pass, C, X, W, s, hx, tkW, hp, hst, h => by
    unfold okS at h
    split at h
    · exact ps_passD
    · cases h
  | .brk, C, X, W, s, hx, tkW, hp, hst, h => by
    unfold okS at h
    split at h
    · exact ps_breakD
    · cases h
  | .cnt, C, X, W, s, hx, tkW, hp, hst, h => by
    unfold okS at h
    split at h
    · exact ps_contD
    · cases h
  | .expr a, C, X, W, s, hx, tkW, hp, hst, h => by
    unfold okS at h
    cases q : shExpr s with
    | none => rw [q] at h; cases h
    | some e =>
      rw [q] at h
      simp only [Bool.and_eq_true] at h
      obtain ⟨p, rfl⟩ := shExpr_ok q
      exact ps_exprD (okE_ok a hx tkW h.2) (nc_ok h.1)
  | .ret a, C, X, W, s, hx, tkW, hp, hst, h => by
    unfold okS at h
    split at h
    · rename_i e q
      obtain ⟨p, rfl⟩ := shRet_ok q
      exact ps_retD (okE_ok a hx tkW h)
    · cases h
  | .retN, C, X, W, s, hx, tkW, hp, hst, h => by
    unfold okS at h
    split at h
    · rename_i q
      obtain ⟨p, rfl⟩ := shRet_ok q
      exact ps_retND
    · cases h
  | .set i a, C, X, W, s, hx, tkW, hp, hst, h => by
    unfold okS at h
    exact setB_ok hx tkW h
  | .setF i a, C, X, W, s, hx, tkW, hp, hst, h => by
    unfold okS at h
    exact PS.imp (setB_ok hx tkW h) setF_to
  | .unp tg a, C, X, W, s, hx, tkW, hp, hst, h => by
    unfold okS at h
    cases q : shAsg s with
    | none => rw [q] at h; cases h
    | some t3 =>
      obtain ⟨t, e, p⟩ := t3
      rw [q] at h
      cases shAsg_ok q
      simp only [Bool.and_eq_true] at h
      obtain ⟨⟨⟨⟨k1, k2⟩, k3⟩, k4⟩, k5⟩ := h
      obtain ⟨h1, ts, k, p, rfl⟩ := nosw_ok hx.sc k2
      exact ps_unpD (pe_frz (okE_ok a hx tkW k5)) (okG_ok tg hx (hx.calm k4) k1) (nc1_ok k3) h1 rfl
  | .par i j as, C, X, W, s, hx, tkW, hp, hst, h => by
    unfold okS at h
    cases q : shAsg s with
    | none => rw [q] at h; cases h
    | some t3 =>
      obtain ⟨t, e, p⟩ := t3
      rw [q] at h
      cases shAsg_ok q
      simp only at h
      split at h
      · rename_i x px y py kt pt a b k2 p2 q1 q2
        cases isTup3_ok q1
        cases isTup3_ok q2
        simp only [Bool.and_eq_true, beq_iff_eq, decide_eq_true_eq, bne_iff_ne, ne_eq] at h
        obtain ⟨⟨⟨⟨⟨⟨⟨⟨⟨⟨k1, k2⟩, k3⟩, k4⟩, k5⟩, k6⟩, k7⟩, k8⟩, k9⟩, k10⟩, k11⟩ := h
        have hns : nsts [a, b] = true := by unfold nsts; simp [k7, k8]
        exact ps_parD (hx.calm k1) (by rw [hx.n]; exact hx.nd) (by rw [hx.n]; exact k2) (by rw [hx.n]; exact k3) k4 (by rw [hx.sc]; exact kindB_ok k5) (by rw [hx.sc]; exact kindB_ok k6) (pa_dats (okEs_ok as hx tkW hns k11))
          (swp_ok (by rw [hx.sc]; exact k9) (by rw [hx.sc]; exact k10)) rfl
      · cases h
  | .aug o i a, C, X, W, s, hx, tkW, hp, hst, h => by
    unfold okS at h
    cases q : shAug s with
    | none => rw [q] at h; cases h
    | some t3 =>
      obtain ⟨x, op, e⟩ := t3
      rw [q] at h
      obtain ⟨p, p2, rfl⟩ := shAug_ok q
      simp only [Bool.and_eq_true, beq_iff_eq] at h
      obtain ⟨⟨⟨k1, k2⟩, k3⟩, k4⟩ := h
      have hN : X.N.Nodup := by rw [hx.n]; exact hx.nd
      have hi : X.N[i]? = some x := by rw [hx.n]; exact k1
      cases o <;> cases op <;> first | (cases k3; done) | skip
      · exact ps_augD hN hi (loc_ok hx k2) (pe_frz (okE_ok a hx tkW k4)) iop_add (fun Z H x y d e f Q zok rx ry hf k => intG_ok (P := fun _ _ => True) hx.kok (fun _ _ _ => trivial) Z H x y d e f Q zok rx ry hf k |> fun ⟨i, j, e1, e2, _, q⟩ => ⟨i, j, e1, e2, q⟩) (loc_fn hx k2)
      · exact ps_augD hN hi (loc_ok hx k2) (pe_frz (okE_ok a hx tkW k4)) iop_sub (subG_ok hx.kok) (loc_fn hx k2)
  | .ite t a b, C, X, W, s, hx, tkW, hp, hst, h => by
    unfold okS at h
    cases q : shIfS s with
    | none => rw [q] at h; cases h
    | some t3 =>
      obtain ⟨c, as, bs⟩ := t3
      rw [q] at h
      obtain ⟨p, rfl⟩ := shIfS_ok q
      simp only [Bool.and_eq_true] at h
      exact ps_ifD (okT_ok t hx tkW h.1.1).1 (okB_ok htk a hx tkW hp hst h.1.2) (okB_ok htk b hx tkW hp hst h.2)
  | .whl t b, C, X, W, s, hx, tkW, hp, hst, h => by
    unfold okS at h
    cases q : shWh s with
    | none => rw [q] at h; cases h
    | some t3 =>
      obtain ⟨c, as⟩ := t3
      rw [q] at h
      obtain ⟨p, rfl⟩ := shWh_ok q
      simp only [Bool.and_eq_true] at h
      exact ps_whileD hp (okT_ok t hx tkW h.1).1 (okB_ok htk b hx tkW hp hst h.2)
  | .for_ tg it b, C, X, W, s, hx, tkW, hp, hst, h => by
    unfold okS at h
    cases q : shFor s with
    | none => rw [q] at h; cases h
    | some t3 =>
      obtain ⟨t, i, as⟩ := t3
      rw [q] at h
      obtain ⟨p, rfl⟩ := shFor_ok q
      simp only [Bool.and_eq_true] at h
      obtain ⟨⟨⟨⟨k1, k2⟩, k3⟩, k4⟩, k5⟩ := h
      exact ps_forD hp (hx.calm k1) (okI_ok it hx tkW k3) (okG_ok tg hx (hx.calm k1) k4) (okB_ok htk b hx tkW hp hst k5) (set_ok' k2)
  | .raise c, C, X, W, s, hx, tkW, hp, hst, h => by
    unfold okS at h
    rw [Bool.and_eq_true] at h
    obtain ⟨k1, h⟩ := h
    cases q : shRaise s with
    | none => rw [q] at h; cases h
    | some x =>
      rw [q] at h
      obtain ⟨p1, m, j, p2, p3, p4, rfl⟩ := shRaise_ok q
      simp only [Bool.and_eq_true] at h
      obtain ⟨hg, hd⟩ := gl_ok hx h.1
      have h2 := h.2
      cases q3 : C.gl.lookup x with
      | none => rw [q3] at h2; cases h2
      | some gv =>
        rw [q3] at h2
        cases gv with
        | exc c' =>
          cases (beq_iff_eq.mp h2 : c' = c)
          obtain ⟨e1, e2, e3, e4, Bn, nid, iid, bm, fb, e5⟩ := hx.exc x _ q3
          exact ps_raiseD (hx.calm k1) tkW (pmk_own fb e5 e1 e2 (raises_own e3 e4) hg hd) fun σ H Q q => q
        | _ => cases h2
  | .try1 b c hd, C, X, W, s, hx, tkW, hp, hst, h => by
    unfold okS at h
    rw [Bool.and_eq_true] at h
    obtain ⟨k1, h⟩ := h
    cases q : shTry s with
    | none => rw [q] at h; cases h
    | some t3 =>
      obtain ⟨body, x, suite⟩ := t3
      rw [q] at h
      obtain ⟨p1, p2, p3, rfl⟩ := shTry_ok q
      simp only [Bool.and_eq_true] at h
      obtain ⟨⟨⟨⟨j1, j2⟩, j3⟩, j4⟩, j5⟩ := h
      obtain ⟨hg, hdb⟩ := gl_ok hx j1
      cases q3 : C.gl.lookup x with
      | none => rw [q3] at j2; cases j2
      | some gv =>
        rw [q3] at j2
        cases gv with
        | exc c' =>
          cases (beq_iff_eq.mp j2 : c' = c)
          obtain ⟨e1, e2, e3, e4, _⟩ := hx.exc x _ q3
          cases suite with
          | nil => cases j3
          | cons s0 ss =>
            exact ps_tryD hx.k hst.1 hst.2 ⟨hg, hdb, .inl e1⟩ tkW (fun c2 b2 hb2 => htk c2 _ b2 hb2) (fun W' pn xe tk' hp' => okB_ok htk b (hx.tr (pn := pn) (xe := xe)) tk' hp' hst j4)
              (fun a oe pn _ => okB_ok htk hd (hx.suite (a := a) (pn := (a, oe) :: pn)) takes_no PassesOwn.never hst j5)
        | _ => cases j2
  | .app i a, C, X, W, s, hx, tkW, hp, hst, h => by
    unfold okS at h
    cases q : shApp s with
    | none => rw [q] at h; cases h
    | some t3 =>
      obtain ⟨x, ap, e, cp⟩ := t3
      rw [q] at h
      obtain ⟨p, p2, rfl⟩ := shApp_ok q
      simp only [Bool.and_eq_true] at h
      obtain ⟨⟨⟨k1, k2⟩, k3⟩, k4⟩ := h
      exact ps_appD (p2 := p2) hx.kok hx.k (nm_var hx k1) (pe_frz (okE_ok a hx tkW k4)) k3 (star_cons k2) rfl (star_few (by unfold nsts; simp [k2]) (by simp))
  | .put i k a, C, X, W, s, hx, tkW, hp, hst, h => by
    unfold okS at h
    cases q : shAsg s with
    | none => rw [q] at h; cases h
    | some t3 =>
      obtain ⟨t, e, p⟩ := t3
      rw [q] at h
      cases shAsg_ok q
      simp only at h
      cases q2 : shSub t with
      | none => rw [q2] at h; cases h
      | some t2 =>
        obtain ⟨o, ke⟩ := t2
        rw [q2] at h
        obtain ⟨p2, rfl⟩ := shSub_ok q2
        simp only [Bool.and_eq_true] at h
        obtain ⟨⟨⟨⟨k1, k2⟩, k3⟩, k4⟩, k5⟩ := h
        have hv := nmE_ok hx k1
        unfold nmE at k1
        cases q5 : shName o with
        | none => rw [q5] at k1; cases k1
        | some x =>
          obtain ⟨p5, rfl⟩ := shName_ok q5
          refine ps_putD hx.kok hv (pe_frz (okE_ok a hx tkW k5)) (pe_frz (okE_ok k hx tkW k4)) (nc1_ok k3) rfl (sub_asg k2)
theorem okB_ok (htk : ∀ c' c b, tk c' c = some b → PySem.W.exmOne G.K (.ref (G.cls c')) (.ref (G.cls c)) = some b) : ∀ (c : CS) {C : SC} {X : Cx} {W : WX} {ss : List Stmt}, XOk G F C X → Takes X W → PassesOwn (model X.prog X.w) X.A X.env X.xe → Stk X → okB c C ss = true → PSs X ss (tS G W (semS F tk fuel c))
  | .nil, C, X, W, ss, hx, tkW, hp, hst, h => by
    cases ss with
    | nil => exact pss_nilD
    | cons s ss => simp [okB] at h
  | .seq a b, C, X, W, ss, hx, tkW, hp, hst, h => by
    cases ss with
    | nil => simp [okB] at h
    | cons s ss =>
      rw [okB, Bool.and_eq_true] at h
      exact pss_consD (okS_ok htk a hx tkW hp hst h.1) (okB_ok htk b hx tkW hp hst h.2)
  | .pass, C, X, W, ss, hx, tkW, hp, hst, h => by simp [okB] at h
  | .brk, C, X, W, ss, hx, tkW, hp, hst, h => by simp [okB] at h
  | .cnt, C, X, W, ss, hx, tkW, hp, hst, h => by simp [okB] at h
  | .expr _, C, X, W, ss, hx, tkW, hp, hst, h => by simp [okB] at h
  | .ret _, C, X, W, ss, hx, tkW, hp, hst, h => by simp [okB] at h
  | .retN, C, X, W, ss, hx, tkW, hp, hst, h => by simp [okB] at h
  | .set _ _, C, X, W, ss, hx, tkW, hp, hst, h => by simp [okB] at h
  | .setF _ _, C, X, W, ss, hx, tkW, hp, hst, h => by simp [okB] at h
  | .unp _ _, C, X, W, ss, hx, tkW, hp, hst, h => by simp [okB] at h
  | .par _ _ _, C, X, W, ss, hx, tkW, hp, hst, h => by simp [okB] at h
  | .aug _ _ _, C, X, W, ss, hx, tkW, hp, hst, h => by simp [okB] at h
  | .ite _ _ _, C, X, W, ss, hx, tkW, hp, hst, h => by simp [okB] at h
  | .whl _ _, C, X, W, ss, hx, tkW, hp, hst, h => by simp [okB] at h
  | .for_ _ _ _, C, X, W, ss, hx, tkW, hp, hst, h => by simp [okB] at h
  | .raise _, C, X, W, ss, hx, tkW, hp, hst, h => by simp [okB] at h
  | .try1 _ _ _, C, X, W, ss, hx, tkW, hp, hst, h => by simp [okB] at h
  | .app _ _, C, X, W, ss, hx, tkW, hp, hst, h => by simp [okB] at h
  | .put _ _ _, C, X, W, ss, hx, tkW, hp, hst, h => by simp [okB] at h
end
end
end FW
set_option Elab.async false
set_option linter.all false
set_option maxRecDepth 100000
/-! FW15: a text's defs keep their promises -/
namespace FW
open PySem PySem.Spec L2

structure DI where
  name : Str
  loc : Str
  st : Stmt
  N : List Str
  ps : List Str
  cd : CD
def DI.rec' (d : DI) : He.DefD := ⟨(d.loc, none), d.name, d.name, defArgs d.st, defBody d.st, defScope d.st, [], []⟩
def DI.Bnd (d : DI) : Prop := ∀ (kV doc pm : Value) (an : Option Addr) (cdv ct : Value) (us : List Value), us.length = d.ps.length → bindArgs (PySem.W.fnOf d.name d.name (defArgs d.st) (defBody d.st) (defScope d.st) .none kV doc pm an cdv ct) ⟨us, []⟩ = pure (d.ps.zip us)
def DI.sc (d : DI) (gl : List (Str × GV)) (fr : List Str) : SC := ⟨d.N, defScope d.st, true, gl, fr, none⟩
def fnB (N ps : List Str) (sc : Scope) : Bool := sc.kind == .function && !sc.isCoroutine && !sc.isGenerator && decide N.Nodup && N.take ps.length == ps && (ps.all fun x => sc.names.lookup x == some .local || sc.names.lookup x == some .cell) && sc.names.all fun y => !(y.2 == .free)
theorem fnB_ok {N ps : List Str} {sc : Scope} (h : fnB N ps sc = true) : FnScope N ps sc := by
  unfold fnB at h
  simp only [Bool.and_eq_true, beq_iff_eq, Bool.not_eq_true', decide_eq_true_eq, List.all_eq_true, Bool.or_eq_true, beq_eq_false_iff_ne] at h
  obtain ⟨⟨⟨⟨⟨⟨h1, h2⟩, h3⟩, h4⟩, h5⟩, h6⟩, h7⟩ := h
  exact ⟨h1, h2, h3, h4, h5, h6, h7⟩
def DI.okB (d : DI) (gl : List (Str × GV)) (fr : List Str) : Bool := fnB d.N d.ps (defScope d.st) && FW.okB d.cd.body (d.sc gl fr) (defBody d.st) && d.cd.np == d.ps.length && d.cd.nn == d.N.length

section
variable {P : Program} {w : World} {K : PySem.W.Frag} {mg : Str → Option Value} {base : Heap} {G : Gx} {ds : List DI} {gl : List (Str × GV)} {fr : List Str} {tk : Nat → Nat → Option Bool} {fuel : Nat}
abbrev cdsOf (ds : List DI) : List CD := ds.map (·.cd)
/-- what the module tells -/
structure TabOk (G : Gx) (mg : Str → Option Value) (ds : List DI) (gl : List (Str × GV)) (fr : List Str) (tk : Nat → Nat → Option Bool) : Prop where
  kok : KOk G
  free : ∀ x, fr.contains x = true → mg x = none
  cst : ∀ x d, gl.lookup x = some (.cst d) → ∃ u v, mg x = some u ∧ RelV v u ∧ ∀ Z, RelD G Z v d
  fn : ∀ x i n, gl.lookup x = some (.fn i n) → ∃ d, ds[i]? = some d ∧ d.cd.np = n ∧ mg x = some (.ref (He.ga G.K d.loc)) ∧ ∃ fd, FunD G.K d.name d.name (defArgs d.st) (defBody d.st) (defScope d.st) [] [] (He.ga G.K d.loc) fd
  exc : ∀ x c, gl.lookup x = some (.exc c) → mg x = some (.ref (G.cls c)) ∧ PySem.W.keepIn G.K (.ref (G.cls c)) = true ∧ PySem.W.subIn G.K (.ref (G.cls c)) (.type "BaseException") = some true ∧ PySem.W.typeIn G.K (.ref (G.cls c)) = some (.type "type") ∧
    ∃ (B newId initId : String) (bmB : List Value), ExcBaseFacts B newId initId bmB ∧ PySem.W.excIn G.K (G.cls c) bmB newId = true
  tk : ∀ c' c b, tk c' c = some b → PySem.W.exmOne G.K (.ref (G.cls c')) (.ref (G.cls c)) = some b
  ok : ∀ d ∈ ds, d.okB gl fr = true
  bnd : ∀ d ∈ ds, d.Bnd
theorem start_get {N : List Str} {vs : List V} {i : Nat} (h : i < vs.length) : (L2.start N vs)[i]? = some vs[i]? := by
  unfold L2.start
  rw [List.getElem?_append_left (by simpa using h), List.getElem?_map]
  rw [List.getElem?_eq_getElem h]; rfl
theorem rl_start {Z : Addr → Option D} {H : Hp} {vs : List V} {dl : List D} {N : List Str} (zok : ZOk G Z H) (rd : RelDs G Z vs dl) (hN : vs.length ≤ N.length) : Rl G ⟨Z, H, noM⟩ Z H (L2.start N vs) (env0 N.length (dl.map .fz)) := by
  refine ⟨zok, .refl, ?_, fun _ => none, ⟨fun _ _ h => (nomatch h), fun _ _ h => (nomatch h), fun _ _ h => (nomatch h)⟩, fun i o e => ?_⟩
  · unfold L2.start env0
    simp only [List.length_append, List.length_map, List.length_replicate, rd.length]
    omega
  · unfold env0 at e
    have hi : i < dl.length := by
      by_cases hi : i < dl.length
      · exact hi
      · rw [List.getElem?_append_right (by simpa using hi), List.getElem?_replicate] at e
        split at e <;> cases e
    rw [List.getElem?_append_left (by simpa using hi), List.getElem?_map, List.getElem?_map, List.getElem?_eq_getElem hi] at e
    cases e
    have hv : i < vs.length := by rw [rd.length]; exact hi
    refine ⟨vs[i], by rw [start_get hv, List.getElem?_eq_getElem hv], ?_⟩
    obtain ⟨d, e2, r⟩ := rd.at (List.getElem?_eq_getElem hv)
    rw [List.getElem?_eq_getElem hi] at e2; cases e2
    exact .fz r
theorem new_end {Z Z' : Addr → Option D} {H H' : Hp} {σ : L2.St} {ρ : En} {v : V} {o : O} (r : RlR G ⟨Z, H, noM⟩ Z' H' σ ρ v o) : NewR G Z H Z' H' v o :=
  ⟨r.ext, r.zok, let ⟨U, a, _, c⟩ := r.env; ⟨U, fun p w e => ⟨(a.b p w e).resolve_right id, a.z p w e, a.h p w e⟩, c⟩⟩
theorem tab_ok (T : TabOk G mg ds gl fr tk) (hK : G.K = K) : ∀ (k i : Nat) (d : DI) (fd : FuncData), ds[i]? = some d → FunD K d.name d.name (defArgs d.st) (defBody d.st) (defScope d.st) [] [] (He.ga K d.loc) fd →
    FnOk P w K mg base (L2.CX P w) k (He.ga K d.loc) fd d.ps (spF G (runF (cdsOf ds) tk fuel k i) d.cd.np) := by
  intro k
  induction k with
  | zero =>
    intro i d fd hd F
    refine ⟨fun vs H Q E h => ?_, fun A outer s H args us vs Q E _ _ _ _ h => ?_⟩
    · obtain ⟨Z, dl, _, _, _, z⟩ := h; exact z.elim
    · obtain ⟨Z, dl, _, _, _, z⟩ := h; exact z.elim
  | succ k ih =>
    intro i d fd hd F
    have hok := T.ok d (List.mem_of_getElem? hd)
    unfold DI.okB at hok
    simp only [Bool.and_eq_true, beq_iff_eq] at hok
    obtain ⟨⟨⟨k1, k2⟩, k3⟩, k4⟩ := hok
    have S := fnB_ok k1
    have hpl : d.ps.length ≤ d.N.length := by have := congrArg List.length S.pre; rw [List.length_take] at this; omega
    refine F.ok S (fun vs H Q E h => ?_) fun cdv A outer s H vs Q E hr h => ?_
    · obtain ⟨Z, dl, _, rd, hn, _⟩ := h
      rw [rd.length, hn, k3]
    · obtain ⟨Z, dl, zok, rd, hn, hfn⟩ := h
      refine ⟨tS G (fun cls dd _ H => E cls dd H) (semS (runF (cdsOf ds) tk fuel k) tk fuel d.cd.body), ?_, ⟨Z, H, noM⟩, Z, _, rl_start (N := d.N) zok rd (by rw [rd.length, hn, k3]; exact hpl), ?_⟩
      · refine okB_ok T.tk d.cd.body (C := d.sc gl fr) ?_ (takes_of rfl rfl rfl rfl) (passes_of rfl) ⟨rfl, rfl⟩ k2
        exact ⟨hK.symm, T.kok, rfl, S.nd, rfl, fun _ => rfl, by have := hr.un; show (A.deeper _).units + 65 < cLine; omega, fun _ _ => rfl, T.free, T.cst, fun _ x i n e => by
          obtain ⟨d2, e1, e2, e3, fd2, F2⟩ := T.fn x i n e
          rw [hK] at F2 e3
          refine ⟨k, He.ga K d2.loc, fd2, d2.ps, e2 ▸ ih i d2 fd2 e1 F2, hr, e3, F2.kp, F2.bindsN (T.bnd d2 (List.mem_of_getElem? e1))⟩, fun x c e => by
          rw [← hK]; exact T.exc x c e⟩
      · have e1 : runF (cdsOf ds) tk fuel (k + 1) i (dl.map .fz) = frOf (semS (runF (cdsOf ds) tk fuel k) tk fuel d.cd.body (env0 d.N.length (dl.map .fz))) := by
          have : (cdsOf ds)[i]? = some d.cd := by rw [List.getElem?_map, hd]; rfl
          show (match (cdsOf ds)[i]? with | some d => runD (runF (cdsOf ds) tk fuel k) tk fuel d (dl.map .fz) | none => .stuck) = _
          rw [this]
          show frOf (semS _ tk fuel d.cd.body (env0 d.cd.nn _)) = _
          rw [k4]
        rw [e1] at hfn
        cases q : semS (runF (cdsOf ds) tk fuel k) tk fuel d.cd.body (env0 d.N.length (dl.map .fz)) with
        | stuck => rw [q] at hfn; exact hfn.elim
        | exc c ρ' =>
          rw [q] at hfn
          exact fun σ' Z' H' r _ => hfn Z' H' r.ext r.zok
        | ok fl ρ' =>
          rw [q] at hfn
          cases fl with
          | nx => exact fun σ' Z' H' r _ => hfn .non Z' H' (.of_fz r.ext r.zok trivial)
          | bk => exact hfn.elim
          | ct => exact hfn.elim
          | rt o => exact fun v σ' Z' H' r _ => hfn v Z' H' (new_end r)
end
end FW
set_option Elab.async false
set_option linter.all false
set_option maxRecDepth 100000
/-! FW16: what the module tells, the law's end -/
namespace FW
open PySem PySem.Spec L2
mutual
/-- a constant of the text, as plain data -/
def valB (K : PySem.W.Frag) : D → Value → Bool
  | .non, u => (match u with | .none => true | _ => false)
  | .bl b, u => (match u with | .bool c => b == c | _ => false)
  | .int i, u => (match u with | .int j _ => i == j | _ => false)
  | .str s, u => (match u with | .str y _ => y == ⟨s.toArray⟩ | _ => false)
  | .tup l, u => (match u with
    | .ref p => (match K.lookup p with
      | some o => decide (o.cls = .type "tuple") && (match o.data with
        | .seq its _ => decide (its.size ≤ sizeLine) && valsB K l its.toList
        | _ => false)
      | none => false)
    | _ => false)
  | _, _ => false
def valsB (K : PySem.W.Frag) : List D → List Value → Bool
  | [], [] => true
  | d :: ds, u :: us => valB K d u && valsB K ds us
  | _, _ => false
end
/-- the constants' relation, and the script's -/
def scrK (K : PySem.W.Frag) (a : Addr) (ns : List Int) : Prop := ∃ (o : Obj) (its : Array Value) (n : Nat), K.lookup a = some o ∧ o.cls = .type "list" ∧ o.dict = none ∧ o.data = .seq its n ∧ its.size ≤ sizeLine ∧ Vals (ns.map V.int) its.toList
def gxOf (K : PySem.W.Frag) (exs : List Str) (a : Addr) (ns : List Int) : Gx := ⟨K, fun p d => valB K d (.ref p) = true ∨ (p = a ∧ d = .scr ns ∧ scrK K a ns), fun c => He.ga K (exs.getD c "")⟩
section
variable {K : PySem.W.Frag} {exs : List Str} {a : Addr} {ns : List Int}
mutual
theorem val_rel : ∀ (d : D) {u : Value}, valB K d u = true → ∃ v, RelV v u ∧ ∀ Z, RelD (gxOf K exs a ns) Z v d
  | .non, u, h => by
    unfold valB at h
    split at h
    · exact ⟨.non, rfl, fun _ => trivial⟩
    · cases h
  | .bl b, u, h => by
    unfold valB at h
    split at h
    · rename_i c; cases (beq_iff_eq.mp h : b = c); exact ⟨.bl b, rfl, fun _ => rfl⟩
    · cases h
  | .int i, u, h => by
    unfold valB at h
    split at h
    · rename_i j t; cases (beq_iff_eq.mp h : i = j); exact ⟨.int i, ⟨t, rfl⟩, fun _ => rfl⟩
    · cases h
  | .str s, u, h => by
    unfold valB at h
    split at h
    · rename_i y t; exact ⟨.str y, ⟨t, rfl⟩, fun _ => (beq_iff_eq.mp h : y = _)⟩
    · cases h
  | .tup l, u, h => by
    have h' := h
    unfold valB at h
    split at h
    · rename_i p
      exact ⟨.ref p, rfl, fun _ => .inr (.inl h')⟩
    · cases h
  | .lst l, u, h => by simp [valB] at h
  | .dic l, u, h => by simp [valB] at h
  | .scr l, u, h => by simp [valB] at h
theorem vals_rel : ∀ (ds : List D) {us : List Value}, valsB K ds us = true → ∃ vs, Vals vs us ∧ ∀ Z, RelDs (gxOf K exs a ns) Z vs ds
  | [], [], h => ⟨[], .nil, fun _ => .nil⟩
  | [], _ :: _, h => by simp [valsB] at h
  | _ :: _, [], h => by simp [valsB] at h
  | d :: ds, u :: us, h => by
    rw [valsB, Bool.and_eq_true] at h
    obtain ⟨v, h1, h2⟩ := val_rel d h.1
    obtain ⟨vs, h3, h4⟩ := vals_rel ds h.2
    exact ⟨v :: vs, .cons h1 h3, fun Z => .cons (h2 Z) (h4 Z)⟩
end
theorem kok_of : KOk (gxOf K exs a ns) := fun p d h Z H => by
  rcases h with h | ⟨rfl, rfl, h⟩
  · cases d with
    | tup l =>
      unfold valB at h
      simp only at h
      cases q : K.lookup p with
      | none => rw [q] at h; cases h
      | some o =>
        rw [q] at h
        simp only [Bool.and_eq_true, decide_eq_true_eq] at h
        obtain ⟨h1, h2⟩ := h
        cases q2 : o.data with
        | seq its n =>
          rw [q2] at h2
          simp only [Bool.and_eq_true, decide_eq_true_eq] at h2
          obtain ⟨vs, h3, h4⟩ := vals_rel (exs := exs) (a := a) (ns := ns) l h2.2
          exact ⟨vs, .inr ⟨o, its, n, q, h1, q2, h2.1, h3⟩, h4 Z⟩
        | _ => rw [q2] at h2; cases h2
    | _ => simp [valB] at h
  · exact .inr h
end
open He in
/-- what is looked at behind the top -/
def exB (ds : List DI) (gl : List (Str × GV)) (fr exs : List Str) (tkl : List (Nat × Nat × Bool)) (K : PySem.W.Frag) : Bool :=
  (gl.all fun p => match p.2 with
    | .fn i n => (match ds[i]? with
      | some d => eqO (PySem.W.nsIn K mainGlobals p.1) (some (some (.ref (ga K d.loc)))) && d.cd.np == n
      | none => false)
    | .cst d => (match PySem.W.nsIn K mainGlobals p.1 with
      | some (some u) => valB K d u
      | _ => false)
    | .exc c => exs.getD c "" == p.1 && eqO (PySem.W.nsIn K mainGlobals p.1) (some (some (.ref (ga K p.1)))) && PySem.W.excIn K (ga K p.1) veBase "ValueError.__new__" && PySem.W.keepIn K (.ref (ga K p.1)) &&
        decide (PySem.W.subIn K (.ref (ga K p.1)) (.type "BaseException") = some true) && decide (PySem.W.typeIn K (.ref (ga K p.1)) = some (.type "type"))) &&
  (fr.all fun x => eqO (PySem.W.nsIn K mainGlobals x) (some none)) &&
  (tkl.all fun t => decide (PySem.W.exmOne K (.ref (ga K (exs.getD t.1 ""))) (.ref (ga K (exs.getD t.2.1 ""))) = some t.2.2))
def tkOf (tkl : List (Nat × Nat × Bool)) (c' c : Nat) : Option Bool := (tkl.find? fun t => t.1 == c' && t.2.1 == c).map (·.2.2)
section
variable {P : Program} {w : World} {K : PySem.W.Frag} {mg : Str → Option Value} {h : Heap} {ds : List DI} {gl : List (Str × GV)} {fr exs : List Str} {tkl : List (Nat × Nat × Bool)} {a : Addr} {ns : List Int}
theorem tab_of (X : K.In h) (Gm : h.Ns mainGlobals mg) (hx : exB ds gl fr exs tkl K = true) (hd : ∀ d ∈ ds, ∃ fd, FunD K d.name d.name (defArgs d.st) (defBody d.st) (defScope d.st) [] [] (He.ga K d.loc) fd)
    (ok : ∀ d ∈ ds, d.okB gl fr = true) (bnd : ∀ d ∈ ds, d.Bnd) : TabOk (gxOf K exs a ns) mg ds gl fr (tkOf tkl) := by
  unfold exB at hx
  simp only [Bool.and_eq_true, List.all_eq_true] at hx
  obtain ⟨⟨h1, h2⟩, h3⟩ := hx
  refine ⟨kok_of, fun x hx => ?_, fun x d e => ?_, fun x i n e => ?_, fun x c e => ?_, fun c' c b e => ?_, ok, bnd⟩
  · exact PySem.W.mg_none_of X Gm (He.eqO_ok (h2 x (List.contains_iff_mem.mp hx)))
  · have q := h1 (x, .cst d) (PySem.mem_of_lookup e)
    simp only at q
    cases q2 : PySem.W.nsIn K mainGlobals x with
    | none => rw [q2] at q; cases q
    | some o =>
      rw [q2] at q
      cases o with
      | none => cases q
      | some u =>
        obtain ⟨v, r1, r2⟩ := val_rel (exs := exs) (a := a) (ns := ns) d q
        exact ⟨u, v, PySem.W.mg_of X Gm q2, r1, r2⟩
  · have q := h1 (x, .fn i n) (PySem.mem_of_lookup e)
    simp only at q
    cases q2 : ds[i]? with
    | none => rw [q2] at q; cases q
    | some d =>
      rw [q2] at q
      simp only [Bool.and_eq_true, beq_iff_eq] at q
      exact ⟨d, rfl, q.2, PySem.W.mg_of X Gm (He.eqO_ok q.1), hd d (List.mem_of_getElem? q2)⟩
  · have q := h1 (x, .exc c) (PySem.mem_of_lookup e)
    simp only [Bool.and_eq_true, beq_iff_eq, decide_eq_true_eq] at q
    obtain ⟨⟨⟨⟨⟨q0, q1⟩, q2⟩, q3⟩, q4⟩, q5⟩ := q
    have ec : (gxOf K exs a ns).cls c = He.ga K x := by show He.ga K (exs.getD c "") = _; rw [q0]
    rw [ec]
    exact ⟨PySem.W.mg_of X Gm (He.eqO_ok q1), q3, q4, q5, _, _, _, _, PySem.F.excBase_ValueError, q2⟩
  · unfold tkOf at e
    cases q : tkl.find? (fun t => t.1 == c' && t.2.1 == c) with
    | none => rw [q] at e; cases e
    | some t =>
      rw [q] at e; cases e
      have q2 := List.find?_some q
      simp only [Bool.and_eq_true, beq_iff_eq] at q2
      have := of_decide_eq_true (h3 t (List.mem_of_find?_eq_some q))
      rw [q2.1, q2.2] at this
      exact this
/-- the law's promise -/
def spL (exs : List Str) (K : PySem.W.Frag) (Fn : List O → FR) : Sp := fun vs H Q E => ∃ a ns, vs = [V.ref a] ∧ ns.length ≤ 63 ∧ spF (gxOf K exs a ns) Fn 1 vs H Q E
theorem law_fn {k i : Nat} {d : DI} {fd : FuncData} {base : Heap} {fuel : Nat} (T : ∀ a ns, TabOk (gxOf K exs a ns) mg ds gl fr (tkOf tkl)) (hd : ds[i]? = some d) (hnp : d.cd.np = 1) (F : FunD K d.name d.name (defArgs d.st) (defBody d.st) (defScope d.st) [] [] (He.ga K d.loc) fd) :
    FnOk P w K mg base (L2.CX P w) k (He.ga K d.loc) fd d.ps (spL exs K (runF (cdsOf ds) (tkOf tkl) fuel k i)) := by
  have key := fun a ns => tab_ok (P := P) (w := w) (base := base) (fuel := fuel) (T a ns) rfl k i d fd hd F
  rw [hnp] at key
  exact ⟨fun vs H Q E ⟨a, ns, _, _, q⟩ => (key a ns).len vs H Q E q, fun A outer s H args us vs Q E hr he hb hv ⟨a, ns, _, _, q⟩ => (key a ns).run A outer s H args us vs Q E hr he hb hv q⟩
theorem law_sp {H : Hp} {Fn : List O → FR} (hO : Only H) (hS : SqL K H a (ns.map V.int)) (hl : ns.length ≤ 63) (hF : ∃ s, Fn [.fz (.scr ns)] = .ok (.fz (.bl true)) s) : spL exs K Fn [.ref a] H (fun v _ => v = .bl true) (fun _ _ _ => False) := by
  obtain ⟨s, e⟩ := hF
  rcases hS with hS | hS
  · refine ⟨a, ns, rfl, hl, fun q => if q = a then some (.scr ns) else none, [.scr ns], fun q d hq => ?_, .cons (.inl (if_pos rfl)) .nil, rfl, ?_⟩
    · have hq : (if q = a then some (D.scr ns) else none) = some d := hq
      by_cases h : q = a
      · subst h
        rw [if_pos rfl] at hq; cases hq
        refine ⟨?_, .inl hS⟩
        rcases hS with z | ⟨x, z⟩ <;> rw [z] <;> exact fun z => (nomatch z)
      · rw [if_neg h] at hq; cases hq
    · show (match Fn [.fz (.scr ns)] with | .ok r _ => _ | .exc c _ => _ | .stuck => _)
      rw [e]
      exact fun v Z' H' n => by
        obtain ⟨U, _, r⟩ := n.val
        cases r with
        | fz r => exact r.bl_inv n.zok kok_of
  · refine ⟨a, ns, rfl, hl, fun _ => none, [.scr ns], fun q d hq => (nomatch hq), .cons (.inr (.inr ⟨rfl, rfl, hS⟩)) .nil, rfl, ?_⟩
    show (match Fn [.fz (.scr ns)] with | .ok r _ => _ | .exc c _ => _ | .stuck => _)
    rw [e]
    exact fun v Z' H' n => by
      obtain ⟨U, _, r⟩ := n.val
      cases r with
      | fz r => exact r.bl_inv n.zok kok_of
end
theorem walk_ofEB {l : PySem.W.OpenLaw} {n k : Nat} {q : Program} {loose : List Str} {XP : (Str → Option Value) → Heap → Prop} {YP : World → Heap → Prop} {d : DefRec} {CX : CXT} {x : Str}
    (hn : l.most = some n) (hn2 : n ≤ sizeLine) (hdf : d.params.defaults = []) (hr : Room k callerA)
    (F : ∀ (w : World) (mg : Str → Option Value) (fa : Addr) (h : Heap), YP w h → h.Ns mainGlobals mg → mg d.name = some (.ref fa) →
      ∃ (K : PySem.W.Frag) (fd : FuncData) (sp : Sp), K.In h ∧ (∀ (s : Shared) (u : Value), BindsTo s fd ⟨[u], []⟩ [(x, u)]) ∧
        (∀ (H : Hp) (a : Addr) (ns : List Int), ns.length ≤ n → (∀ z ∈ ns, Builtin.Int.intBits z ≤ 1048576) → Only H → SqL K H a (ns.map V.int) → sp [.ref a] H (fun v _ => v = .bl true) fun _ _ _ => False) ∧
        ∀ base : Heap, K.In base → base.Ns mainGlobals mg → FnOk l.prog w K mg base CX k fa fd [x] sp)
    (hCX : ∀ (H : Hp) (s : Shared) (e : Value) (s' : Shared), CX [] H s (fun _ _ _ => False) e s' → False) :
    PySem.W.WalkO q loose XP YP l.row.toRowW d [] (fun f vs => PySem.call f vs) := by
  refine Att.attach_callB hn hdf fun w s₀ s₁ mg mb fa o pm cd doc a vs ns G Y ho hd hcd hmg hobj hints hlen hbits hg => ?_
  obtain ⟨K, fd, sp, KX, hb, hsp, hF⟩ := F w mg fa _ Y G.T.g hmg
  exact law_call KX G.T.g G.T.b G.T.builtins G.T.nolimit hg hobj hints (Nat.le_trans hlen hn2) hr hF hb (fun H hO hS => hsp H a ns hlen hbits hO hS) fun H e s' => hCX H s₁ e s'
abbrev fnOf (ds : List DI) : List He.DefD := ds.map DI.rec'
/-- the walk's end -/
theorem law_end {l : PySem.W.OpenLaw} {n k i : Nat} {q : Program} {loose : List Str} {XP : (Str → Option Value) → Heap → Prop} {d : DefRec} {ds : List DI} {gl : List (Str × GV)} {fr exs : List Str} {tkl : List (Nat × Nat × Bool)} {dl : DI} {x : Str} {fuel : Nat}
    (hn : l.most = some n) (hn2 : n ≤ 63) (hdf : d.params.defaults = []) (hr : Room k callerA) (hname : d.name = dl.loc) (hgl : gl.lookup dl.loc = some (.fn i 1)) (hdl : ds[i]? = some dl) (hps : dl.ps = [x]) (hnp : dl.cd.np = 1)
    (ok : (ds.all fun d => d.okB gl fr) = true) (bnd : ∀ d ∈ ds, d.Bnd)
    (hF : ∀ ns : List Int, ns.length ≤ 63 → (∀ z ∈ ns, Builtin.Int.intBits z ≤ 1048576) → ∃ s, runF (cdsOf ds) (tkOf tkl) fuel k i [.fz (.scr ns)] = .ok (.fz (.bl true)) s) :
    PySem.W.WalkO q loose XP (fun w h => ∃ K : PySem.W.Frag, K.In h ∧ He.SaysX [] (fnOf ds) [] [] (exB ds gl fr exs tkl) w h K) l.row.toRowW d [] (fun f vs => PySem.call f vs) := by
  refine walk_ofEB (l := l) (n := n) (k := k) (x := x) (CX := fun outer H s E u s' => ∃ w, L2.CX l.prog w outer H s E u s') hn (by have := sizeLine_eq; omega) hdf hr (fun w mg fa h Y Gm hmg => ?_) (fun H s e s' ⟨w, _, _, _, _, _, _, _, _, _, _, _, _, z⟩ => z)
  obtain ⟨K, KX, c⟩ := Y
  have hd : ∀ d ∈ ds, ∃ fd, FunD K d.name d.name (defArgs d.st) (defBody d.st) (defScope d.st) [] [] (He.ga K d.loc) fd := fun d hd => c.t.d.defs (List.mem_map_of_mem (f := DI.rec') hd)
  have T : ∀ a ns, TabOk (gxOf K exs a ns) mg ds gl fr (tkOf tkl) := fun a ns => tab_of KX Gm c.more hd (fun d hd => List.all_eq_true.mp ok d hd) bnd
  obtain ⟨d2, e1, e2, e3, fd, F⟩ := (T 0 []).fn dl.loc i 1 hgl
  rw [hdl] at e1; cases e1
  rw [hname] at hmg
  rw [hmg] at e3; cases e3
  refine ⟨K, fd, spL exs K (runF (cdsOf ds) (tkOf tkl) fuel k i), KX, fun s u => ?_, fun H a ns hl hb hO hS => law_sp hO hS (Nat.le_trans hl hn2) (hF ns (Nat.le_trans hl hn2) hb), fun base _ _ => ?_⟩
  · have := FunD.bindsA (ps := dl.ps) F (bnd dl (List.mem_of_getElem? hdl)) s [u] (by rw [hps]; rfl)
    rw [hps] at this
    exact this
  · have := law_fn (P := l.prog) (w := w) (base := base) (k := k) (fuel := fuel) T hdl hnp F
    rw [hps] at this
    refine ⟨this.len, fun A outer s H args us vs Q E hr he hb hv hs => codeAny_mono (this.run A outer s H args us vs Q E hr he hb hv hs) fun r s' hh => ?_⟩
    cases r with
    | ok r => cases r <;> exact hh
    | error e => exact ⟨w, hh⟩
end FW
set_option Elab.async false
set_option linter.all false
set_option maxRecDepth 100000
/-! FM1: running the core tongue by rewriting -/
namespace FW
open PySem PySem.Spec L2
section
variable {α β : Type} {ρ ρ1 ρ' : En}
@[simp] theorem bnd_def (m : M α) (f : α → M β) : bnd m f ρ = match m ρ with
  | .ok a ρ' => f a ρ'
  | .exc c ρ' => .exc c ρ'
  | .stuck => .stuck := by
  unfold bnd
  cases m ρ <;> rfl
@[simp] theorem ret_def (a : α) : ret a ρ = .ok a ρ := rfl
@[simp] theorem ofOpt_some (a : α) : ofOpt (some a) ρ = .ok a ρ := rfl
@[simp] theorem frz_fz (d : D) : frzM (.fz d) ρ = .ok d ρ := rfl
@[simp] theorem frz_lst (l : List D) : frzM (.lst l) ρ = .ok (.lst l) ρ := rfl
@[simp] theorem frz_own (d : D) : frzM (own d) ρ = .ok d ρ := by cases d <;> rfl
@[simp] theorem ownM_some (d : D) : ownM (some d) ρ = .ok (own d) ρ := rfl
@[simp] theorem own_bl (b : Bool) : own (.bl b) = .fz (.bl b) := rfl
@[simp] theorem own_lst (l : List D) : own (.lst l) = .lst l := rfl
@[simp] theorem own_tup (l : List D) : own (.tup l) = .fz (.tup l) := rfl
@[simp] theorem own_non : own .non = .fz .non := rfl
theorem rdv_fz {i : Nat} {d : D} (h : ρ[i]? = some (some (.fz d))) : rdv i ρ = .ok d ρ := by unfold rdv; rw [h]; rfl
theorem mvv_some {i : Nat} {o : O} (h : ρ[i]? = some (some o)) : mvv i ρ = .ok o (ρ.set i none) := by unfold mvv; rw [h]; rfl
theorem brw_some {i : Nat} {o : O} (h : ρ[i]? = some (some o)) : brwM i ρ = .ok (.slot i) ρ := by unfold brwM; rw [h]; rfl
theorem argD_slot_lst {i : Nat} {l : List D} (h : ρ[i]? = some (some (.lst l))) : argD ρ (.slot i) = some (.lst l, true) := by simp only [argD]; rw [h]; rfl
theorem argD_slot_fz {i : Nat} {d : D} (h : ρ[i]? = some (some (.fz d))) : argD ρ (.slot i) = some (d, false) := by simp only [argD]; rw [h]; rfl

/-- one turn of a comprehension -/
def compStep (g : D → M Unit) (t : M Bool) (m : M D) (d : D) : M (Option D) := bnd (g d) (fun _ => bnd t fun k => if k then bnd m fun y => ret (some y) else ret none)
theorem compLoop_eq {γ : Type} {vs : List Nat} {g : D → M Unit} {t : M Bool} {m : M D} (mk : γ → D) (p : γ → Bool) (el : γ → D) (hw : wipeE ρ vs = ρ) : ∀ (xs : List γ) (acc : List D), (∀ x ∈ xs, ∃ ρ', compStep g t m (mk x) ρ = .ok (if p x then some (el x) else none) ρ' ∧ wipeE ρ' vs = ρ) → acc.length + xs.length ≤ sizeLine →
    compLoopM vs g t m (xs.map mk) acc ρ = .ok (acc ++ (xs.filter p).map el) ρ
  | [], acc, _, _ => by simp [compLoopM, ret]
  | x :: xs, acc, h, hl => by
    obtain ⟨ρ', h1, h2⟩ := h x List.mem_cons_self
    have ht : compTurnM vs g t m (mk x) acc ρ = .ok (if p x then acc ++ [el x] else acc) ρ := by
      unfold compTurnM
      rw [hw]
      unfold compStep at h1
      rw [h1]
      cases hp : p x with
      | true =>
        simp only [if_true]
        have : acc.length < sizeLine := by simp at hl; omega
        rw [if_pos this, h2]
      | false => simp [h2]
    show bnd (compTurnM vs g t m (mk x) acc) (fun acc' => compLoopM vs g t m (xs.map mk) acc') ρ = _
    rw [bnd_def, ht]
    show compLoopM vs g t m (xs.map mk) _ ρ = _
    have ih := compLoop_eq mk p el hw xs (if p x then acc ++ [el x] else acc) (fun y hy => h y (List.mem_cons_of_mem _ hy)) (by cases p x <;> simp at hl ⊢ <;> omega)
    rw [ih]
    cases hp : p x <;> simp [hp]
theorem compM_eq {γ : Type} {vs : List Nat} {items : M (List D)} {g : D → M Unit} {t : M Bool} {m : M D} (xs : List γ) (mk : γ → D) (p : γ → Bool) (el : γ → D) (hi : items ρ = .ok (xs.map mk) ρ1)
    (h : ∀ x ∈ xs, ∃ ρ', compStep g t m (mk x) (wipeE ρ1 vs) = .ok (if p x then some (el x) else none) ρ' ∧ wipeE ρ' vs = wipeE ρ1 vs) (hl : xs.length ≤ sizeLine) :
    compM vs items g t m ρ = .ok (.lst ((xs.filter p).map el)) (restE ρ1 (wipeE ρ1 vs) vs) := by
  unfold compM
  rw [bnd_def, hi]
  simp only
  rw [compLoop_eq (ρ := wipeE ρ1 vs) mk p el wipeE_idem xs [] h (by simpa using hl)]
  simp
theorem compM_map {γ : Type} {vs : List Nat} {items : M (List D)} {g : D → M Unit} {t : M Bool} {m : M D} (xs : List γ) (mk : γ → D) (el : γ → D) (hi : items ρ = .ok (xs.map mk) ρ1)
    (h : ∀ x ∈ xs, ∃ ρ', compStep g t m (mk x) (wipeE ρ1 vs) = .ok (some (el x)) ρ' ∧ wipeE ρ' vs = wipeE ρ1 vs) (hl : xs.length ≤ sizeLine) :
    compM vs items g t m ρ = .ok (.lst (xs.map el)) (restE ρ1 (wipeE ρ1 vs) vs) := by
  rw [compM_eq xs mk (fun _ => true) el hi (fun x hx => by simpa using h x hx) hl]
  rw [List.filter_eq_self.mpr fun _ _ => rfl]

/-- a for whose turns all go on -/
theorem for_fold {γ δ : Type} {g : D → M Unit} {m : M Fl} (mk : γ → D) (E : δ → En) (step : δ → γ → δ) (I : δ → Prop) : ∀ (xs : List γ) (s : δ), I s → (∀ s x, x ∈ xs → I s → I (step s x) ∧ ∃ ρ1, g (mk x) (E s) = .ok () ρ1 ∧ m ρ1 = .ok .nx (E (step s x))) →
    forM' g m (xs.map mk) (E s) = .ok .nx (E (xs.foldl step s)) ∧ I (xs.foldl step s)
  | [], s, hs, _ => ⟨rfl, hs⟩
  | x :: xs, s, hs, h => by
    obtain ⟨h1, ρ1, h2, h3⟩ := h s x List.mem_cons_self hs
    have ih := for_fold (g := g) (m := m) mk E step I xs (step s x) h1 fun s y hy => h s y (List.mem_cons_of_mem _ hy)
    refine ⟨?_, ih.2⟩
    show forM' g m (mk x :: xs.map mk) (E s) = _
    unfold forM'
    rw [h2]
    simp only
    rw [bnd_def, h3]
    exact ih.1
end

section
variable {F : Fi} {tk : Nat → Nat → Option Bool} {fuel : Nat} {ρ : En}
theorem sO_cst (d : D) : semO F (.cst d) = ret (.fz d) := by rw [semO]
theorem sO_var (i : Nat) : semO F (.var i) = fzM (rdv i) := by rw [semO]
theorem sO_mv (i : Nat) : semO F (.mv i) = mvv i := by rw [semO]
theorem sO_bin (o : B2) (a b : CE) : semO F (.bin o a b) = bnd (argOf a (semO F a)) fun x => bnd (argOf b (semO F b)) fun y => withA [x, y] (un2 (b2G o)) := by rw [semO]
theorem sO_neg (a : CE) : semO F (.neg a) = bnd (bnd (semO F a) frzM) fun x => ownM (negG x) := by rw [semO]
theorem sO_cmp (o : C2) (a b : CE) : semO F (.cmp o a b) = bnd (argOf a (semO F a)) fun x => bnd (argOf b (semO F b)) fun y => withA [x, y] (un2 (c2G o)) := by rw [semO]
theorem sO_chn (o o' : C2) (a b c : CE) : semO F (.chn o o' a b c) = chainM (bnd (semO F a) frzM) (bnd (semO F b) frzM) (bnd (semO F c) frzM) (c2G o) (c2G o') := by rw [semO]
theorem sO_and (a b : CE) : semO F (.and a b) = andV (semO F a) (semO F b) := by rw [semO]
theorem sO_or (a b : CE) : semO F (.or a b) = orV (semO F a) (semO F b) := by rw [semO]
theorem sO_not (a : CE) : semO F (.not a) = bnd (bnd (semO F a) frzM) fun x => ownM (notV x) := by rw [semO]
theorem sO_ite (t : CT) (a b : CE) : semO F (.ite t a b) = iteM (semT F t) (semO F a) (semO F b) := by rw [semO]
theorem sO_call (f n : Nat) (as : CEs) : semO F (.call f n as) = bnd (semEs F as) fun xs => withC xs n (F f) := by rw [semO]
theorem sO_bi (b : BI) (as : CEs) : semO F (.bi b as) = bnd (semEs F as) fun xs => withA xs (biG b) := by rw [semO]
theorem sO_isi (T : String) (a : CE) : semO F (.isi T a) = bnd (argOf a (semO F a)) fun x => withA [x] (un1 (isiG T)) := by rw [semO]
theorem sO_mth (mi : MI) (a : CE) (as : CEs) : semO F (.mth mi a as) = methA (miT mi) (bnd (semO F a) frzM) (semEs F as) (miG mi) := by rw [semO]
theorem sO_tup (as : CEs) : semO F (.tup as) = bnd (bnd (semEs F as) datsM) tupM := by rw [semO]
theorem sO_lst (as : CEs) : semO F (.lst as) = bnd (bnd (semEs F as) datsM) lstM := by rw [semO]
theorem sO_idx (a i : CE) : semO F (.idx a i) = bnd (argOf a (semO F a)) fun x => bnd (argOf i (semO F i)) fun y => idxA x y := by rw [semO]
theorem sO_slc (a : CE) (lo hi : CO) : semO F (.slc a lo hi) = bnd (argOf a (semO F a)) fun x => bnd (semOp F lo) fun l => bnd (semOp F hi) fun u => withA [x] (un1 fun d => slcG d l u) := by rw [semO]
theorem sO_rev (a : CE) : semO F (.rev a) = bnd (argOf a (semO F a)) fun x => withA [x] (un1 revG) := by rw [semO]
theorem sO_comp (own : List (Str × Nat)) (it : CI) (tg : Tg) (t : CT) (e : CE) : semO F (.comp own it tg t e) = compM (own.map (·.2)) (semI F it) (tgM tg) (semT F t) (bnd (semO F e) frzM) := by rw [semO]
theorem sO_fmt (a : CE) : semO F (.fmt a) = bnd (bnd (semO F a) frzM) fun d => ownM (fmtG d) := by rw [semO]
theorem sO_fstr (as : CEs) : semO F (.fstr as) = joinParts (semPs F as) [] := by rw [semO]
theorem sEs_nil : semEs F .nil = ret [] := by rw [semEs]
theorem sEs_cons (a : CE) (as : CEs) : semEs F (.cons a as) = bnd (argOf a (semO F a)) fun d => bnd (semEs F as) fun ds => ret (d :: ds) := by rw [semEs]
theorem sPs_nil : semPs F .nil = [] := by rw [semPs]
theorem sPs_cons (a : CE) (as : CEs) : semPs F (.cons a as) = bnd (semO F a) frzM :: semPs F as := by rw [semPs]
theorem sOp_none : semOp F .none = ret none := by rw [semOp]
theorem sOp_some (a : CE) : semOp F (.some a) = bnd (bnd (semO F a) frzM) asI := by rw [semOp]
theorem sT_val (a : CE) : semT F (.val a) = bnd (argOf a (semO F a)) truA := by rw [semT]
theorem sT_cmp (o : C2) (a b : CE) : semT F (.cmp o a b) = bnd (bnd (argOf a (semO F a)) fun x => bnd (argOf b (semO F b)) fun y => withA [x, y] (un2 (c2G o))) fun o => bnd (frzM o) asB := by rw [semT]
theorem sT_chn (o o' : C2) (a b c : CE) : semT F (.chn o o' a b c) = bnd (chainM (bnd (semO F a) frzM) (bnd (semO F b) frzM) (bnd (semO F c) frzM) (c2G o) (c2G o')) fun o => bnd (frzM o) asB := by rw [semT]
theorem sT_and (a b : CT) : semT F (.and a b) = andM (semT F a) (semT F b) := by rw [semT]
theorem sT_or (a b : CT) : semT F (.or a b) = orM (semT F a) (semT F b) := by rw [semT]
theorem sT_not (a : CT) : semT F (.not a) = bnd (semT F a) fun k => ret (!k) := by rw [semT]
theorem sT_yes : semT F .yes = ret true := by rw [semT]
theorem sI_seq (a : CE) : semI F (.seq a) = bnd (bnd (semO F a) frzM) fun d => ofOpt (itemsD d) := by rw [semI]
theorem sI_rng (n : Nat) (as : CEs) : semI F (.rng n as) = bnd (bnd (semEs F as) datsM) fun ds => ofOpt (rngM n ds) := by rw [semI]
theorem sI_enum (as : CEs) : semI F (.enum as) = bnd (bnd (semEs F as) datsM) fun ds => ofOpt (enumG ds) := by rw [semI]
theorem sI_zip (as : CEs) : semI F (.zip as) = bnd (bnd (semEs F as) datsM) fun ds => ofOpt (zipG ds) := by rw [semI]
theorem sS_nil : semS F tk fuel .nil = ret .nx := by rw [semS]
theorem sS_pass : semS F tk fuel .pass = ret .nx := by rw [semS]
theorem sS_brk : semS F tk fuel .brk = ret .bk := by rw [semS]
theorem sS_cnt : semS F tk fuel .cnt = ret .ct := by rw [semS]
theorem sS_seq (a b : CS) : semS F tk fuel (.seq a b) ρ = match semS F tk fuel a ρ with
  | .ok .nx ρ' => semS F tk fuel b ρ'
  | .ok fl ρ' => .ok fl ρ'
  | .exc c ρ' => .exc c ρ'
  | .stuck => .stuck := by
  show seqM (semS F tk fuel a) (semS F tk fuel b) ρ = _
  unfold seqM bnd
  cases semS F tk fuel a ρ with
  | ok fl ρ' => cases fl <;> rfl
  | exc c ρ' => rfl
  | stuck => rfl
theorem sS_expr (a : CE) : semS F tk fuel (.expr a) = bnd (semO F a) fun _ => ret .nx := by rw [semS]
theorem sS_ret (a : CE) : semS F tk fuel (.ret a) = bnd (semO F a) fun o => ret (.rt o) := by rw [semS]
theorem sS_retN : semS F tk fuel .retN = ret (.rt (.fz .non)) := by rw [semS]
theorem sS_set (i : Nat) (a : CE) : semS F tk fuel (.set i a) = bnd (semO F a) (putM i) := by rw [semS]
theorem sS_setF (i : Nat) (a : CE) : semS F tk fuel (.setF i a) = bnd (fzM (bnd (semO F a) frzM)) (putM i) := by rw [semS]
theorem sS_ite (t : CT) (a b : CS) : semS F tk fuel (.ite t a b) = iteM (semT F t) (semS F tk fuel a) (semS F tk fuel b) := by rw [semS]
theorem sS_whl (t : CT) (b : CS) : semS F tk fuel (.whl t b) = whileM (semT F t) (semS F tk fuel b) fuel := by rw [semS]
theorem sS_for (tg : Tg) (it : CI) (b : CS) : semS F tk fuel (.for_ tg it b) = bnd (semI F it) fun ds => forM' (tgM tg) (semS F tk fuel b) ds := by rw [semS]
theorem sS_raise (c : Nat) : semS F tk fuel (.raise c) ρ = .exc c ρ := by rw [semS]
theorem sS_app (i : Nat) (a : CE) : semS F tk fuel (.app i a) = appS i (bnd (semO F a) frzM) := by rw [semS]
theorem sS_put (i : Nat) (k a : CE) : semS F tk fuel (.put i k a) = putS i (bnd (semO F a) frzM) (bnd (semO F k) frzM) := by rw [semS]
/-- the meaning by its equations alone (a variable: nothing runs it) -/
structure Mn (F : Fi) (tk : Nat → Nat → Option Bool) (fuel : Nat) where
  O : CE → M O
  Es : CEs → M (List Arg)
  Ps : CEs → List (M D)
  Op : CO → M (Option Int)
  T : CT → M Bool
  I : CI → M (List D)
  S : CS → M Fl
  hsO_cst : ∀ (d : D) , O (.cst d) = ret (.fz d)
  hsO_var : ∀ (i : Nat) , O (.var i) = fzM (rdv i)
  hsO_mv : ∀ (i : Nat) , O (.mv i) = mvv i
  hsO_bin : ∀ (o : B2) (a b : CE) , O (.bin o a b) = bnd (argOf a (O a)) fun x => bnd (argOf b (O b)) fun y => withA [x, y] (un2 (b2G o))
  hsO_neg : ∀ (a : CE) , O (.neg a) = bnd (bnd (O a) frzM) fun x => ownM (negG x)
  hsO_cmp : ∀ (o : C2) (a b : CE) , O (.cmp o a b) = bnd (argOf a (O a)) fun x => bnd (argOf b (O b)) fun y => withA [x, y] (un2 (c2G o))
  hsO_chn : ∀ (o o' : C2) (a b c : CE) , O (.chn o o' a b c) = chainM (bnd (O a) frzM) (bnd (O b) frzM) (bnd (O c) frzM) (c2G o) (c2G o')
  hsO_and : ∀ (a b : CE) , O (.and a b) = andV (O a) (O b)
  hsO_or : ∀ (a b : CE) , O (.or a b) = orV (O a) (O b)
  hsO_not : ∀ (a : CE) , O (.not a) = bnd (bnd (O a) frzM) fun x => ownM (notV x)
  hsO_ite : ∀ (t : CT) (a b : CE) , O (.ite t a b) = iteM (T t) (O a) (O b)
  hsO_call : ∀ (f n : Nat) (as : CEs) , O (.call f n as) = bnd (Es as) fun xs => withC xs n (F f)
  hsO_bi : ∀ (b : BI) (as : CEs) , O (.bi b as) = bnd (Es as) fun xs => withA xs (biG b)
  hsO_isi : ∀ (T : String) (a : CE) , O (.isi T a) = bnd (argOf a (O a)) fun x => withA [x] (un1 (isiG T))
  hsO_mth : ∀ (mi : MI) (a : CE) (as : CEs) , O (.mth mi a as) = methA (miT mi) (bnd (O a) frzM) (Es as) (miG mi)
  hsO_tup : ∀ (as : CEs) , O (.tup as) = bnd (bnd (Es as) datsM) tupM
  hsO_lst : ∀ (as : CEs) , O (.lst as) = bnd (bnd (Es as) datsM) lstM
  hsO_idx : ∀ (a i : CE) , O (.idx a i) = bnd (argOf a (O a)) fun x => bnd (argOf i (O i)) fun y => idxA x y
  hsO_slc : ∀ (a : CE) (lo hi : CO) , O (.slc a lo hi) = bnd (argOf a (O a)) fun x => bnd (Op lo) fun l => bnd (Op hi) fun u => withA [x] (un1 fun d => slcG d l u)
  hsO_rev : ∀ (a : CE) , O (.rev a) = bnd (argOf a (O a)) fun x => withA [x] (un1 revG)
  hsO_comp : ∀ (own : List (Str × Nat)) (it : CI) (tg : Tg) (t : CT) (e : CE) , O (.comp own it tg t e) = compM (own.map (·.2)) (I it) (tgM tg) (T t) (bnd (O e) frzM)
  hsO_fmt : ∀ (a : CE) , O (.fmt a) = bnd (bnd (O a) frzM) fun d => ownM (fmtG d)
  hsO_fstr : ∀ (as : CEs) , O (.fstr as) = joinParts (Ps as) []
  hsEs_nil : Es .nil = ret []
  hsEs_cons : ∀ (a : CE) (as : CEs) , Es (.cons a as) = bnd (argOf a (O a)) fun d => bnd (Es as) fun ds => ret (d :: ds)
  hsPs_nil : Ps .nil = []
  hsPs_cons : ∀ (a : CE) (as : CEs) , Ps (.cons a as) = bnd (O a) frzM :: Ps as
  hsOp_none : Op .none = ret none
  hsOp_some : ∀ (a : CE) , Op (.some a) = bnd (bnd (O a) frzM) asI
  hsT_val : ∀ (a : CE) , T (.val a) = bnd (argOf a (O a)) truA
  hsT_cmp : ∀ (o : C2) (a b : CE) , T (.cmp o a b) = bnd (bnd (argOf a (O a)) fun x => bnd (argOf b (O b)) fun y => withA [x, y] (un2 (c2G o))) fun o => bnd (frzM o) asB
  hsT_chn : ∀ (o o' : C2) (a b c : CE) , T (.chn o o' a b c) = bnd (chainM (bnd (O a) frzM) (bnd (O b) frzM) (bnd (O c) frzM) (c2G o) (c2G o')) fun o => bnd (frzM o) asB
  hsT_and : ∀ (a b : CT) , T (.and a b) = andM (T a) (T b)
  hsT_or : ∀ (a b : CT) , T (.or a b) = orM (T a) (T b)
  hsT_not : ∀ (a : CT) , T (.not a) = bnd (T a) fun k => ret (!k)
  hsT_yes : T .yes = ret true
  hsI_seq : ∀ (a : CE) , I (.seq a) = bnd (bnd (O a) frzM) fun d => ofOpt (itemsD d)
  hsI_rng : ∀ (n : Nat) (as : CEs) , I (.rng n as) = bnd (bnd (Es as) datsM) fun ds => ofOpt (rngM n ds)
  hsI_enum : ∀ (as : CEs) , I (.enum as) = bnd (bnd (Es as) datsM) fun ds => ofOpt (enumG ds)
  hsI_zip : ∀ (as : CEs) , I (.zip as) = bnd (bnd (Es as) datsM) fun ds => ofOpt (zipG ds)
  hsS_nil : S .nil = ret .nx
  hsS_pass : S .pass = ret .nx
  hsS_brk : S .brk = ret .bk
  hsS_cnt : S .cnt = ret .ct
  hsS_seq : ∀ (a b : CS) (ρ : En), S (.seq a b) ρ = match S a ρ with
  | .ok .nx ρ' => S b ρ'
  | .ok fl ρ' => .ok fl ρ'
  | .exc c ρ' => .exc c ρ'
  | .stuck => .stuck
  hsS_expr : ∀ (a : CE) , S (.expr a) = bnd (O a) fun _ => ret .nx
  hsS_ret : ∀ (a : CE) , S (.ret a) = bnd (O a) fun o => ret (.rt o)
  hsS_retN : S .retN = ret (.rt (.fz .non))
  hsS_set : ∀ (i : Nat) (a : CE) , S (.set i a) = bnd (O a) (putM i)
  hsS_setF : ∀ (i : Nat) (a : CE) , S (.setF i a) = bnd (fzM (bnd (O a) frzM)) (putM i)
  hsS_ite : ∀ (t : CT) (a b : CS) , S (.ite t a b) = iteM (T t) (S a) (S b)
  hsS_whl : ∀ (t : CT) (b : CS) , S (.whl t b) = whileM (T t) (S b) fuel
  hsS_for : ∀ (tg : Tg) (it : CI) (b : CS) , S (.for_ tg it b) = bnd (I it) fun ds => forM' (tgM tg) (S b) ds
  hsS_raise : ∀ (c : Nat) (ρ : En), S (.raise c) ρ = .exc c ρ
  hsS_app : ∀ (i : Nat) (a : CE) , S (.app i a) = appS i (bnd (O a) frzM)
  hsS_put : ∀ (i : Nat) (k a : CE) , S (.put i k a) = putS i (bnd (O a) frzM) (bnd (O k) frzM)
def mn (F : Fi) (tk : Nat → Nat → Option Bool) (fuel : Nat) : Mn F tk fuel where
  O := semO F
  Es := semEs F
  Ps := semPs F
  Op := semOp F
  T := semT F
  I := semI F
  S := semS F tk fuel
  hsO_cst := sO_cst
  hsO_var := sO_var
  hsO_mv := sO_mv
  hsO_bin := sO_bin
  hsO_neg := sO_neg
  hsO_cmp := sO_cmp
  hsO_chn := sO_chn
  hsO_and := sO_and
  hsO_or := sO_or
  hsO_not := sO_not
  hsO_ite := sO_ite
  hsO_call := sO_call
  hsO_bi := sO_bi
  hsO_isi := sO_isi
  hsO_mth := sO_mth
  hsO_tup := sO_tup
  hsO_lst := sO_lst
  hsO_idx := sO_idx
  hsO_slc := sO_slc
  hsO_rev := sO_rev
  hsO_comp := sO_comp
  hsO_fmt := sO_fmt
  hsO_fstr := sO_fstr
  hsEs_nil := sEs_nil
  hsEs_cons := sEs_cons
  hsPs_nil := sPs_nil
  hsPs_cons := sPs_cons
  hsOp_none := sOp_none
  hsOp_some := sOp_some
  hsT_val := sT_val
  hsT_cmp := sT_cmp
  hsT_chn := sT_chn
  hsT_and := sT_and
  hsT_or := sT_or
  hsT_not := sT_not
  hsT_yes := sT_yes
  hsI_seq := sI_seq
  hsI_rng := sI_rng
  hsI_enum := sI_enum
  hsI_zip := sI_zip
  hsS_nil := sS_nil
  hsS_pass := sS_pass
  hsS_brk := sS_brk
  hsS_cnt := sS_cnt
  hsS_seq := fun a b ρ => sS_seq a b
  hsS_expr := sS_expr
  hsS_ret := sS_ret
  hsS_retN := sS_retN
  hsS_set := sS_set
  hsS_setF := sS_setF
  hsS_ite := sS_ite
  hsS_whl := sS_whl
  hsS_for := sS_for
  hsS_raise := fun c ρ => sS_raise c
  hsS_app := sS_app
  hsS_put := sS_put
variable (m : Mn F tk fuel)
@[simp] theorem msO_cst (d : D) : m.O (.cst d) = ret (.fz d) := m.hsO_cst d
@[simp] theorem msO_var (i : Nat) : m.O (.var i) = fzM (rdv i) := m.hsO_var i
@[simp] theorem msO_mv (i : Nat) : m.O (.mv i) = mvv i := m.hsO_mv i
@[simp] theorem msO_bin (o : B2) (a b : CE) : m.O (.bin o a b) = bnd (argOf a (m.O a)) fun x => bnd (argOf b (m.O b)) fun y => withA [x, y] (un2 (b2G o)) := m.hsO_bin o a b
@[simp] theorem msO_neg (a : CE) : m.O (.neg a) = bnd (bnd (m.O a) frzM) fun x => ownM (negG x) := m.hsO_neg a
@[simp] theorem msO_cmp (o : C2) (a b : CE) : m.O (.cmp o a b) = bnd (argOf a (m.O a)) fun x => bnd (argOf b (m.O b)) fun y => withA [x, y] (un2 (c2G o)) := m.hsO_cmp o a b
@[simp] theorem msO_chn (o o' : C2) (a b c : CE) : m.O (.chn o o' a b c) = chainM (bnd (m.O a) frzM) (bnd (m.O b) frzM) (bnd (m.O c) frzM) (c2G o) (c2G o') := m.hsO_chn o o' a b c
@[simp] theorem msO_and (a b : CE) : m.O (.and a b) = andV (m.O a) (m.O b) := m.hsO_and a b
@[simp] theorem msO_or (a b : CE) : m.O (.or a b) = orV (m.O a) (m.O b) := m.hsO_or a b
@[simp] theorem msO_not (a : CE) : m.O (.not a) = bnd (bnd (m.O a) frzM) fun x => ownM (notV x) := m.hsO_not a
@[simp] theorem msO_ite (t : CT) (a b : CE) : m.O (.ite t a b) = iteM (m.T t) (m.O a) (m.O b) := m.hsO_ite t a b
@[simp] theorem msO_call (f n : Nat) (as : CEs) : m.O (.call f n as) = bnd (m.Es as) fun xs => withC xs n (F f) := m.hsO_call f n as
@[simp] theorem msO_bi (b : BI) (as : CEs) : m.O (.bi b as) = bnd (m.Es as) fun xs => withA xs (biG b) := m.hsO_bi b as
@[simp] theorem msO_isi (T : String) (a : CE) : m.O (.isi T a) = bnd (argOf a (m.O a)) fun x => withA [x] (un1 (isiG T)) := m.hsO_isi T a
@[simp] theorem msO_mth (mi : MI) (a : CE) (as : CEs) : m.O (.mth mi a as) = methA (miT mi) (bnd (m.O a) frzM) (m.Es as) (miG mi) := m.hsO_mth mi a as
@[simp] theorem msO_tup (as : CEs) : m.O (.tup as) = bnd (bnd (m.Es as) datsM) tupM := m.hsO_tup as
@[simp] theorem msO_lst (as : CEs) : m.O (.lst as) = bnd (bnd (m.Es as) datsM) lstM := m.hsO_lst as
@[simp] theorem msO_idx (a i : CE) : m.O (.idx a i) = bnd (argOf a (m.O a)) fun x => bnd (argOf i (m.O i)) fun y => idxA x y := m.hsO_idx a i
@[simp] theorem msO_slc (a : CE) (lo hi : CO) : m.O (.slc a lo hi) = bnd (argOf a (m.O a)) fun x => bnd (m.Op lo) fun l => bnd (m.Op hi) fun u => withA [x] (un1 fun d => slcG d l u) := m.hsO_slc a lo hi
@[simp] theorem msO_rev (a : CE) : m.O (.rev a) = bnd (argOf a (m.O a)) fun x => withA [x] (un1 revG) := m.hsO_rev a
theorem msO_comp (own : List (Str × Nat)) (it : CI) (tg : Tg) (t : CT) (e : CE) : m.O (.comp own it tg t e) = compM (own.map (·.2)) (m.I it) (tgM tg) (m.T t) (bnd (m.O e) frzM) := m.hsO_comp own it tg t e
@[simp] theorem msO_fmt (a : CE) : m.O (.fmt a) = bnd (bnd (m.O a) frzM) fun d => ownM (fmtG d) := m.hsO_fmt a
@[simp] theorem msO_fstr (as : CEs) : m.O (.fstr as) = joinParts (m.Ps as) [] := m.hsO_fstr as
@[simp] theorem msEs_nil  : m.Es .nil = ret [] := m.hsEs_nil 
@[simp] theorem msEs_cons (a : CE) (as : CEs) : m.Es (.cons a as) = bnd (argOf a (m.O a)) fun d => bnd (m.Es as) fun ds => ret (d :: ds) := m.hsEs_cons a as
@[simp] theorem msPs_nil  : m.Ps .nil = [] := m.hsPs_nil 
@[simp] theorem msPs_cons (a : CE) (as : CEs) : m.Ps (.cons a as) = bnd (m.O a) frzM :: m.Ps as := m.hsPs_cons a as
@[simp] theorem msOp_none  : m.Op .none = ret none := m.hsOp_none 
@[simp] theorem msOp_some (a : CE) : m.Op (.some a) = bnd (bnd (m.O a) frzM) asI := m.hsOp_some a
@[simp] theorem msT_val (a : CE) : m.T (.val a) = bnd (argOf a (m.O a)) truA := m.hsT_val a
@[simp] theorem msT_cmp (o : C2) (a b : CE) : m.T (.cmp o a b) = bnd (bnd (argOf a (m.O a)) fun x => bnd (argOf b (m.O b)) fun y => withA [x, y] (un2 (c2G o))) fun o => bnd (frzM o) asB := m.hsT_cmp o a b
@[simp] theorem msT_chn (o o' : C2) (a b c : CE) : m.T (.chn o o' a b c) = bnd (chainM (bnd (m.O a) frzM) (bnd (m.O b) frzM) (bnd (m.O c) frzM) (c2G o) (c2G o')) fun o => bnd (frzM o) asB := m.hsT_chn o o' a b c
@[simp] theorem msT_and (a b : CT) : m.T (.and a b) = andM (m.T a) (m.T b) := m.hsT_and a b
@[simp] theorem msT_or (a b : CT) : m.T (.or a b) = orM (m.T a) (m.T b) := m.hsT_or a b
@[simp] theorem msT_not (a : CT) : m.T (.not a) = bnd (m.T a) fun k => ret (!k) := m.hsT_not a
@[simp] theorem msT_yes  : m.T .yes = ret true := m.hsT_yes 
@[simp] theorem msI_seq (a : CE) : m.I (.seq a) = bnd (bnd (m.O a) frzM) fun d => ofOpt (itemsD d) := m.hsI_seq a
@[simp] theorem msI_rng (n : Nat) (as : CEs) : m.I (.rng n as) = bnd (bnd (m.Es as) datsM) fun ds => ofOpt (rngM n ds) := m.hsI_rng n as
@[simp] theorem msI_enum (as : CEs) : m.I (.enum as) = bnd (bnd (m.Es as) datsM) fun ds => ofOpt (enumG ds) := m.hsI_enum as
@[simp] theorem msI_zip (as : CEs) : m.I (.zip as) = bnd (bnd (m.Es as) datsM) fun ds => ofOpt (zipG ds) := m.hsI_zip as
@[simp] theorem msS_nil  : m.S .nil = ret .nx := m.hsS_nil 
@[simp] theorem msS_pass  : m.S .pass = ret .nx := m.hsS_pass 
@[simp] theorem msS_brk  : m.S .brk = ret .bk := m.hsS_brk 
@[simp] theorem msS_cnt  : m.S .cnt = ret .ct := m.hsS_cnt 
@[simp] theorem msS_seq (a b : CS) : m.S (.seq a b) ρ = match m.S a ρ with
  | .ok .nx ρ' => m.S b ρ'
  | .ok fl ρ' => .ok fl ρ'
  | .exc c ρ' => .exc c ρ'
  | .stuck => .stuck := m.hsS_seq a b ρ
@[simp] theorem msS_expr (a : CE) : m.S (.expr a) = bnd (m.O a) fun _ => ret .nx := m.hsS_expr a
@[simp] theorem msS_ret (a : CE) : m.S (.ret a) = bnd (m.O a) fun o => ret (.rt o) := m.hsS_ret a
@[simp] theorem msS_retN  : m.S .retN = ret (.rt (.fz .non)) := m.hsS_retN 
@[simp] theorem msS_set (i : Nat) (a : CE) : m.S (.set i a) = bnd (m.O a) (putM i) := m.hsS_set i a
@[simp] theorem msS_setF (i : Nat) (a : CE) : m.S (.setF i a) = bnd (fzM (bnd (m.O a) frzM)) (putM i) := m.hsS_setF i a
@[simp] theorem msS_ite (t : CT) (a b : CS) : m.S (.ite t a b) = iteM (m.T t) (m.S a) (m.S b) := m.hsS_ite t a b
theorem msS_whl (t : CT) (b : CS) : m.S (.whl t b) = whileM (m.T t) (m.S b) fuel := m.hsS_whl t b
theorem msS_for (tg : Tg) (it : CI) (b : CS) : m.S (.for_ tg it b) = bnd (m.I it) fun ds => forM' (tgM tg) (m.S b) ds := m.hsS_for tg it b
@[simp] theorem msS_raise (c : Nat) : m.S (.raise c) ρ = .exc c ρ := m.hsS_raise c ρ
@[simp] theorem msS_app (i : Nat) (a : CE) : m.S (.app i a) = appS i (bnd (m.O a) frzM) := m.hsS_app i a
@[simp] theorem msS_put (i : Nat) (k a : CE) : m.S (.put i k a) = putS i (bnd (m.O a) frzM) (bnd (m.O k) frzM) := m.hsS_put i k a
end
section
variable {F : Fi} {tk : Nat → Nat → Option Bool} {fuel : Nat} {ρ : En}
@[simp] theorem own_int' (i : Int) : own (.int i) = .fz (.int i) := rfl
@[simp] theorem own_str' (i : List Nat) : own (.str i) = .fz (.str i) := rfl
@[simp] theorem own_scr' (i : List Int) : own (.scr i) = .fz (.scr i) := rfl
@[simp] theorem putM_def (i : Nat) (o : O) : putM i o ρ = .ok .nx (ρ.set i (some o)) := rfl
@[simp] theorem iteM_def {α : Type} (t : M Bool) (m n : M α) : iteM t m n ρ = match t ρ with
  | .ok k ρ' => if k then m ρ' else n ρ'
  | .exc c ρ' => .exc c ρ'
  | .stuck => .stuck := by
  unfold iteM bnd
  cases t ρ with
  | ok k ρ' => cases k <;> rfl
  | exc c ρ' => rfl
  | stuck => rfl
@[simp] theorem fzM_def (m : M D) : fzM m ρ = match m ρ with
  | .ok d ρ' => .ok (.fz d) ρ'
  | .exc c ρ' => .exc c ρ'
  | .stuck => .stuck := by
  unfold fzM bnd
  cases m ρ <;> rfl
@[simp] theorem rdv_0 (d : D) (r : En) : rdv 0 (some (.fz d) :: r) = .ok d (some (.fz d) :: r) := rfl
@[simp] theorem rdv_S (i : Nat) (x : Option O) (r : En) : rdv (i + 1) (x :: r) = match rdv i r with
  | .ok d r' => .ok d (x :: r')
  | .exc c r' => .exc c (x :: r')
  | .stuck => .stuck := by
  unfold rdv
  simp only [List.getElem?_cons_succ]
  cases (r[i]?).getD none with
  | none => rfl
  | some o => cases o <;> rfl
@[simp] theorem argOf_brw (i : Nat) (m : M O) : argOf (.brw i) m = brwM i := rfl
@[simp] theorem argOf_cst (d : D) (m : M O) : argOf (.cst d) m = bnd (bnd m frzM) fun d => ret (.dat d) := rfl
@[simp] theorem argOf_var (i : Nat) (m : M O) : argOf (.var i) m = bnd (bnd m frzM) fun d => ret (.dat d) := rfl
@[simp] theorem argOf_mv (i : Nat) (m : M O) : argOf (.mv i) m = bnd (bnd m frzM) fun d => ret (.dat d) := rfl
@[simp] theorem argOf_bin (o : B2) (a b : CE) (m : M O) : argOf (.bin o a b) m = bnd (bnd m frzM) fun d => ret (.dat d) := rfl
@[simp] theorem argOf_neg (a : CE) (m : M O) : argOf (.neg a) m = bnd (bnd m frzM) fun d => ret (.dat d) := rfl
@[simp] theorem argOf_cmp (o : C2) (a b : CE) (m : M O) : argOf (.cmp o a b) m = bnd (bnd m frzM) fun d => ret (.dat d) := rfl
@[simp] theorem argOf_chn (o o' : C2) (a b c : CE) (m : M O) : argOf (.chn o o' a b c) m = bnd (bnd m frzM) fun d => ret (.dat d) := rfl
@[simp] theorem argOf_and (a b : CE) (m : M O) : argOf (.and a b) m = bnd (bnd m frzM) fun d => ret (.dat d) := rfl
@[simp] theorem argOf_or (a b : CE) (m : M O) : argOf (.or a b) m = bnd (bnd m frzM) fun d => ret (.dat d) := rfl
@[simp] theorem argOf_not (a : CE) (m : M O) : argOf (.not a) m = bnd (bnd m frzM) fun d => ret (.dat d) := rfl
@[simp] theorem argOf_ite (t : CT) (a b : CE) (m : M O) : argOf (.ite t a b) m = bnd (bnd m frzM) fun d => ret (.dat d) := rfl
@[simp] theorem argOf_call (f n : Nat) (as : CEs) (m : M O) : argOf (.call f n as) m = bnd (bnd m frzM) fun d => ret (.dat d) := rfl
@[simp] theorem argOf_bi (b : BI) (as : CEs) (m : M O) : argOf (.bi b as) m = bnd (bnd m frzM) fun d => ret (.dat d) := rfl
@[simp] theorem argOf_isi (T : String) (a : CE) (m : M O) : argOf (.isi T a) m = bnd (bnd m frzM) fun d => ret (.dat d) := rfl
@[simp] theorem argOf_mth (k : MI) (a : CE) (as : CEs) (m : M O) : argOf (.mth k a as) m = bnd (bnd m frzM) fun d => ret (.dat d) := rfl
@[simp] theorem argOf_tup (as : CEs) (m : M O) : argOf (.tup as) m = bnd (bnd m frzM) fun d => ret (.dat d) := rfl
@[simp] theorem argOf_lst (as : CEs) (m : M O) : argOf (.lst as) m = bnd (bnd m frzM) fun d => ret (.dat d) := rfl
@[simp] theorem argOf_idx (a i : CE) (m : M O) : argOf (.idx a i) m = bnd (bnd m frzM) fun d => ret (.dat d) := rfl
@[simp] theorem argOf_slc (a : CE) (lo hi : CO) (m : M O) : argOf (.slc a lo hi) m = bnd (bnd m frzM) fun d => ret (.dat d) := rfl
@[simp] theorem argOf_rev (a : CE) (m : M O) : argOf (.rev a) m = bnd (bnd m frzM) fun d => ret (.dat d) := rfl
@[simp] theorem argOf_comp (own : List (Str × Nat)) (it : CI) (tg : Tg) (t : CT) (e : CE) (m : M O) : argOf (.comp own it tg t e) m = bnd (bnd m frzM) fun d => ret (.dat d) := rfl
@[simp] theorem argOf_fmt (a : CE) (m : M O) : argOf (.fmt a) m = bnd (bnd m frzM) fun d => ret (.dat d) := rfl
@[simp] theorem argOf_fstr (as : CEs) (m : M O) : argOf (.fstr as) m = bnd (bnd m frzM) fun d => ret (.dat d) := rfl
@[simp] theorem datsM_nil : datsM [] = ret [] := rfl
@[simp] theorem datsM_dat (d : D) (as : List Arg) : datsM (.dat d :: as) = bnd (datsM as) fun ds => ret (d :: ds) := rfl
@[simp] theorem withA_def (as : List Arg) (g : List D → Option D) : withA as g ρ = match argsD ρ as with
  | some (ds, b) => match g ds with
    | some f => if b && !okD f then .stuck else .ok (own f) ρ
    | none => .stuck
  | none => .stuck := by
  unfold withA
  cases argsD ρ as with
  | none => rfl
  | some p => obtain ⟨ds, b⟩ := p; first | rfl | (simp only; cases g ds <;> rfl)
@[simp] theorem withC_def (as : List Arg) (n : Nat) (Fn : List O → FR) : withC as n Fn ρ = match argsD ρ as with
  | some (ds, b) => if ds.length = n then match Fn (ds.map .fz) with
    | .ok r _ => if b && !okO r then .stuck else .ok r ρ
    | .exc c _ => .exc c ρ
    | .stuck => .stuck
    else .stuck
  | none => .stuck := by
  unfold withC
  cases argsD ρ as with
  | none => rfl
  | some p => obtain ⟨ds, b⟩ := p; first | rfl | (simp only; cases Fn (ds.map .fz) <;> rfl)
@[simp] theorem argsD_nil : argsD ρ [] = some ([], false) := rfl
@[simp] theorem argsD_dat (d : D) (as : List Arg) : argsD ρ (.dat d :: as) = match argsD ρ as with
  | some (ds, b) => some (d :: ds, b)
  | none => none := by
  show (match some (d, false), argsD ρ as with | some (d, b), some (ds, b') => some (d :: ds, b || b') | _, _ => none) = _
  cases argsD ρ as with
  | none => rfl
  | some p => obtain ⟨ds, b⟩ := p; simp
@[simp] theorem un1_def (g : D → Option D) (d : D) : un1 g [d] = g d := rfl
@[simp] theorem un2_def (g : D → D → Option D) (d e : D) : un2 g [d, e] = g d e := rfl
@[simp] theorem addG_int (i j : Int) : addG (.int i) (.int j) = some (.int (i + j)) := rfl
@[simp] theorem subG_int (i j : Int) : subG (.int i) (.int j) = some (.int (i - j)) := rfl
theorem mulG_int {i j : Int} (h : mulC i j = true) : mulG (.int i) (.int j) = some (.int (i * j)) := if_pos h
@[simp] theorem eqG_int (i j : Int) : eqG (.int i) (.int j) = some (.bl (decide (i = j))) := rfl
@[simp] theorem frOf_rt (o : O) : frOf (.ok (.rt o) ρ) = .ok o ((ρ[0]?).getD none) := rfl
@[simp] theorem frOf_nx : frOf (.ok .nx ρ) = .ok (.fz .non) ((ρ[0]?).getD none) := rfl
end
theorem runF_step {defs : List CD} {tk : Nat → Nat → Option Bool} {fuel n i : Nat} {d : CD} {os : List O} (hd : defs[i]? = some d) : runF defs tk fuel (n + 1) i os = frOf ((mn (runF defs tk fuel n) tk fuel).S d.body (env0 d.nn os)) := by
  show (match defs[i]? with | some d => runD (runF defs tk fuel n) tk fuel d os | none => .stuck) = _
  rw [hd]
  rfl
/-- a def by its body's equations -/
theorem runF_by {defs : List CD} {tk : Nat → Nat → Option Bool} {fuel n i : Nat} {d : CD} {os : List O} {c : CS} {ρ : En} {r : FR} (hd : defs[i]? = some d) (hc : d.body = c) (he : env0 d.nn os = ρ) (h : ∀ (Fk : Fi) (m : Mn Fk tk fuel), Fk = runF defs tk fuel n → frOf (m.S c ρ) = r) : runF defs tk fuel (n + 1) i os = r := by
  rw [runF_step hd, hc, he]
  exact h _ _ rfl
theorem runF_ex {defs : List CD} {tk : Nat → Nat → Option Bool} {fuel n i : Nat} {d : CD} {os : List O} (P : FR → Prop) (c : CS) (ρ : En) (hd : defs[i]? = some d) (hc : d.body = c) (he : env0 d.nn os = ρ) (h : ∀ (Fk : Fi) (m : Mn Fk tk fuel), Fk = runF defs tk fuel n → P (frOf (m.S c ρ))) : P (runF defs tk fuel (n + 1) i os) := by
  rw [runF_step hd, hc, he]
  exact h _ _ rfl
end FW
set_option Elab.async false
set_option linter.all false
set_option maxRecDepth 100000
/-! FM2: small facts for running -/
namespace FW
open PySem PySem.Spec L2
theorem log_lt {n k : Nat} (hk : 0 < k) (h : n < 2 ^ k) : n.log2 < k := by
  by_cases h0 : n = 0
  · subst h0; simpa using hk
  · exact (Nat.log2_lt h0).mpr h
theorem mulC_small {i j : Int} (hi : i.natAbs < 2 ^ 60) (hj : j.natAbs < 2 ^ 60) : mulC i j = true := by
  have h1 := log_lt (by decide) hi
  have h2 := log_lt (by decide) hj
  exact decide_eq_true (by omega)
theorem sizeN : sizeLine = 16777216 := sizeLine_eq
theorem joinParts_str {m : M D} {ms : List (M D)} {acc s : List Nat} {ρ ρ1 : En} (hm : m ρ = .ok (.str s) ρ1) (hl : acc.length + s.length ≤ sizeLine) : joinParts (m :: ms) acc ρ = joinParts ms (acc ++ s) ρ1 := by
  show bnd m _ ρ = _
  rw [bnd_def, hm]
  simp only
  rw [if_pos hl]
@[simp] theorem joinParts_nil {acc : List Nat} {ρ : En} : joinParts [] acc ρ = .ok (.fz (.str acc)) ρ := rfl
theorem strI_nat (n : Nat) : strI (n : Int) = TL.numL n := TL.tl_num n
theorem strI_nn {i : Int} (h : 0 ≤ i) : strI i = TL.numL i.toNat := by
  have := strI_nat i.toNat
  rwa [Int.toNat_of_nonneg h] at this
theorem fmtG_int {i : Int} (h : i.natAbs < 2 ^ 60) : fmtG (.int i) = some (.str (strI i)) := by
  have h1 := log_lt (by decide) h
  exact if_pos (by omega)
theorem fmtG_str {s : List Nat} (h : s.length ≤ sizeLine) : fmtG (.str s) = some (.str s) := if_pos h
theorem strG1_int {i : Int} (h : i.natAbs < 2 ^ 60) : strG1 (.int i) = some (.str (strI i)) := by
  have h1 := log_lt (by decide) h
  exact if_pos (by omega)
theorem addG_str {s t : List Nat} (h : s.length + t.length ≤ sizeLine) : addG (.str s) (.str t) = some (.str (s ++ t)) := if_pos h
theorem addG_lst {s t : List D} (h : s.length + t.length ≤ sizeLine) : addG (.lst s) (.lst t) = some (.lst (s ++ t)) := if_pos h
theorem lenG_str {s : List Nat} (h : s.length ≤ sizeLine) : lenG (.str s) = some (.int s.length) := if_pos h
theorem idx_ok {α : Type} {l : List α} {i : Nat} (h : i < l.length) (hz : l.length < 2 ^ 62) : atI l (i : Int) = some l[i] := by
  have e : ixN l.length (i : Int) = some i := by
    unfold ixN
    rw [if_pos (by omega), if_pos (by omega)]
    simp
  unfold atI
  rw [e]
  exact List.getElem?_eq_getElem h
theorem divG_int {i j : Int} (h : divC i j = true) : fdivG (.int i) (.int j) = some (.int (i.fdiv j)) := if_pos h
theorem modG_int {i j : Int} (h : j ≠ 0) : modG (.int i) (.int j) = some (.int (i.fmod j)) := if_pos (decide_eq_true h)
theorem lt_one {a b : Nat} : ([a] < [b]) ↔ a < b := by
  constructor
  · intro h
    cases h with
    | rel h => exact h
    | cons h => cases h
  · exact fun h => List.Lex.rel h
theorem asInts_mapf {α : Type} (f : α → Int) (l : List α) : asInts (l.map fun x => .int (f x)) = some (l.map f) := by
  have : l.map (fun x => D.int (f x)) = (l.map f).map .int := by rw [List.map_map]; rfl
  rw [this, asInts_map]
theorem sumG_map {α : Type} (f : α → Int) (l : List α) : onInts (fun ns => some ns.sum) (.lst (l.map fun x => .int (f x))) = some (.int (l.map f).sum) := by
  show ((asInts (l.map fun x => .int (f x))).bind fun ns => (some ns.sum).map D.int) = _
  rw [asInts_mapf]
  rfl
/-- a text's sign -/
def gd (s : List Nat) (i : Nat) : Nat := s.getD i 0
theorem gd_lt {s : List Nat} {i : Nat} (h : i < s.length) : gd s i = s[i] := by unfold gd; simp [h]
theorem atI_gd {s : List Nat} {i : Nat} (h : i < s.length) (hz : s.length < 2 ^ 62) : atI s (i : Int) = some (gd s i) := by rw [idx_ok h hz, gd_lt h]
theorem enum_str (s : List Nat) : enumG [.str s] = some ((List.range s.length).map fun (i : Nat) => .tup [.int i, .str [gd s i]]) := by
  show some (s.mapIdx fun i c => D.tup [.int i, .str [c]]) = _
  congr 1
  apply List.ext_getElem
  · simp
  · intro i h1 h2
    simp at h1
    simp [gd_lt h1]
/-- a list's text -/
def gs (l : List (List Nat)) (i : Nat) : List Nat := l.getD i []
theorem gs_lt {l : List (List Nat)} {i : Nat} (h : i < l.length) : gs l i = l[i] := by unfold gs; simp [h]
theorem atI_gs {l : List (List Nat)} {i : Nat} (h : i < l.length) (hz : l.length < 2 ^ 62) : atI (l.map D.str) (i : Int) = some (.str (gs l i)) := by
  rw [idx_ok (by simpa using h) (by simpa using hz), gs_lt h]; simp
theorem enum_strs (l : List (List Nat)) : enumG [.lst (l.map .str)] = some ((List.range l.length).map fun (i : Nat) => .tup [.int i, .str (gs l i)]) := by
  show some ((l.map D.str).mapIdx fun i c => D.tup [.int i, c]) = _
  congr 1
  apply List.ext_getElem
  · simp
  · intro i h1 h2
    simp at h1
    simp [gs_lt h1]
theorem asStrs_map' (ys : List (List Nat)) : asStrs (ys.map .str) = some ys := asStrs_map ys
theorem joinG_map {s : List Nat} {ys : List (List Nat)} (h : (ys.map (·.length)).sum + ys.length * s.length ≤ 16777216) : joinG s (.lst (ys.map .str)) = some (.str (TL.joinL s ys)) := by
  show (asStrs (ys.map .str)).bind _ = _
  rw [asStrs_map]
  exact if_pos h
theorem joinL_nil (ys : List (List Nat)) : TL.joinL [] ys = ys.flatten := by
  induction ys with
  | nil => rfl
  | cons a r ih =>
    cases r with
    | nil => simp [TL.joinL]
    | cons b r => rw [TL.joinL, ih]; simp
/-- every text is its parts joined -/
theorem parts_ex (c : Nat) : ∀ l : List Nat, ∃ ps : List (List Nat), ps ≠ [] ∧ (∀ p ∈ ps, c ∉ p) ∧ l = TL.joinL [c] ps
  | [] => ⟨[[]], by simp, by simp, rfl⟩
  | a :: l => by
    obtain ⟨ps, h1, h2, h3⟩ := parts_ex c l
    cases ps with
    | nil => exact absurd rfl h1
    | cons p ps =>
      by_cases h : a = c
      · refine ⟨[] :: p :: ps, by simp, fun q hq => ?_, ?_⟩
        · rcases List.mem_cons.mp hq with rfl | hq
          · simp
          · exact h2 q hq
        · show a :: l = [] ++ ([c] ++ TL.joinL [c] (p :: ps))
          rw [← h3, h]; rfl
      · refine ⟨(a :: p) :: ps, by simp, fun q hq => ?_, ?_⟩
        · rcases List.mem_cons.mp hq with rfl | hq
          · simp only [List.mem_cons, not_or]
            exact ⟨fun e => h e.symm, h2 p List.mem_cons_self⟩
          · exact h2 q (List.mem_cons_of_mem _ hq)
        · cases ps with
          | nil => show a :: l = a :: p; rw [h3]; rfl
          | cons q r => show a :: l = a :: p ++ _; rw [h3]; rfl
def sp (c : Nat) (l : List Nat) : List (List Nat) := TL.spl [c] 0 [] l
theorem sp_join {c : Nat} {ps : List (List Nat)} (h1 : ps ≠ []) (h2 : ∀ p ∈ ps, c ∉ p) : sp c (TL.joinL [c] ps) = ps := TL.spl_join h1 h2
theorem join_sp (c : Nat) (l : List Nat) : TL.joinL [c] (sp c l) = l ∧ sp c l ≠ [] ∧ ∀ p ∈ sp c l, c ∉ p := by
  obtain ⟨ps, h1, h2, h3⟩ := parts_ex c l
  rw [h3, sp_join h1 h2]
  exact ⟨rfl, h1, h2⟩
theorem kind1 {c : Nat} (h : c < 128) (x : Str) : ¬ Builtin.Str.strKind x < Builtin.Str.strKind ⟨[c].toArray⟩ := TL.kind_ok (by simp; omega)
theorem splitG_eq {c : Nat} {s : List Nat} (hc : c < 128) (hl : s.length + 2 ≤ sizeLine) : splitG s (.str [c]) = some (.lst ((sp c s).map .str)) := by
  have h := TL.split_spl ⟨s.toArray⟩ ⟨[c].toArray⟩ (by simp [TL.tl]) (kind1 hc _)
  show (if _ then some _ else none) = _
  rw [if_pos ⟨by simp, hl⟩]
  congr 2
  have e : (Txt.split ⟨s.toArray⟩ ⟨[c].toArray⟩).map strD = ((Txt.split ⟨s.toArray⟩ ⟨[c].toArray⟩).map TL.tl).map .str := by rw [List.map_map]; rfl
  rw [e, h]; rfl
/-- what stands behind the first sign c -/
def aft (c : Nat) (l : List Nat) : List Nat := TL.joinL [c] ((sp c l).drop 1)
theorem par1 {c : Nat} {p r : List Nat} (h : c ∉ p) : Txt.partition ⟨(p ++ c :: r).toArray⟩ ⟨[c].toArray⟩ = (⟨p.toArray⟩, ⟨[c].toArray⟩, ⟨r.toArray⟩) := by
  have := TL.partition_app (y := ⟨[c].toArray⟩) (s := c) (S := []) rfl (a := ⟨p.toArray⟩) (b := ⟨r.toArray⟩) h
  have e : (⟨p.toArray⟩ ++ ⟨[c].toArray⟩ ++ ⟨r.toArray⟩ : Str) = ⟨(p ++ c :: r).toArray⟩ := by
    apply TL.ext_tl
    rw [TL.tl_append, TL.tl_append]
    simp [TL.tl]
  rw [e] at this
  exact this
theorem par0 {c : Nat} {p : List Nat} (h : c ∉ p) : Txt.partition ⟨p.toArray⟩ ⟨[c].toArray⟩ = (⟨p.toArray⟩, Str.empty, Str.empty) := TL.partition_none (y := ⟨[c].toArray⟩) (s := c) (S := []) rfl h
theorem partG_eq {c : Nat} {s : List Nat} (hl : s.length ≤ sizeLine) : ∃ a b, partG s (.str [c]) = some (.tup [a, b, .str (aft c s)]) := by
  have h := join_sp c s
  have e : partG s (.str [c]) = some (.tup [strD (Txt.partition ⟨s.toArray⟩ ⟨[c].toArray⟩).1, strD (Txt.partition ⟨s.toArray⟩ ⟨[c].toArray⟩).2.1, strD (Txt.partition ⟨s.toArray⟩ ⟨[c].toArray⟩).2.2]) := if_pos ⟨by simp, hl⟩
  suffices key : strD (Txt.partition ⟨s.toArray⟩ ⟨[c].toArray⟩).2.2 = .str (aft c s) by rw [e, key]; exact ⟨_, _, rfl⟩
  unfold aft
  cases q : sp c s with
  | nil => exact absurd q h.2.1
  | cons p ps =>
    have hp : c ∉ p := h.2.2 p (by rw [q]; exact List.mem_cons_self)
    have hs := h.1
    rw [q] at hs
    cases ps with
    | nil =>
      have : s = p := hs.symm
      subst this
      rw [par0 hp]; rfl
    | cons p2 ps =>
      have : s = p ++ c :: TL.joinL [c] (p2 :: ps) := by rw [← hs]; rfl
      rw [this, par1 hp]; rfl
theorem rng1_nat {n : Nat} (h : n < 2 ^ 60) : rngM 1 [.int (n : Int)] = some ((List.range n).map fun (i : Nat) => .int (0 + (i : Int))) := by
  have hb : big62 (n : Int) = true := by unfold big62; simp; omega
  show (if [D.int (n : Int)].length = 1 then (if big62 (n : Int) then some ((List.range (n : Int).toNat).map fun (i : Nat) => D.int (0 + i)) else none) else none) = _
  rw [if_pos (show [D.int (n : Int)].length = 1 from rfl), if_pos hb, Int.toNat_natCast]
section
variable {F : Fi} {tk : Nat → Nat → Option Bool} {fuel : Nat} {ρ ρ1 ρ2 : En} (m : Mn F tk fuel)
theorem bnd_to {α β : Type} {m : M α} {f : α → M β} {a : α} (h : m ρ = .ok a ρ1) : bnd m f ρ = f a ρ1 := bnd_ok h
theorem mO_mth_ok {mi : MI} {a : CE} {as : CEs} {d f : D} {xs : List Arg} {ds : List D} (h1 : bnd (m.O a) frzM ρ = .ok d ρ1) (ht : tyOk (miT mi) d = true) (h2 : m.Es as ρ1 = .ok xs ρ2) (h3 : argsD ρ2 xs = some (ds, false)) (h4 : miG mi d ds = some f) : m.O (.mth mi a as) ρ = .ok (own f) ρ2 := by
  rw [msO_mth]
  unfold methA
  rw [bnd_to h1, if_pos ht, bnd_to h2]
  have e : argsD ρ2 (.dat d :: xs) = some (d :: ds, false) := by rw [argsD_dat, h3]
  rw [withA_def, e]
  show (match miG mi d ds with | some f => _ | none => _) = _
  rw [h4]
  rfl
theorem mI_rng_ok {as : CEs} {n : Nat} (h : m.Es as ρ = .ok [.dat (.int (n : Int))] ρ) (hn : n < 2 ^ 60) : m.I (.rng 1 as) ρ = .ok ((List.range n).map fun (i : Nat) => .int (0 + (i : Int))) ρ := by
  have h2 : bnd (m.Es as) datsM ρ = .ok [.int (n : Int)] ρ := by rw [bnd_to h]; rfl
  rw [msI_rng, bnd_to h2, rng1_nat hn]; rfl
end
@[simp] theorem andM_def (a b : M Bool) {ρ : En} : andM a b ρ = match a ρ with
  | .ok k ρ' => if k then b ρ' else .ok false ρ'
  | .exc c ρ' => .exc c ρ'
  | .stuck => .stuck := by
  unfold andM bnd
  cases a ρ with
  | ok k ρ' => cases k <;> rfl
  | exc c ρ' => rfl
  | stuck => rfl
@[simp] theorem orM_def (a b : M Bool) {ρ : En} : orM a b ρ = match a ρ with
  | .ok k ρ' => if k then .ok true ρ' else b ρ'
  | .exc c ρ' => .exc c ρ'
  | .stuck => .stuck := by
  unfold orM bnd
  cases a ρ with
  | ok k ρ' => cases k <;> rfl
  | exc c ρ' => rfl
  | stuck => rfl
theorem chain_ok {ma mb mc : M D} {g g' : D → D → Option D} {ρ : En} {x y w : D} {k1 k2 : Bool} (ha : ma ρ = .ok x ρ) (hb : mb ρ = .ok y ρ) (hc : mc ρ = .ok w ρ) (h1 : g x y = some (.bl k1)) (h2 : g' y w = some (.bl k2)) : chainM ma mb mc g g' ρ = .ok (.fz (.bl (k1 && k2))) ρ := by
  unfold chainM
  rw [bnd_to ha, bnd_to hb, h1, bnd_to (show ownM (some (.bl k1)) ρ = .ok (own (.bl k1)) ρ from rfl), bnd_to (show bnd (frzM (own (D.bl k1))) asB ρ = .ok k1 ρ from rfl)]
  cases k1 with
  | true => rw [if_pos rfl, bnd_to hc, h2]; rfl
  | false => rfl
@[simp] theorem eqG_str (s t : List Nat) : eqG (.str s) (.str t) = some (.bl (decide (s = t))) := rfl
@[simp] theorem neG_str (s t : List Nat) : neG (.str s) (.str t) = some (.bl (!decide (s = t))) := rfl
@[simp] theorem neG_int (i j : Int) : neG (.int i) (.int j) = some (.bl (!decide (i = j))) := rfl
@[simp] theorem ltG_int (i j : Int) : ltG (.int i) (.int j) = some (.bl (decide (i < j))) := rfl
@[simp] theorem leG_int (i j : Int) : leG (.int i) (.int j) = some (.bl (decide (i ≤ j))) := rfl
@[simp] theorem gtG_int (i j : Int) : gtG (.int i) (.int j) = some (.bl (decide (j < i))) := rfl
@[simp] theorem geG_int (i j : Int) : geG (.int i) (.int j) = some (.bl (decide (j ≤ i))) := rfl
theorem leG_one (a b : Nat) : leG (.str [a]) (.str [b]) = some (.bl (decide (a ≤ b))) := by
  show some (D.bl (!decide ([b] < [a]))) = _
  congr 2
  rw [decide_eq_decide.mpr lt_one]
  by_cases h : a ≤ b
  · rw [decide_eq_false (by omega), decide_eq_true h]; rfl
  · rw [decide_eq_true (by omega), decide_eq_false h]; rfl
theorem ltG_one (a b : Nat) : ltG (.str [a]) (.str [b]) = some (.bl (decide (a < b))) := by
  show some (D.bl (decide ([a] < [b]))) = _
  rw [decide_eq_decide.mpr lt_one]
theorem gtG_one (a b : Nat) : gtG (.str [a]) (.str [b]) = some (.bl (decide (b < a))) := by
  show some (D.bl (decide ([b] < [a]))) = _
  rw [decide_eq_decide.mpr lt_one]
theorem asBls_mapf {α : Type} (f : α → Bool) (l : List α) : asBls (l.map fun x => .bl (f x)) = some (l.map f) := by
  have : l.map (fun x => D.bl (f x)) = (l.map f).map .bl := by rw [List.map_map]; rfl
  rw [this, asBls_map]
theorem allG_map {α : Type} (f : α → Bool) (l : List α) : onBls (fun bs => bs.all id) (.lst (l.map fun x => .bl (f x))) = some (.bl (l.all f)) := by
  show (asBls (l.map fun x => .bl (f x))).map (fun ns => D.bl (ns.all id)) = _
  rw [asBls_mapf]
  simp [List.all_map]
theorem cut_last {α : Type} (l : List α) : cutD l none (some (-1)) = l.dropLast := by
  unfold cutD HT.sIx
  simp only [List.drop_zero]
  rw [if_pos (by decide), List.dropLast_eq_take]
  congr 1
  omega
theorem cut_from {α : Type} (l : List α) (k : Nat) : cutD l (some (k : Int)) none = l.drop k := by
  unfold cutD
  rw [HT.sIx_nat, HT.sIx_none]
  by_cases h : k ≤ l.length
  · rw [Nat.min_eq_left h, List.take_of_length_le (by simp)]
  · rw [Nat.min_eq_right (by omega), List.drop_eq_nil_of_le (by omega), List.drop_eq_nil_of_le (by omega)]; simp
theorem cut_to {α : Type} (l : List α) (k : Nat) : cutD l none (some (k : Int)) = l.take k := by
  unfold cutD
  rw [HT.sIx_nat, HT.sIx_none, List.drop_zero, Nat.sub_zero]
  by_cases h : k ≤ l.length
  · rw [Nat.min_eq_left h]
  · rw [Nat.min_eq_right (by omega), List.take_of_length_le (by omega), List.take_of_length_le (by omega)]
theorem cut_mid {α : Type} (l : List α) (i j : Nat) : cutD l (some (i : Int)) (some (j : Int)) = (l.drop i).take (j - i) := by
  unfold cutD
  rw [HT.sIx_nat, HT.sIx_nat]
  by_cases h : i ≤ l.length
  · rw [Nat.min_eq_left h]
    by_cases h2 : j ≤ l.length
    · rw [Nat.min_eq_left h2]
    · rw [Nat.min_eq_right (by omega), List.take_of_length_le (by simp), List.take_of_length_le (by simp; omega)]
  · rw [Nat.min_eq_right (show l.length ≤ i by omega), List.drop_eq_nil_of_le (Nat.le_refl _), List.drop_eq_nil_of_le (show l.length ≤ i by omega)]; simp
theorem slc_str {s : List Nat} {lo hi : Option Int} (h : s.length ≤ sizeLine) : slcG (.str s) lo hi = some (.str (cutD s lo hi)) := if_pos h
theorem aft_suffix (c : Nat) (s : List Nat) : aft c s <:+ s := by
  have h := join_sp c s
  unfold aft
  cases q : sp c s with
  | nil => exact absurd q h.2.1
  | cons p ps =>
    have hs := h.1
    rw [q] at hs
    cases ps with
    | nil => exact List.nil_suffix
    | cons p2 ps =>
      have : s = p ++ c :: TL.joinL [c] (p2 :: ps) := by rw [← hs]; rfl
      conv => rhs; rw [this]
      exact ⟨p ++ [c], by simp⟩
theorem sp_aft {c : Nat} {s : List Nat} (h : 2 ≤ (sp c s).length) : sp c (aft c s) = (sp c s).drop 1 := by
  have hj := join_sp c s
  unfold aft
  cases q : sp c s with
  | nil => exact absurd q hj.2.1
  | cons p ps =>
    rw [q] at h
    have h2 := hj.2.2
    rw [q] at h2
    refine sp_join (fun e => ?_) fun x hx => h2 x (List.mem_cons_of_mem _ hx)
    have e : ps = [] := e
    rw [e] at h
    simp at h
/-- a for over counted items: I tells the state ahead of item k -/
theorem for_inv {γ : Type} {g : D → M Unit} {m : M Fl} (mk : γ → D) (I : Nat → En → Prop) : ∀ (xs : List γ) (k : Nat) (ρ : En), I k ρ → (∀ (j : Nat) (x : γ) (ρ : En), xs[j]? = some x → I (k + j) ρ → ∃ ρ1 ρ2, g (mk x) ρ = .ok () ρ1 ∧ m ρ1 = .ok .nx ρ2 ∧ I (k + j + 1) ρ2) →
    ∃ ρ', forM' g m (xs.map mk) ρ = .ok .nx ρ' ∧ I (k + xs.length) ρ'
  | [], k, ρ, h0, _ => ⟨ρ, rfl, by simpa using h0⟩
  | x :: xs, k, ρ, h0, h => by
    obtain ⟨ρ1, ρ2, h1, h2, h3⟩ := h 0 x ρ rfl (by simpa using h0)
    obtain ⟨ρ', h4, h5⟩ := for_inv (g := g) (m := m) mk I xs (k + 1) ρ2 (by simpa using h3) (fun j y ρ e hi => by
      have := h (j + 1) y ρ (by simpa using e) (by rw [show k + (j + 1) = k + 1 + j by omega]; exact hi)
      rw [show k + (j + 1) + 1 = k + 1 + j + 1 by omega] at this
      exact this)
    refine ⟨ρ', ?_, by rw [show k + (x :: xs).length = k + 1 + xs.length by simp; omega]; exact h5⟩
    show forM' g m (mk x :: xs.map mk) ρ = _
    unfold forM'
    rw [h1]
    simp only
    rw [bnd_to h2]
    exact h4
theorem for_range {g : D → M Unit} {m : M Fl} (I : Nat → En → Prop) (cnt : Nat) (ρ : En) (h0 : I 0 ρ) (h : ∀ (j : Nat) (ρ : En), j < cnt → I j ρ → ∃ ρ1 ρ2, g (.int (0 + (j : Int))) ρ = .ok () ρ1 ∧ m ρ1 = .ok .nx ρ2 ∧ I (j + 1) ρ2) :
    ∃ ρ', forM' g m ((List.range cnt).map fun (i : Nat) => .int (0 + (i : Int))) ρ = .ok .nx ρ' ∧ I cnt ρ' := by
  obtain ⟨ρ', h1, h2⟩ := for_inv (g := g) (m := m) (fun (i : Nat) => D.int (0 + (i : Int))) I (List.range cnt) 0 ρ h0 (fun j x ρ e hi => by
    have hj : j < cnt := by
      have := (List.getElem?_eq_some_iff.mp e).1
      simpa using this
    have : x = j := by
      rw [List.getElem?_range hj] at e
      exact (Option.some.inj e).symm
    subst this
    simpa using h _ ρ hj (by simpa using hi))
  exact ⟨ρ', h1, by simpa using h2⟩
theorem cut_0to {α : Type} (l : List α) (k : Nat) : cutD l (some 0) (some (k : Int)) = l.take k := by
  have := cut_mid l 0 k
  simpa using this
theorem cut_from1 {α : Type} (l : List α) (k : Nat) : cutD l (some ((k : Int) + 1)) none = l.drop (k + 1) := by
  have := cut_from l (k + 1)
  simpa using this
theorem cut_from2 {α : Type} (l : List α) (k : Nat) : cutD l (some ((k : Int) + 2)) none = l.drop (k + 2) := by
  have := cut_from l (k + 2)
  simpa using this
theorem atI_int {l : List Int} {i : Nat} (h : i < l.length) (hz : l.length < 2 ^ 62) : atI (l.map D.int) (i : Int) = some (.int (l.getD i 0)) := by
  rw [idx_ok (by simpa using h) (by simpa using hz)]; simp [h]
end FW
set_option Elab.async false
set_option linter.all false
set_option maxRecDepth 100000
/-! FM3: running by composition -/
namespace FW
open PySem PySem.Spec L2
section
variable {F : Fi} {tk : Nat → Nat → Option Bool} {fuel : Nat} {ρ ρ1 ρ2 : En} (m : Mn F tk fuel)
/-- an argument's value, nothing changed -/
def Ev (a : CE) (ρ : En) (d : D) : Prop := argOf a (m.O a) ρ = .ok (.dat d) ρ
def EvL (as : CEs) (ρ : En) (ds : List D) : Prop := m.Es as ρ = .ok (ds.map Arg.dat) ρ
def nbrw : CE → Bool
  | .brw _ => false
  | _ => true
theorem argOf_n {a : CE} (h : nbrw a = true) (mo : M O) : argOf a mo = bnd (bnd mo frzM) fun d => ret (.dat d) := by cases a <;> first | rfl | cases h
variable {m}
theorem Ev.of {a : CE} {d : D} (h : m.O a ρ = .ok (own d) ρ) (hn : nbrw a = true := by rfl) : Ev m a ρ d := by
  unfold Ev
  rw [argOf_n hn, bnd_to (show bnd (m.O a) frzM ρ = .ok d ρ by rw [bnd_to h, frz_own])]
  rfl
theorem Ev.ofz {a : CE} {d : D} (h : m.O a ρ = .ok (.fz d) ρ) (hn : nbrw a = true := by rfl) : Ev m a ρ d := by
  unfold Ev
  rw [argOf_n hn, bnd_to (show bnd (m.O a) frzM ρ = .ok d ρ by rw [bnd_to h]; rfl)]
  rfl
theorem Ev.frz {a : CE} {d : D} (h : Ev m a ρ d) (hn : nbrw a = true := by rfl) : bnd (m.O a) frzM ρ = .ok d ρ := by
  unfold Ev at h
  rw [argOf_n hn] at h
  unfold bnd at h ⊢
  cases q : m.O a ρ with
  | ok o ρ' =>
    simp only [q] at h ⊢
    cases q2 : frzM o ρ' with
    | ok d' ρ2 => simp only [q2] at h; cases h; rfl
    | exc c ρ2 => simp only [q2] at h; cases h
    | stuck => simp only [q2] at h; cases h
  | exc c ρ' => simp only [q] at h; cases h
  | stuck => simp only [q] at h; cases h
theorem Ev.cst (d : D) : Ev m (.cst d) ρ d := Ev.ofz (by simp)
theorem Ev.var {i : Nat} {d : D} (h : ρ[i]? = some (some (.fz d))) : Ev m (.var i) ρ d := Ev.ofz (by rw [msO_var, fzM_def, rdv_fz h])
theorem mO_bin {o : B2} {a b : CE} {x y f : D} (ha : Ev m a ρ x) (hb : Ev m b ρ y) (h : b2G o x y = some f) : m.O (.bin o a b) ρ = .ok (own f) ρ := by
  rw [msO_bin, bnd_to ha, bnd_to hb, withA_def, argsD_dat, argsD_dat, argsD_nil]
  simp only [un2_def, h]
  rfl
theorem Ev.bin {o : B2} {a b : CE} {x y f : D} (ha : Ev m a ρ x) (hb : Ev m b ρ y) (h : b2G o x y = some f) : Ev m (.bin o a b) ρ f := .of (mO_bin ha hb h)
theorem mO_cmp {o : C2} {a b : CE} {x y f : D} (ha : Ev m a ρ x) (hb : Ev m b ρ y) (h : c2G o x y = some f) : m.O (.cmp o a b) ρ = .ok (own f) ρ := by
  rw [msO_cmp, bnd_to ha, bnd_to hb, withA_def, argsD_dat, argsD_dat, argsD_nil]
  simp only [un2_def, h]
  rfl
theorem Ev.idx {a i : CE} {x y f : D} (ha : Ev m a ρ x) (hb : Ev m i ρ y) (h : idxG x y = some f) : Ev m (.idx a i) ρ f := .ofz (by
  rw [msO_idx, bnd_to ha, bnd_to hb]
  unfold idxA
  simp only [argD, h])
theorem Ev.slc {a : CE} {lo hi : CO} {x f : D} {l u : Option Int} (ha : Ev m a ρ x) (hl : m.Op lo ρ = .ok l ρ) (hu : m.Op hi ρ = .ok u ρ) (h : slcG x l u = some f) : Ev m (.slc a lo hi) ρ f := .of (by
  rw [msO_slc, bnd_to ha, bnd_to hl, bnd_to hu, withA_def, argsD_dat, argsD_nil]
  simp only [un1_def, h]
  rfl)
theorem op_none : m.Op .none ρ = .ok none ρ := by rw [msOp_none]; rfl
theorem op_some {a : CE} {i : Int} (h : Ev m a ρ (.int i)) (hn : nbrw a = true := by rfl) : m.Op (.some a) ρ = .ok (some i) ρ := by
  rw [msOp_some, bnd_to (h.frz hn)]; rfl
theorem EvL.nil : EvL m .nil ρ [] := by unfold EvL; rw [msEs_nil]; rfl
theorem EvL.cons {a : CE} {as : CEs} {d : D} {ds : List D} (h : Ev m a ρ d) (hs : EvL m as ρ ds) : EvL m (.cons a as) ρ (d :: ds) := by
  unfold EvL
  rw [msEs_cons, bnd_to h, bnd_to hs]; rfl
theorem argsD_map (ds : List D) : argsD ρ (ds.map Arg.dat) = some (ds, false) := by
  induction ds with
  | nil => rfl
  | cons d ds ih => rw [List.map_cons, argsD_dat, ih]
theorem mO_call {f k : Nat} {as : CEs} {ds : List D} {r : O} {s : Option O} (h : EvL m as ρ ds) (hk : ds.length = k) (hr : F f (ds.map .fz) = .ok r s) : m.O (.call f k as) ρ = .ok r ρ := by
  rw [msO_call, bnd_to h, withC_def, argsD_map]
  simp only [if_pos hk, hr]
  rfl
theorem Ev.call {f k : Nat} {as : CEs} {ds : List D} {d : D} {s : Option O} (h : EvL m as ρ ds) (hk : ds.length = k) (hr : F f (ds.map .fz) = .ok (.fz d) s) : Ev m (.call f k as) ρ d := .ofz (mO_call h hk hr)
theorem Ev.callL {f k : Nat} {as : CEs} {ds : List D} {l : List D} {s : Option O} (h : EvL m as ρ ds) (hk : ds.length = k) (hr : F f (ds.map .fz) = .ok (.lst l) s) : Ev m (.call f k as) ρ (.lst l) := .of (d := .lst l) (mO_call h hk hr)
theorem mO_bi {b : BI} {as : CEs} {ds : List D} {f : D} (h : EvL m as ρ ds) (hf : biG b ds = some f) : m.O (.bi b as) ρ = .ok (own f) ρ := by
  rw [msO_bi, bnd_to h, withA_def, argsD_map]
  simp only [hf]
  rfl
theorem Ev.bi {b : BI} {as : CEs} {ds : List D} {f : D} (h : EvL m as ρ ds) (hf : biG b ds = some f) : Ev m (.bi b as) ρ f := .of (mO_bi h hf)
theorem Ev.len {a : CE} {d f : D} (h : Ev m a ρ d) (hf : lenG d = some f) : Ev m (.bi .len (.cons a .nil)) ρ f := .bi (.cons h .nil) hf
theorem mO_mth' {mi : MI} {a : CE} {as : CEs} {d f : D} {ds : List D} (h1 : Ev m a ρ d) (h2 : EvL m as ρ ds) (h4 : miG mi d ds = some f) (ht : tyOk (miT mi) d = true := by rfl) (hn : nbrw a = true := by rfl) : m.O (.mth mi a as) ρ = .ok (own f) ρ :=
  mO_mth_ok m (h1.frz hn) ht h2 (argsD_map ds) h4
theorem Ev.mth {mi : MI} {a : CE} {as : CEs} {d f : D} {ds : List D} (h1 : Ev m a ρ d) (h2 : EvL m as ρ ds) (h4 : miG mi d ds = some f) (ht : tyOk (miT mi) d = true := by rfl) (hn : nbrw a = true := by rfl) : Ev m (.mth mi a as) ρ f := .of (mO_mth' h1 h2 h4 ht hn)
theorem EvL.dats {as : CEs} {ds : List D} (h : EvL m as ρ ds) : bnd (m.Es as) datsM ρ = .ok ds ρ := by
  rw [bnd_to h]
  clear h
  induction ds with
  | nil => rfl
  | cons d ds ih => rw [List.map_cons, datsM_dat, bnd_to ih]; rfl
theorem mO_lst {as : CEs} {ds : List D} (h : EvL m as ρ ds) (hl : ds.length ≤ sizeLine) : m.O (.lst as) ρ = .ok (.lst ds) ρ := by
  rw [msO_lst, bnd_to h.dats]; exact if_pos hl
theorem Ev.lst {as : CEs} {ds : List D} (h : EvL m as ρ ds) (hl : ds.length ≤ sizeLine) : Ev m (.lst as) ρ (.lst ds) := .of (d := .lst ds) (mO_lst h hl)
theorem mS_setF {i : Nat} {a : CE} {d : D} (h : Ev m a ρ d) (hn : nbrw a = true := by rfl) : m.S (.setF i a) ρ = .ok .nx (ρ.set i (some (.fz d))) := by
  rw [msS_setF, bnd_to (show fzM (bnd (m.O a) frzM) ρ = .ok (.fz d) ρ by rw [fzM_def, h.frz hn])]; rfl
theorem mS_set {i : Nat} {a : CE} {o : O} (h : m.O a ρ = .ok o ρ) : m.S (.set i a) ρ = .ok .nx (ρ.set i (some o)) := by
  rw [msS_set, bnd_to h]; rfl
theorem mS_seq_nx {a b : CS} (h : m.S a ρ = .ok .nx ρ1) : m.S (.seq a b) ρ = m.S b ρ1 := by rw [msS_seq, h]
theorem mS_nil : m.S .nil ρ = .ok .nx ρ := by rw [msS_nil]; rfl
theorem mS_one {a : CS} {fl : Fl} (h : m.S a ρ = .ok fl ρ1) : m.S (.seq a .nil) ρ = .ok fl ρ1 := by
  rw [msS_seq, h]
  cases fl <;> first | rfl | exact mS_nil
theorem mS_ite {t : CT} {a b : CS} {k : Bool} (h : m.T t ρ = .ok k ρ) : m.S (.ite t a b) ρ = if k then m.S a ρ else m.S b ρ := by
  rw [msS_ite, iteM_def, h]
theorem mT_val {a : CE} {d : D} {k : Bool} (h : Ev m a ρ d) (hk : truD d = some k) : m.T (.val a) ρ = .ok k ρ := by
  rw [msT_val, bnd_to h]
  unfold truA
  simp only [argD, hk]
theorem mT_cmp {o : C2} {a b : CE} {x y : D} {k : Bool} (ha : Ev m a ρ x) (hb : Ev m b ρ y) (h : c2G o x y = some (.bl k)) : m.T (.cmp o a b) ρ = .ok k ρ := by
  have e : m.O (.cmp o a b) ρ = .ok (own (.bl k)) ρ := mO_cmp ha hb h
  rw [msO_cmp] at e
  rw [msT_cmp, bnd_to e]; rfl
theorem mT_not {a : CT} {k : Bool} (h : m.T a ρ = .ok k ρ) : m.T (.not a) ρ = .ok (!k) ρ := by rw [msT_not, bnd_to h]; rfl
theorem mT_and1 {a b : CT} {k : Bool} (h : m.T a ρ = .ok true ρ) (h2 : m.T b ρ = .ok k ρ) : m.T (.and a b) ρ = .ok k ρ := by rw [msT_and, andM_def, h]; simpa using h2
theorem mT_and0 {a b : CT} (h : m.T a ρ = .ok false ρ) : m.T (.and a b) ρ = .ok false ρ := by rw [msT_and, andM_def, h]; rfl
theorem mT_or1 {a b : CT} (h : m.T a ρ = .ok true ρ) : m.T (.or a b) ρ = .ok true ρ := by rw [msT_or, orM_def, h]; rfl
theorem mT_or0 {a b : CT} {k : Bool} (h : m.T a ρ = .ok false ρ) (h2 : m.T b ρ = .ok k ρ) : m.T (.or a b) ρ = .ok k ρ := by rw [msT_or, orM_def, h]; simpa using h2
theorem Ev.add {a b : CE} {x y : List Nat} (ha : Ev m a ρ (.str x)) (hb : Ev m b ρ (.str y)) (h : x.length + y.length ≤ 16777216) : Ev m (.bin .add a b) ρ (.str (x ++ y)) := .bin ha hb (addG_str (by rw [sizeN]; exact h))
theorem mO_addB {i : Nat} {b : CE} {l l2 : List D} (h : ρ[i]? = some (some (.lst l))) (hb : Ev m b ρ (.lst l2)) (hl : l.length + l2.length ≤ 16777216) (hf : lfrees (l ++ l2) = true) : m.O (.bin .add (.brw i) b) ρ = .ok (.lst (l ++ l2)) ρ := by
  rw [msO_bin, argOf_brw, bnd_to (brw_some h), bnd_to hb, withA_def]
  have e : argsD ρ [.slot i, .dat (.lst l2)] = some ([.lst l, .lst l2], true) := by
    show (match argD ρ (.slot i), argsD ρ [.dat (.lst l2)] with | some (d, b), some (ds, b') => some (d :: ds, b || b') | _, _ => none) = _
    rw [argD_slot_lst h]
    rfl
  rw [e]
  simp only
  have e2 : un2 (b2G .add) [.lst l, .lst l2] = some (.lst (l ++ l2)) := addG_lst (by rw [sizeN]; exact hl)
  rw [e2]
  simp only
  have e3 : okD (.lst (l ++ l2)) = true := hf
  rw [e3]; rfl
theorem Ev.addB {i : Nat} {b : CE} {l l2 : List D} (h : ρ[i]? = some (some (.lst l))) (hb : Ev m b ρ (.lst l2)) (hl : l.length + l2.length ≤ 16777216) (hf : lfrees (l ++ l2) = true) : Ev m (.bin .add (.brw i) b) ρ (.lst (l ++ l2)) := .of (d := .lst (l ++ l2)) (mO_addB h hb hl hf)
theorem mS_app {i : Nat} {a : CE} {l : List D} {d : D} (h : ρ[i]? = some (some (.lst l))) (ha : Ev m a ρ d) (hl : l.length < 16777216) (hn : nbrw a = true := by rfl) : m.S (.app i a) ρ = .ok .nx (ρ.set i (some (.lst (l ++ [d])))) := by
  rw [msS_app]
  unfold appS
  rw [h]
  simp only [Option.getD_some]
  rw [bnd_to (ha.frz hn)]
  unfold appM
  rw [h]
  simp only [Option.getD_some]
  rw [if_pos (by rw [sizeN]; exact hl)]
theorem Ev.rev {a : CE} {l : List D} (ha : Ev m a ρ (.lst l)) : Ev m (.rev a) ρ (.lst l.reverse) := .of (d := .lst l.reverse) (by
  rw [msO_rev, bnd_to ha, withA_def, argsD_dat, argsD_nil]
  rfl)
theorem lfrees_str (l : List (List Nat)) : lfrees (l.map .str) = true := by
  induction l with
  | nil => rfl
  | cons a l ih => simp [lfrees, lfree, ih]
theorem mS_ret {a : CE} {o : O} (h : m.O a ρ = .ok o ρ1) : m.S (.ret a) ρ = .ok (.rt o) ρ1 := by rw [msS_ret, bnd_to h]; rfl
theorem mO_callA {f k : Nat} {as : CEs} {xs : List Arg} {ds : List D} {r : O} {s : Option O} {b : Bool} (h : m.Es as ρ = .ok xs ρ) (ha : argsD ρ xs = some (ds, b)) (hk : ds.length = k) (hr : F f (ds.map .fz) = .ok r s) (ho : okO r = true) : m.O (.call f k as) ρ = .ok r ρ := by
  rw [msO_call, bnd_to h, withC_def, ha]
  simp only [if_pos hk, hr, ho]
  cases b <;> rfl
theorem mO_biA {bi : BI} {as : CEs} {xs : List Arg} {ds : List D} {f : D} {b : Bool} (h : m.Es as ρ = .ok xs ρ) (ha : argsD ρ xs = some (ds, b)) (hf : biG bi ds = some f) (ho : okD f = true) : m.O (.bi bi as) ρ = .ok (own f) ρ := by
  rw [msO_bi, bnd_to h, withA_def, ha]
  simp only [hf, ho]
  cases b <;> rfl
theorem es_brw {i : Nat} {as : CEs} {o : O} {xs : List Arg} (h : ρ[i]? = some (some o)) (hs : m.Es as ρ = .ok xs ρ) : m.Es (.cons (.brw i) as) ρ = .ok (.slot i :: xs) ρ := by
  rw [msEs_cons, argOf_brw, bnd_to (brw_some h), bnd_to hs]; rfl
theorem es_ev {a : CE} {as : CEs} {d : D} {xs : List Arg} (h : Ev m a ρ d) (hs : m.Es as ρ = .ok xs ρ) : m.Es (.cons a as) ρ = .ok (.dat d :: xs) ρ := by
  rw [msEs_cons, bnd_to h, bnd_to hs]; rfl
theorem es_nil : m.Es .nil ρ = .ok [] ρ := by rw [msEs_nil]; rfl
theorem argsD_slot {i : Nat} {l : List D} {xs : List Arg} {ds : List D} {b : Bool} (h : ρ[i]? = some (some (.lst l))) (hs : argsD ρ xs = some (ds, b)) : argsD ρ (.slot i :: xs) = some (.lst l :: ds, true) := by
  show (match argD ρ (.slot i), argsD ρ xs with | some (d, b), some (ds, b') => some (d :: ds, b || b') | _, _ => none) = _
  rw [argD_slot_lst h, hs]; rfl
theorem toPys_str : ∀ l : List (List Nat), ∃ ps, toPy.toPys (l.map .str) = some ps ∧ ∀ p ∈ ps, ∃ s, p = .str s
  | [] => ⟨[], rfl, fun _ h => (nomatch h)⟩
  | a :: l => by
    obtain ⟨ps, h1, h2⟩ := toPys_str l
    refine ⟨.str ⟨a.toArray⟩ :: ps, ?_, fun p hp => ?_⟩
    · rw [List.map_cons, toPy.toPys, h1]; rfl
    · rcases List.mem_cons.mp hp with rfl | hp
      · exact ⟨_, rfl⟩
      · exact h2 p hp
theorem Ev.idxB {i : Nat} {b : CE} {l : List D} {j : Int} {f : D} (h : ρ[i]? = some (some (.lst l))) (hb : Ev m b ρ (.int j)) (hf : atI l j = some f) : Ev m (.idx (.brw i) b) ρ f := .ofz (by
  rw [msO_idx, argOf_brw, bnd_to (brw_some h), bnd_to hb]
  unfold idxA
  rw [argD_slot_lst h]
  have : idxG (.lst l) (.int j) = some f := hf
  simp only [argD, this])
theorem mS_put {i j : Nat} {kx a : CE} {l : List D} {d : D} (h : ρ[i]? = some (some (.lst l))) (ha : Ev m a ρ d) (hk : Ev m kx ρ (.int (j : Int))) (hj : j < l.length) (hn : nbrw a = true := by rfl) (hn2 : nbrw kx = true := by rfl) : m.S (.put i kx a) ρ = .ok .nx (ρ.set i (some (.lst (l.set j d)))) := by
  have e : ixN l.length (j : Int) = some j := by
    unfold ixN
    rw [if_pos (by omega), if_pos (by omega)]; simp
  rw [msS_put]
  unfold putS
  rw [bnd_to (ha.frz hn), h]
  simp only [Option.getD_some]
  rw [bnd_to (hk.frz hn2)]
  unfold putAtM
  rw [h]
  simp only [Option.getD_some, e]
end
end FW
set_option Elab.async false
set_option linter.all false
set_option maxRecDepth 100000
set_option maxHeartbeats 0
namespace K67
open PySem PySem.Spec L2 FW
abbrev top (i : Nat) : Stmt := PySem.Challenge.pw_fewestfigures_k67_whole_journals_and_the.main.body.getD i (.Pass ⟨0, 0, 0, 0⟩)
def c_check_of : CS :=
  (.seq (.ret (.bin .mod (.bi .sum (.cons (.comp [("k", 1), ("sign", 2)] (.enum (.cons (.var 0) .nil)) (.tup [(.name 1), (.name 2)]) .yes (.bin .mul (.bin .add (.var 1) (.cst (.int 1))) (.bi .ord (.cons (.var 2) .nil)))) .nil)) (.cst (.int 967)))) <| .nil)
def d_check_of : DI := ⟨"check_of", "check_of", top 3, ["line", "k", "sign"], ["line"], ⟨1, 3, c_check_of⟩⟩
-- 0:line 1:k 2:sign
def c_record : CS :=
  (.seq (.ret (.fstr (.cons (.fmt (.var 0)) (.cons (.cst (.str [32])) (.cons (.fmt (.call 0 1 (.cons (.var 1) .nil))) (.cons (.cst (.str [32])) (.cons (.fmt (.var 1)) (.cons (.cst (.str [10])) .nil)))))))) <| .nil)
def d_record : DI := ⟨"record", "record", top 4, ["number", "line"], ["number", "line"], ⟨2, 2, c_record⟩⟩
-- 0:number 1:line
def c_journal_of : CS :=
  (.seq (.ret (.mth .join (.cst (.str [])) (.cons (.comp [("k", 1), ("line", 2)] (.enum (.cons (.var 0) .nil)) (.tup [(.name 1), (.name 2)]) .yes (.call 1 2 (.cons (.bin .add (.var 1) (.cst (.int 1))) (.cons (.var 2) .nil)))) .nil))) <| .nil)
def d_journal_of : DI := ⟨"journal_of", "journal_of", top 5, ["lines", "k", "line"], ["lines"], ⟨1, 3, c_journal_of⟩⟩
-- 0:lines 1:k 2:line
def c_line_in : CS :=
  (.seq (.setF 2 (.idx (.mth .part (.idx (.mth .part (.var 1) (.cons (.cst (.str [32])) .nil)) (.cst (.int 2))) (.cons (.cst (.str [32])) .nil)) (.cst (.int 2)))) <|
  .seq (.ite (.or (.cmp .gt (.bi .len (.cons (.var 2) .nil)) (.cst (.int 400))) (.not (.val (.bi .all (.cons (.comp [("sign", 3)] (.seq (.var 2)) (.name 3) .yes (.chn .le .le (.cst (.str [32])) (.var 3) (.cst (.str [126])))) .nil)))))
  (.seq (.ret (.cst .non)) <| .nil)
  ( .nil)) <|
  .seq (.ret (.ite (.cmp .eq (.call 1 2 (.cons (.var 0) (.cons (.var 2) .nil))) (.bin .add (.var 1) (.cst (.str [10])))) (.var 2) (.cst .non))) <| .nil)
def d_line_in : DI := ⟨"line_in", "line_in", top 6, ["number", "row", "line", "sign"], ["number", "row"], ⟨2, 4, c_line_in⟩⟩
-- 0:number 1:row 2:line 3:sign
def c_lines_in : CS :=
  (.seq (.set 1 (.lst .nil)) <|
  .seq (.for_ (.name 2) (.seq (.slc (.mth .split (.var 0) (.cons (.cst (.str [10])) .nil)) .none (.some (.neg (.cst (.int 1))))))
  (.seq (.setF 3 (.call 3 2 (.cons (.bin .add (.bi .len (.cons (.brw 1) .nil)) (.cst (.int 1))) (.cons (.var 2) .nil)))) <|
    .seq (.ite (.cmp .isN (.var 3) (.cst .non))
    (.seq (.ret (.mv 1)) <| .nil)
    ( .nil)) <|
    .seq (.app 1 (.var 3)) <| .nil)) <|
  .seq (.ret (.mv 1)) <| .nil)
def d_lines_in : DI := ⟨"lines_in", "lines_in", top 7, ["string", "found", "row", "line"], ["string"], ⟨1, 4, c_lines_in⟩⟩
-- 0:string 1:found 2:row 3:line
def c__law_cell : CS :=
  (.seq (.ite (.cmp .lt (.var 1) (.bi .len (.cons (.var 0) .nil)))
  (.seq (.ret (.bi .int (.cons (.idx (.var 0) (.var 1)) .nil))) <| .nil)
  ( .nil)) <|
  .seq (.ret (.cst (.int 0))) <| .nil)
def d__law_cell : DI := ⟨"_law_cell", "_law_cell", top 9, ["script", "k"], ["script", "k"], ⟨2, 2, c__law_cell⟩⟩
-- 0:script 1:k
def c__law_numbers : CS :=
  (.seq (.set 3 (.lst .nil)) <|
  .seq (.ite (.cmp .ge (.var 0) (.bin .pow (.cst (.int 10)) (.cst (.int 18))))
  (.seq (.for_ (.name 4) (.rng 1 (.cons (.var 1) .nil))
    (.seq (.app 3 (.bin .mod (.bi .int (.cons (.var 0) .nil)) (.var 2))) <|
      .seq (.setF 0 (.bin .fdiv (.bi .int (.cons (.var 0) .nil)) (.var 2))) <| .nil)) <|
    .seq (.ret (.mv 3)) <| .nil)
  ( .nil)) <|
  .seq (.for_ (.name 4) (.rng 1 (.cons (.var 1) .nil))
  (.seq (.setF 5 (.bin .mod (.bi .int (.cons (.bin .add (.bin .add (.bin .mul (.var 0) (.cst (.int 48271))) (.bin .mul (.var 4) (.cst (.int 69621)))) (.cst (.int 7))) .nil)) (.cst (.int 2147483647)))) <|
    .seq (.setF 5 (.bin .mod (.bi .int (.cons (.bin .add (.bin .add (.bin .add (.bin .mul (.var 5) (.var 5)) (.bin .mul (.var 5) (.cst (.int 40692)))) (.bin .mul (.var 4) (.cst (.int 16807)))) (.cst (.int 11))) .nil)) (.cst (.int 2147483399)))) <|
    .seq (.app 3 (.bin .mod (.bi .int (.cons (.bin .fdiv (.var 5) (.cst (.int 32))) .nil)) (.var 2))) <| .nil)) <|
  .seq (.ret (.mv 3)) <| .nil)
def d__law_numbers : DI := ⟨"_law_numbers", "_law_numbers", top 10, ["cell", "count", "limit", "found", "k", "mixed"], ["cell", "count", "limit"], ⟨3, 6, c__law_numbers⟩⟩
-- 0:cell 1:count 2:limit 3:found 4:k 5:mixed
def c__law_same : CS :=
  (.seq (.ite (.val (.isi "list" (.var 1)))
  (.seq (.ite (.or (.not (.val (.isi "list" (.var 0)))) (.cmp .ne (.bi .len (.cons (.var 0) .nil)) (.bi .len (.cons (.var 1) .nil))))
    (.seq (.ret (.cst (.bl false))) <| .nil)
    ( .nil)) <| .nil)
  (.seq (.ite (.val (.isi "tuple" (.var 1)))
    (.seq (.ite (.or (.not (.val (.isi "tuple" (.var 0)))) (.cmp .ne (.bi .len (.cons (.var 0) .nil)) (.bi .len (.cons (.var 1) .nil))))
      (.seq (.ret (.cst (.bl false))) <| .nil)
      ( .nil)) <| .nil)
    (.seq (.ite (.cmp .isN (.var 1) (.cst .non))
      (.seq (.ret (.cmp .isN (.var 0) (.cst .non))) <| .nil)
      (.seq (.ite (.val (.isi "bool" (.var 1)))
        (.seq (.ret (.and (.isi "bool" (.var 0)) (.cmp .eq (.var 0) (.var 1)))) <| .nil)
        (.seq (.ite (.val (.isi "int" (.var 1)))
          (.seq (.ret (.and (.isi "int" (.var 0)) (.and (.not (.isi "bool" (.var 0))) (.cmp .eq (.var 0) (.var 1))))) <| .nil)
          (.seq (.ret (.and (.isi "str" (.var 0)) (.cmp .eq (.var 0) (.var 1)))) <| .nil)) <| .nil)) <| .nil)) <| .nil)) <| .nil)) <|
  .seq (.for_ (.name 2) (.rng 1 (.cons (.bi .len (.cons (.var 1) .nil)) .nil))
  (.seq (.ite (.not (.val (.call 7 2 (.cons (.idx (.var 0) (.var 2)) (.cons (.idx (.var 1) (.var 2)) .nil)))))
    (.seq (.ret (.cst (.bl false))) <| .nil)
    ( .nil)) <| .nil)) <|
  .seq (.ret (.cst (.bl true))) <| .nil)
def d__law_same : DI := ⟨"_law_same", "_law_same", top 11, ["told", "due", "k"], ["told", "due"], ⟨2, 3, c__law_same⟩⟩
-- 0:told 1:due 2:k
def c__law_check_of : CS :=
  (.seq (.setF 1 (.cst (.int 0))) <|
  .seq (.for_ (.name 2) (.rng 1 (.cons (.bi .len (.cons (.var 0) .nil)) .nil))
  (.seq (.setF 1 (.bin .add (.var 1) (.bin .mul (.bin .add (.var 2) (.cst (.int 1))) (.bi .ord (.cons (.idx (.var 0) (.var 2)) .nil))))) <| .nil)) <|
  .seq (.ret (.bin .mod (.var 1) (.cst (.int 967)))) <| .nil)
def d__law_check_of : DI := ⟨"_law_check_of", "_law_check_of", top 12, ["line", "total", "k"], ["line"], ⟨1, 3, c__law_check_of⟩⟩
-- 0:line 1:total 2:k
def c__law_record : CS :=
  (.seq (.ret (.bin .add (.bin .add (.bin .add (.bin .add (.bin .add (.bi .str (.cons (.var 0) .nil)) (.cst (.str [32]))) (.bi .str (.cons (.call 8 1 (.cons (.var 1) .nil)) .nil))) (.cst (.str [32]))) (.var 1)) (.cst (.str [10])))) <| .nil)
def d__law_record : DI := ⟨"_law_record", "_law_record", top 13, ["number", "line"], ["number", "line"], ⟨2, 2, c__law_record⟩⟩
-- 0:number 1:line
def c__law_journal : CS :=
  (.seq (.ret (.mth .join (.cst (.str [])) (.cons (.comp [("k", 1)] (.rng 1 (.cons (.bi .len (.cons (.var 0) .nil)) .nil)) (.name 1) .yes (.call 9 2 (.cons (.bin .add (.var 1) (.cst (.int 1))) (.cons (.idx (.var 0) (.var 1)) .nil)))) .nil))) <| .nil)
def d__law_journal : DI := ⟨"_law_journal", "_law_journal", top 14, ["lines", "k"], ["lines"], ⟨1, 2, c__law_journal⟩⟩
-- 0:lines 1:k
def c__law_records : CS :=
  (.seq (.set 1 (.lst .nil)) <|
  .seq (.for_ (.name 2) (.seq (.slc (.mth .split (.var 0) (.cons (.cst (.str [10])) .nil)) .none (.some (.neg (.cst (.int 1))))))
  (.seq (.setF 3 (.mth .split (.var 2) (.cons (.cst (.str [32])) .nil))) <|
    .seq (.setF 4 (.mth .join (.cst (.str [32])) (.cons (.slc (.var 3) (.some (.cst (.int 2))) .none) .nil))) <|
    .seq (.setF 5 (.bi .len (.cons (.comp [("sign", 6)] (.seq (.var 4)) (.name 6) (.or (.cmp .lt (.var 6) (.cst (.str [32]))) (.cmp .gt (.var 6) (.cst (.str [126])))) (.var 6)) .nil))) <|
    .seq (.ite (.or (.cmp .lt (.bi .len (.cons (.var 3) .nil)) (.cst (.int 3))) (.or (.cmp .gt (.var 5) (.cst (.int 0))) (.or (.cmp .gt (.bi .len (.cons (.var 4) .nil)) (.cst (.int 400))) (.cmp .ne (.call 9 2 (.cons (.bin .add (.bi .len (.cons (.brw 1) .nil)) (.cst (.int 1))) (.cons (.var 4) .nil))) (.bin .add (.var 2) (.cst (.str [10])))))))
    (.seq (.ret (.mv 1)) <| .nil)
    ( .nil)) <|
    .seq (.app 1 (.var 4)) <| .nil)) <|
  .seq (.ret (.mv 1)) <| .nil)
def d__law_records : DI := ⟨"_law_records", "_law_records", top 15, ["text", "found", "row", "words", "line", "bad", "sign"], ["text"], ⟨1, 7, c__law_records⟩⟩
-- 0:text 1:found 2:row 3:words 4:line 5:bad 6:sign
def c__law_signs : CS :=
  (.seq (.setF 2 (.cst (.str [32, 33, 34, 35, 36, 38, 39, 40, 41, 42, 43, 44, 45, 46, 47, 48, 49, 50, 51, 52, 53, 54, 55, 56, 57, 58, 59, 60, 61, 62, 63, 64, 65, 66, 67, 68, 69, 70, 71, 72, 73, 74, 75, 76, 77, 78, 79, 80, 81, 82, 83, 84, 85, 86, 87, 88, 89, 90, 91, 92, 93, 94, 95, 96, 97, 98, 99, 100, 101, 102, 103, 104, 105, 106, 107, 108, 109, 110, 111, 112, 113, 114, 115, 116, 117, 118, 119, 120, 121, 122, 123, 124, 125, 126]))) <|
  .seq (.ret (.mth .join (.cst (.str [])) (.cons (.comp [("number", 3)] (.seq (.call 6 3 (.cons (.var 0) (.cons (.var 1) (.cons (.cst (.int 94)) .nil))))) (.name 3) .yes (.idx (.var 2) (.var 3))) .nil))) <| .nil)
def d__law_signs : DI := ⟨"_law_signs", "_law_signs", top 16, ["draw", "count", "known", "number"], ["draw", "count"], ⟨2, 4, c__law_signs⟩⟩
-- 0:draw 1:count 2:known 3:number
def c__law_bent_string : CS :=
  (.seq (.setF 3 (.cst (.str [48, 49, 50, 51, 52, 53, 54, 55, 56, 57, 32, 10, 45, 47, 97, 98, 99, 101, 102, 105, 108, 110, 111, 114, 115, 116, 94, 46, 44, 59]))) <|
  .seq (.setF 4 (.bin .mod (.idx (.var 1) (.var 2)) (.bin .add (.bi .len (.cons (.var 0) .nil)) (.cst (.int 1))))) <|
  .seq (.setF 5 (.idx (.var 3) (.bin .mod (.idx (.var 1) (.bin .add (.var 2) (.cst (.int 1)))) (.bi .len (.cons (.var 3) .nil))))) <|
  .seq (.setF 6 (.bin .mod (.idx (.var 1) (.bin .add (.var 2) (.cst (.int 2)))) (.cst (.int 7)))) <|
  .seq (.ite (.cmp .eq (.var 6) (.cst (.int 0)))
  (.seq (.ret (.bin .add (.slc (.var 0) (.some (.cst (.int 0))) (.some (.var 4))) (.slc (.var 0) (.some (.bin .add (.var 4) (.cst (.int 1)))) .none))) <| .nil)
  ( .nil)) <|
  .seq (.ite (.cmp .eq (.var 6) (.cst (.int 1)))
  (.seq (.ret (.bin .add (.bin .add (.slc (.var 0) (.some (.cst (.int 0))) (.some (.var 4))) (.var 5)) (.slc (.var 0) (.some (.bin .add (.var 4) (.cst (.int 1)))) .none))) <| .nil)
  ( .nil)) <|
  .seq (.ite (.cmp .eq (.var 6) (.cst (.int 2)))
  (.seq (.ret (.slc (.var 0) (.some (.cst (.int 0))) (.some (.var 4)))) <| .nil)
  ( .nil)) <|
  .seq (.ite (.cmp .eq (.var 6) (.cst (.int 3)))
  (.seq (.ret (.bin .add (.var 0) (.var 5))) <| .nil)
  ( .nil)) <|
  .seq (.ite (.cmp .eq (.var 6) (.cst (.int 4)))
  (.seq (.ret (.bin .add (.var 5) (.var 0))) <| .nil)
  ( .nil)) <|
  .seq (.ite (.cmp .eq (.var 6) (.cst (.int 5)))
  (.seq (.ret (.bin .add (.slc (.var 0) (.some (.cst (.int 0))) (.some (.var 4))) (.slc (.var 0) (.some (.bin .mod (.idx (.var 1) (.bin .add (.var 2) (.cst (.int 1)))) (.bin .add (.bi .len (.cons (.var 0) .nil)) (.cst (.int 1))))) .none))) <| .nil)
  ( .nil)) <|
  .seq (.ret (.bin .add (.bin .add (.slc (.var 0) (.some (.cst (.int 0))) (.some (.var 4))) (.var 5)) (.slc (.var 0) (.some (.var 4)) .none))) <| .nil)
def d__law_bent_string : DI := ⟨"_law_bent_string", "_law_bent_string", top 17, ["text", "draws", "at", "signs", "spot", "sign", "kind"], ["text", "draws", "at"], ⟨3, 7, c__law_bent_string⟩⟩
-- 0:text 1:draws 2:at 3:signs 4:spot 5:sign 6:kind
def c__law_spoilt : CS :=
  (.seq (.setF 2 (.call 10 1 (.cons (.var 0) .nil))) <|
  .seq (.for_ (.name 3) (.rng 1 (.cons (.bi .len (.cons (.var 0) .nil)) .nil))
  (.seq (.setF 4 (.idx (.var 0) (.var 3))) <|
    .seq (.ite (.cmp .gt (.bi .len (.cons (.var 4) .nil)) (.cst (.int 0)))
    (.seq (.setF 5 (.bin .mod (.idx (.var 1) (.var 3)) (.bi .len (.cons (.var 4) .nil)))) <|
      .seq (.setF 6 (.call 10 1 (.cons (.slc (.var 0) (.some (.cst (.int 0))) (.some (.var 3))) .nil))) <|
      .seq (.setF 7 (.call 9 2 (.cons (.bin .add (.var 3) (.cst (.int 1))) (.cons (.var 4) .nil)))) <|
      .seq (.setF 8 (.slc (.var 2) (.some (.bin .add (.bi .len (.cons (.var 6) .nil)) (.bi .len (.cons (.var 7) .nil)))) .none)) <|
      .seq (.setF 9 (.slc (.var 7) (.some (.cst (.int 0))) (.some (.bin .sub (.bin .sub (.bi .len (.cons (.var 7) .nil)) (.cst (.int 1))) (.bi .len (.cons (.var 4) .nil)))))) <|
      .seq (.for_ (.name 10) (.seq (.bin .add (.call 12 2 (.cons (.idx (.var 1) (.bin .add (.var 3) (.cst (.int 8)))) (.cons (.cst (.int 3)) .nil))) (.cst (.str [32, 126, 44]))))
      (.seq (.ite (.and (.cmp .ne (.var 10) (.idx (.var 4) (.var 5))) (.not (.val (.call 7 2 (.cons (.call 4 1 (.cons (.bin .add (.bin .add (.bin .add (.bin .add (.bin .add (.bin .add (.var 6) (.var 9)) (.slc (.var 4) (.some (.cst (.int 0))) (.some (.var 5)))) (.var 10)) (.slc (.var 4) (.some (.bin .add (.var 5) (.cst (.int 1)))) .none)) (.cst (.str [10]))) (.var 8)) .nil)) (.cons (.slc (.var 0) (.some (.cst (.int 0))) (.some (.var 3))) .nil))))))
        (.seq (.ret (.cst (.bl false))) <| .nil)
        ( .nil)) <| .nil)) <|
      .seq (.ite (.and (.cmp .lt (.bin .add (.var 5) (.cst (.int 1))) (.bi .len (.cons (.var 4) .nil))) (.cmp .ne (.idx (.var 4) (.var 5)) (.idx (.var 4) (.bin .add (.var 5) (.cst (.int 1))))))
      (.seq (.ite (.not (.val (.call 7 2 (.cons (.call 4 1 (.cons (.bin .add (.bin .add (.bin .add (.bin .add (.bin .add (.bin .add (.bin .add (.var 6) (.var 9)) (.slc (.var 4) (.some (.cst (.int 0))) (.some (.var 5)))) (.idx (.var 4) (.bin .add (.var 5) (.cst (.int 1))))) (.idx (.var 4) (.var 5))) (.slc (.var 4) (.some (.bin .add (.var 5) (.cst (.int 2)))) .none)) (.cst (.str [10]))) (.var 8)) .nil)) (.cons (.slc (.var 0) (.some (.cst (.int 0))) (.some (.var 3))) .nil)))))
        (.seq (.ret (.cst (.bl false))) <| .nil)
        ( .nil)) <| .nil)
      ( .nil)) <| .nil)
    ( .nil)) <| .nil)) <|
  .seq (.ret (.cst (.bl true))) <| .nil)
def d__law_spoilt : DI := ⟨"_law_spoilt", "_law_spoilt", top 18, ["lines", "draws", "text", "k", "line", "spot", "before", "row", "rest", "head", "sign"], ["lines", "draws"], ⟨2, 11, c__law_spoilt⟩⟩
-- 0:lines 1:draws 2:text 3:k 4:line 5:spot 6:before 7:row 8:rest 9:head 10:sign
def c__law_texts : CS :=
  (.seq (.setF 2 (.call 10 1 (.cons (.var 0) .nil))) <|
  .seq (.setF 3 (.bin .mod (.idx (.var 1) (.cst (.int 0))) (.bin .add (.bi .len (.cons (.var 0) .nil)) (.cst (.int 1))))) <|
  .seq (.setF 4 (.call 10 1 (.cons (.slc (.var 0) (.some (.cst (.int 0))) (.some (.var 3))) .nil))) <|
  .seq (.setF 5 (.comp [("row", 7)] (.seq (.slc (.mth .split (.var 2) (.cons (.cst (.str [10])) .nil)) .none (.some (.neg (.cst (.int 1)))))) (.name 7) .yes (.bin .add (.var 7) (.cst (.str [10]))))) <|
  .seq (.set 6 (.lst (.cons (.var 2) (.cons (.slc (.var 2) (.some (.cst (.int 0))) (.some (.bin .mod (.idx (.var 1) (.cst (.int 1))) (.bin .add (.bi .len (.cons (.var 2) .nil)) (.cst (.int 1)))))) (.cons (.bin .add (.var 4) (.var 2)) (.cons (.bin .add (.var 2) (.cst (.str [10]))) (.cons (.cst (.str [])) (.cons (.slc (.var 4) (.some (.cst (.int 0))) (.some (.bi .max2 (.cons (.cst (.int 0)) (.cons (.bin .sub (.bi .len (.cons (.var 4) .nil)) (.cst (.int 1))) .nil))))) (.cons (.mth .join (.cst (.str [])) (.cons (.rev (.var 5)) .nil)) (.cons (.mth .join (.cst (.str [])) (.cons (.bin .add (.slc (.var 5) (.some (.cst (.int 0))) (.some (.var 3))) (.slc (.var 5) (.some (.bin .add (.var 3) (.cst (.int 1)))) .none)) .nil)) .nil)))))))))) <|
  .seq (.set 6 (.bin .add (.brw 6) (.lst (.cons (.bin .add (.bin .add (.var 4) (.cst (.str [48]))) (.slc (.var 2) (.some (.bi .len (.cons (.var 4) .nil))) .none)) (.cons (.bin .add (.bin .add (.var 4) (.cst (.str [32]))) (.slc (.var 2) (.some (.bi .len (.cons (.var 4) .nil))) .none)) (.cons (.bin .add (.bin .add (.var 4) (.bi .str (.cons (.bin .add (.var 3) (.cst (.int 1))) .nil))) (.cst (.str [32, 48, 32, 10]))) (.cons (.cst (.str [49, 32, 48, 32, 10])) (.cons (.cst (.str [49, 32, 48, 10])) (.cons (.cst (.str [49, 32, 57, 55, 32, 97, 10])) (.cons (.cst (.str [49, 32, 48, 57, 55, 32, 97, 10])) (.cons (.cst (.str [49, 32, 57, 56, 32, 97, 10])) (.cons (.cst (.str [48, 49, 32, 57, 55, 32, 97, 10])) .nil)))))))))))) <|
  .seq (.set 6 (.bin .add (.brw 6) (.lst (.cons (.cst (.str [50, 32, 57, 55, 32, 97, 10])) (.cons (.cst (.str [49, 32, 50, 57, 51, 32, 97, 98, 10])) (.cons (.cst (.str [49, 32, 57, 55, 32, 97])) (.cons (.cst (.str [49, 32, 57, 55, 32, 32, 97, 10])) (.cons (.cst (.str [32, 32, 10])) .nil)))))))) <|
  .seq (.set 6 (.bin .add (.brw 6) (.lst (.cons (.mth .join (.cst (.str [])) (.cons (.bin .add (.bin .add (.slc (.var 5) (.some (.cst (.int 0))) (.some (.var 3))) (.slc (.var 5) (.some (.var 3)) (.some (.bin .add (.var 3) (.cst (.int 1)))))) (.slc (.var 5) (.some (.var 3)) .none)) .nil)) (.cons (.mth .join (.cst (.str [])) (.cons (.bin .add (.bin .add (.bin .add (.slc (.var 5) (.some (.cst (.int 0))) (.some (.var 3))) (.slc (.var 5) (.some (.bin .add (.var 3) (.cst (.int 1)))) (.some (.bin .add (.var 3) (.cst (.int 2)))))) (.slc (.var 5) (.some (.var 3)) (.some (.bin .add (.var 3) (.cst (.int 1)))))) (.slc (.var 5) (.some (.bin .add (.var 3) (.cst (.int 2)))) .none)) .nil)) .nil))))) <|
  .seq (.app 6 (.bin .add (.bin .add (.var 4) (.call 9 2 (.cons (.bin .add (.var 3) (.cst (.int 1))) (.cons (.bin .mul (.cst (.str [97])) (.bin .add (.cst (.int 399)) (.bin .mod (.idx (.var 1) (.cst (.int 3))) (.cst (.int 3))))) .nil)))) (.call 9 2 (.cons (.bin .add (.var 3) (.cst (.int 2))) (.cons (.cst (.str [98])) .nil))))) <|
  .seq (.ret (.bin .add (.brw 6) (.lst (.cons (.call 13 3 (.cons (.var 2) (.cons (.var 1) (.cons (.cst (.int 2)) .nil)))) (.cons (.call 13 3 (.cons (.var 2) (.cons (.var 1) (.cons (.cst (.int 5)) .nil)))) (.cons (.call 13 3 (.cons (.var 2) (.cons (.var 1) (.cons (.cst (.int 8)) .nil)))) .nil)))))) <| .nil)
def d__law_texts : DI := ⟨"_law_texts", "_law_texts", top 19, ["lines", "draws", "text", "at", "rest", "rows", "found", "row"], ["lines", "draws"], ⟨2, 8, c__law_texts⟩⟩
-- 0:lines 1:draws 2:text 3:at 4:rest 5:rows 6:found 7:row
def c_law : CS :=
  (.seq (.setF 1 (.call 6 3 (.cons (.call 5 2 (.cons (.var 0) (.cons (.cst (.int 0)) .nil))) (.cons (.cst (.int 40)) (.cons (.cst (.int 5040)) .nil))))) <|
  .seq (.set 2 (.comp [("k", 7)] (.rng 1 (.cons (.bin .add (.cst (.int 1)) (.bin .mod (.idx (.var 1) (.cst (.int 0))) (.cst (.int 8)))) .nil)) (.name 7) .yes (.call 12 2 (.cons (.bin .add (.bin .mul (.idx (.var 1) (.var 7)) (.cst (.int 7919))) (.var 7)) (.cons (.idx (.lst (.cons (.bin .mod (.idx (.var 1) (.bin .add (.cst (.int 8)) (.var 7))) (.cst (.int 12))) (.cons (.bin .mod (.idx (.var 1) (.bin .add (.cst (.int 8)) (.var 7))) (.cst (.int 90))) (.cons (.cst (.int 0)) .nil)))) (.bin .mod (.idx (.var 1) (.var 7)) (.cst (.int 3)))) .nil))))) <|
  .seq (.ite (.cmp .eq (.bin .mod (.idx (.var 1) (.cst (.int 20))) (.cst (.int 2))) (.cst (.int 0)))
  (.seq (.put 2 (.cst (.int 0)) (.bin .add (.bin .add (.cst (.str [32, 97, 32, 98])) (.idx (.brw 2) (.cst (.int 0)))) (.cst (.str [32])))) <| .nil)
  ( .nil)) <|
  .seq (.setF 3 (.bi .list (.cons (.brw 2) .nil))) <|
  .seq (.for_ (.name 4) (.seq (.bin .add (.brw 2) (.lst (.cons (.cst (.str [97, 98])) (.cons (.cst (.str [97])) (.cons (.cst (.str [])) .nil))))))
  (.seq (.ite (.not (.val (.call 7 2 (.cons (.call 0 1 (.cons (.var 4) .nil)) (.cons (.call 8 1 (.cons (.var 4) .nil)) .nil)))))
    (.seq (.ret (.cst (.bl false))) <| .nil)
    ( .nil)) <| .nil)) <|
  .seq (.ite (.or (.not (.val (.call 7 2 (.cons (.lst (.cons (.call 2 1 (.cons (.bi .list (.cons (.brw 2) .nil)) .nil)) (.cons (.call 2 1 (.cons (.lst .nil) .nil)) .nil))) (.cons (.lst (.cons (.call 10 1 (.cons (.brw 2) .nil)) (.cons (.cst (.str [])) .nil))) .nil))))) (.or (.cmp .ne (.brw 2) (.var 3)) (.not (.val (.call 14 2 (.cons (.brw 2) (.cons (.var 1) .nil)))))))
  (.seq (.ret (.cst (.bl false))) <| .nil)
  ( .nil)) <|
  .seq (.for_ (.name 5) (.seq (.call 15 2 (.cons (.brw 2) (.cons (.slc (.var 1) (.some (.cst (.int 21))) .none) .nil))))
  (.seq (.for_ (.name 6) (.rng 1 (.cons (.cst (.int 2)) .nil))
    (.seq (.set 8 (.call 4 1 (.cons (.var 5) .nil))) <|
      .seq (.ite (.not (.val (.call 7 2 (.cons (.brw 8) (.cons (.call 11 1 (.cons (.var 5) .nil)) .nil)))))
      (.seq (.ret (.cst (.bl false))) <| .nil)
      ( .nil)) <|
      .seq (.app 8 (.cst (.str [99, 104, 97, 110, 103, 101, 100]))) <| .nil)) <| .nil)) <|
  .seq (.ret (.cmp .eq (.call 0 1 (.cons (.cst (.str [97, 98])) .nil)) (.cst (.int 293)))) <| .nil)
def d_law : DI := ⟨"law", "law", top 20, ["script", "more", "lines", "kept", "line", "text", "turn", "k", "told"], ["script"], ⟨1, 9, c_law⟩⟩
-- 0:script 1:more 2:lines 3:kept 4:line 5:text 6:turn 7:k 8:told
def ds : List DI := [d_check_of, d_record, d_journal_of, d_line_in, d_lines_in, d__law_cell, d__law_numbers, d__law_same, d__law_check_of, d__law_record, d__law_journal, d__law_records, d__law_signs, d__law_bent_string, d__law_spoilt, d__law_texts, d_law]
def gl : List (Str × GV) := [("check_of", .fn 0 1), ("record", .fn 1 2), ("journal_of", .fn 2 1), ("line_in", .fn 3 2), ("lines_in", .fn 4 1), ("_law_cell", .fn 5 2), ("_law_numbers", .fn 6 3), ("_law_same", .fn 7 2), ("_law_check_of", .fn 8 1), ("_law_record", .fn 9 2), ("_law_journal", .fn 10 1), ("_law_records", .fn 11 1), ("_law_signs", .fn 12 2), ("_law_bent_string", .fn 13 3), ("_law_spoilt", .fn 14 2), ("_law_texts", .fn 15 2), ("law", .fn 16 1), ("MODULUS", .cst (.int 967)), ("MOST_SIGNS", .cst (.int 400))]
def fr : List Str := ["all", "bool", "enumerate", "int", "isinstance", "len", "list", "max", "ord", "range", "str", "sum", "tuple"]
def exs : List Str := []
def tkl : List (Nat × Nat × Bool) := []
theorem bnd_check_of : d_check_of.Bnd := fun kV doc pm an cdv ct us hl => match us, hl with | [_], _ => rfl
theorem bnd_record : d_record.Bnd := fun kV doc pm an cdv ct us hl => match us, hl with | [_, _], _ => rfl
theorem bnd_journal_of : d_journal_of.Bnd := fun kV doc pm an cdv ct us hl => match us, hl with | [_], _ => rfl
theorem bnd_line_in : d_line_in.Bnd := fun kV doc pm an cdv ct us hl => match us, hl with | [_, _], _ => rfl
theorem bnd_lines_in : d_lines_in.Bnd := fun kV doc pm an cdv ct us hl => match us, hl with | [_], _ => rfl
theorem bnd__law_cell : d__law_cell.Bnd := fun kV doc pm an cdv ct us hl => match us, hl with | [_, _], _ => rfl
theorem bnd__law_numbers : d__law_numbers.Bnd := fun kV doc pm an cdv ct us hl => match us, hl with | [_, _, _], _ => rfl
theorem bnd__law_same : d__law_same.Bnd := fun kV doc pm an cdv ct us hl => match us, hl with | [_, _], _ => rfl
theorem bnd__law_check_of : d__law_check_of.Bnd := fun kV doc pm an cdv ct us hl => match us, hl with | [_], _ => rfl
theorem bnd__law_record : d__law_record.Bnd := fun kV doc pm an cdv ct us hl => match us, hl with | [_, _], _ => rfl
theorem bnd__law_journal : d__law_journal.Bnd := fun kV doc pm an cdv ct us hl => match us, hl with | [_], _ => rfl
theorem bnd__law_records : d__law_records.Bnd := fun kV doc pm an cdv ct us hl => match us, hl with | [_], _ => rfl
theorem bnd__law_signs : d__law_signs.Bnd := fun kV doc pm an cdv ct us hl => match us, hl with | [_, _], _ => rfl
theorem bnd__law_bent_string : d__law_bent_string.Bnd := fun kV doc pm an cdv ct us hl => match us, hl with | [_, _, _], _ => rfl
theorem bnd__law_spoilt : d__law_spoilt.Bnd := fun kV doc pm an cdv ct us hl => match us, hl with | [_, _], _ => rfl
theorem bnd__law_texts : d__law_texts.Bnd := fun kV doc pm an cdv ct us hl => match us, hl with | [_, _], _ => rfl
theorem bnd_law : d_law.Bnd := fun kV doc pm an cdv ct us hl => match us, hl with | [_], _ => rfl
theorem allBnd : ∀ d ∈ ds, d.Bnd := by
  intro d hd
  simp only [ds, List.mem_cons, List.not_mem_nil, or_false] at hd
  rcases hd with rfl | rfl | rfl | rfl | rfl | rfl | rfl | rfl | rfl | rfl | rfl | rfl | rfl | rfl | rfl | rfl | rfl
  · exact bnd_check_of
  · exact bnd_record
  · exact bnd_journal_of
  · exact bnd_line_in
  · exact bnd_lines_in
  · exact bnd__law_cell
  · exact bnd__law_numbers
  · exact bnd__law_same
  · exact bnd__law_check_of
  · exact bnd__law_record
  · exact bnd__law_journal
  · exact bnd__law_records
  · exact bnd__law_signs
  · exact bnd__law_bent_string
  · exact bnd__law_spoilt
  · exact bnd__law_texts
  · exact bnd_law
-- LAWIX 20 LAWDEF 16 TOPNAMES __name__ MODULUS MOST_SIGNS check_of record journal_of line_in lines_in _law_cell _law_numbers _law_same _law_check_of _law_record _law_journal _law_records _law_signs _law_bent_string _law_spoilt _law_texts

theorem allOk : (ds.all fun d => d.okB gl fr) = true := by decide +kernel
end K67
set_option Elab.async false
set_option linter.all false
set_option maxRecDepth 100000
set_option maxHeartbeats 0
namespace K67
open PySem PySem.Spec L2 FW
def loose0 : List Str := ["__name__", "MODULUS", "MOST_SIGNS", "check_of", "record", "journal_of", "line_in", "lines_in", "_law_cell", "_law_numbers", "_law_same", "_law_check_of", "_law_record", "_law_journal", "_law_records", "_law_signs", "_law_bent_string", "_law_spoilt", "_law_texts"]
def loose : List Str := loose0

abbrev R : PySem.W.OpenRow := PySem.W.OpenLaw.row PySem.Challenge.rw_fewestfigures_k67_whole_journals_and_the
abbrev hk : PySem.W.Hook := He.hookX 4 [] (fnOf ds) [] [] (exB ds gl fr exs tkl)
def ob (s : PySem.W.SharedT) : He.AlX := He.obsX 4 [] (fnOf ds) [] [] (exB ds gl fr exs tkl) (HandSHeadRun.getT s)
theorem ob_eq (s : PySem.W.SharedT) : ob s = hk.obs s.abs := He.obsX_eq (HandSHeadRun.getT_eq s)
theorem headRun (w : World) : HandSHeadRun.RunEq R (PySem.W.view R.prog [20]) hk ob 2000 loose w := by
  intro os
  kernel_rfl
end K67
set_option Elab.async false
set_option linter.all false
set_option maxRecDepth 100000
set_option maxHeartbeats 1000000
namespace K67
open PySem PySem.Spec L2 FW
variable {tk : Nat → Nat → Option Bool} {fuel n : Nat}
abbrev F (tk : Nat → Nat → Option Bool) (fuel n : Nat) : Fi := runF (cdsOf ds) tk fuel n
def wt (s : List Nat) (i : Nat) : Int := ((i : Int) + 1) * (gd s i : Int)
def chk (s : List Nat) : Int := (((List.range s.length).map (wt s)).sum).fmod 967
/-- texts that are not too long -/
def Tx (s : List Nat) : Prop := (∀ c ∈ s, c < 1114112) ∧ s.length ≤ 100000
theorem Tx.get {s : List Nat} (h : Tx s) {i : Nat} (hi : i < s.length) : gd s i < 1114112 := by rw [gd_lt hi]; exact h.1 _ (List.getElem_mem hi)
theorem wt_mul {s : List Nat} (h : Tx s) {i : Nat} (hi : i < s.length) : mulC ((i : Int) + 1) (gd s i : Int) = true := by
  have h1 := h.get hi
  have h2 := h.2
  exact mulC_small (by omega) (by omega)
theorem check_of_eq (s : List Nat) (h : Tx s) : F tk fuel (n + 1) 0 [.fz (.str s)] = .ok (.fz (.int (chk s))) (some (.fz (.str s))) := by
  refine runF_by (c := c_check_of) (ρ := [some (.fz (.str s)), none, none]) (d := d_check_of.cd) rfl rfl rfl fun Fk m hFk => ?_
  show frOf (m.S c_check_of [some (.fz (.str s)), none, none]) = _
  have hs := h.2
  have hsz := sizeN
  have hcomp : m.O (.comp [("k", 1), ("sign", 2)] (.enum (.cons (.var 0) .nil)) (.tup [(.name 1), (.name 2)]) .yes (.bin .mul (.bin .add (.var 1) (.cst (.int 1))) (.bi .ord (.cons (.var 2) .nil)))) [some (.fz (.str s)), none, none]
      = .ok (.lst ((List.range s.length).map fun i => .int (wt s i))) [some (.fz (.str s)), none, none] := by
    rw [msO_comp, compM_map (ρ1 := [some (.fz (.str s)), none, none]) (List.range s.length) (fun i => .tup [.int i, .str [gd s i]]) (fun i => .int (wt s i))]
    · simp [restE, wipeE]
    · simp [enum_str]
    · intro i hi
      have hm := wt_mul h (by simpa using hi : i < s.length)
      refine ⟨[some (.fz (.str s)), some (.fz (.int i)), some (.fz (.str [gd s i]))], ?_, by simp [wipeE]⟩
      simp [compStep, tgM, tgM.tgMs, tupT, gsM, setM, wipeE, b2G, biG, ordG, mulG_int hm, wt]
    · simp; omega
  unfold c_check_of
  simp [hcomp, biG, sumG_map, b2G, modG_int (show (967 : Int) ≠ 0 by decide), chk]
theorem law_check_of_eq (s : List Nat) (h : Tx s) : F tk fuel (n + 1) 8 [.fz (.str s)] = .ok (.fz (.int (chk s))) (some (.fz (.str s))) := by
  refine runF_by (c := c__law_check_of) (ρ := [some (.fz (.str s)), none, none]) (d := d__law_check_of.cd) rfl rfl rfl fun Fk m hFk => ?_
  show frOf (m.S c__law_check_of [some (.fz (.str s)), none, none]) = _
  have hs := h.2
  have hsz := sizeN
  have e0 : ∀ (l : List Nat) (t : Int) (o : Option O), ∃ o', (l.foldl (fun (p : Int × Option O) i => (p.1 + wt s i, some (.fz (.int i)))) (t, o)) = (t + (l.map (wt s)).sum, o') := by
    intro l
    induction l with
    | nil => intro t o; exact ⟨o, by simp⟩
    | cons a l ih => intro t o; obtain ⟨o', e⟩ := ih (t + wt s a) (some (.fz (.int a))); exact ⟨o', by rw [List.foldl_cons, e]; simp; omega⟩
  have hl : lenG (.str s) = some (.int s.length) := lenG_str (by omega)
  have hb : big62 (s.length : Int) = true := by unfold big62; simp; omega
  have hfor : ∃ o, m.S (.for_ (.name 2) (.rng 1 (.cons (.bi .len (.cons (.var 0) .nil)) .nil)) (.seq (.setF 1 (.bin .add (.var 1) (.bin .mul (.bin .add (.var 2) (.cst (.int 1))) (.bi .ord (.cons (.idx (.var 0) (.var 2)) .nil))))) <| .nil)) [some (.fz (.str s)), some (.fz (.int 0)), none]
      = .ok .nx [some (.fz (.str s)), some (.fz (.int (((List.range s.length).map (wt s)).sum))), o] := by
    have hf := for_fold (g := tgM (.name 2)) (m := m.S (.seq (.setF 1 (.bin .add (.var 1) (.bin .mul (.bin .add (.var 2) (.cst (.int 1))) (.bi .ord (.cons (.idx (.var 0) (.var 2)) .nil))))) <| .nil))
      (fun i : Nat => D.int (0 + i)) (fun p : Int × Option O => [some (.fz (.str s)), some (.fz (.int p.1)), p.2]) (fun p i => (p.1 + wt s i, some (.fz (.int i)))) (fun _ => True) (List.range s.length) (0, none) trivial (fun p i hi _ => by
        have hi : i < s.length := by simpa using hi
        have hm := wt_mul h hi
        have ha := atI_gd hi (by omega)
        refine ⟨trivial, [some (.fz (.str s)), some (.fz (.int p.1)), some (.fz (.int i))], by simp [tgM, setM], ?_⟩
        simp [b2G, biG, ordG, idxA, argD, idxG, ha, show s.length ≤ sizeLine by omega, mulG_int hm, wt])
    obtain ⟨o', e⟩ := e0 (List.range s.length) 0 none
    rw [e] at hf
    refine ⟨o', ?_⟩
    rw [msS_for]
    rw [bnd_to (mI_rng_ok m (n := s.length) (by simp [biG, hl]) (by omega))]
    simpa using hf.1
  obtain ⟨o, hfor⟩ := hfor
  unfold c__law_check_of
  simp [hfor, b2G, modG_int (show (967 : Int) ≠ 0 by decide), chk]
end K67
set_option Elab.async false
set_option linter.all false
set_option maxRecDepth 100000
set_option maxHeartbeats 1000000
namespace K67
open PySem PySem.Spec L2 FW
variable {tk : Nat → Nat → Option Bool} {fuel n : Nat}
theorem fmod_bound (x : Int) : 0 ≤ x.fmod 967 ∧ x.fmod 967 < 967 := ⟨Int.fmod_nonneg_of_pos x (by decide), Int.fmod_lt_of_pos x (by decide)⟩
theorem chk_bound (s : List Nat) : 0 ≤ chk s ∧ chk s < 967 := fmod_bound _
theorem strI_len {i : Int} (h0 : 0 ≤ i) (h : i < 1000000000) : (strI i).length ≤ 9 := by
  rw [strI_nn h0]
  exact TL.numL_len (by decide) (by omega)
def recS (k : Int) (s : List Nat) : List Nat := strI k ++ ([32] ++ (strI (chk s) ++ ([32] ++ (s ++ [10]))))
theorem recS_len {k : Int} (h0 : 0 ≤ k) (h : k < 1000000000) (s : List Nat) : (recS k s).length ≤ s.length + 21 := by
  have h1 := strI_len h0 h
  have h2 := chk_bound s
  have h3 := strI_len h2.1 (by omega : chk s < 1000000000)
  simp [recS]; omega
theorem record_eq (k : Int) (s : List Nat) (h0 : 0 ≤ k) (hk : k < 1000000000) (h : Tx s) : F tk fuel (n + 2) 1 [.fz (.int k), .fz (.str s)] = .ok (.fz (.str (recS k s))) (some (.fz (.int k))) := by
  refine runF_by (c := c_record) (ρ := [some (.fz (.int k)), some (.fz (.str s))]) (d := d_record.cd) rfl rfl rfl fun Fk m hFk => ?_
  have hcall : Fk 0 [.fz (.str s)] = .ok (.fz (.int (chk s))) (some (.fz (.str s))) := by
    rw [hFk]
    exact check_of_eq s h
  show frOf (m.S c_record [some (.fz (.int k)), some (.fz (.str s))]) = _
  have hs := h.2
  have hsz := sizeN
  have c1 := chk_bound s
  have l1 := strI_len h0 hk
  have l2 := strI_len c1.1 (by omega : chk s < 1000000000)
  have f1 : fmtG (.int k) = some (.str (strI k)) := fmtG_int (by omega)
  have f2 : fmtG (.int (chk s)) = some (.str (strI (chk s))) := fmtG_int (by omega)
  have f3 : fmtG (.str s) = some (.str s) := fmtG_str (by omega)
  unfold c_record
  simp only [msS_seq, msS_ret, msO_fstr, bnd_def, msPs_cons, msPs_nil]
  rw [joinParts_str (s := strI k) (ρ1 := [some (.fz (.int k)), some (.fz (.str s))]) (by simp [f1]) (by simp; omega)]
  rw [joinParts_str (s := [32]) (ρ1 := [some (.fz (.int k)), some (.fz (.str s))]) (by simp) (by simp; omega)]
  rw [joinParts_str (s := strI (chk s)) (ρ1 := [some (.fz (.int k)), some (.fz (.str s))]) (by simp [hcall, f2]) (by simp; omega)]
  rw [joinParts_str (s := [32]) (ρ1 := [some (.fz (.int k)), some (.fz (.str s))]) (by simp) (by simp; omega)]
  rw [joinParts_str (s := s) (ρ1 := [some (.fz (.int k)), some (.fz (.str s))]) (by simp [f3]) (by simp; omega)]
  rw [joinParts_str (s := [10]) (ρ1 := [some (.fz (.int k)), some (.fz (.str s))]) (by simp) (by simp; omega)]
  simp [recS]
theorem law_record_eq (k : Int) (s : List Nat) (h0 : 0 ≤ k) (hk : k < 1000000000) (h : Tx s) : F tk fuel (n + 2) 9 [.fz (.int k), .fz (.str s)] = .ok (.fz (.str (recS k s))) (some (.fz (.int k))) := by
  refine runF_by (c := c__law_record) (ρ := [some (.fz (.int k)), some (.fz (.str s))]) (d := d__law_record.cd) rfl rfl rfl fun Fk m hFk => ?_
  have hcall : Fk 8 [.fz (.str s)] = .ok (.fz (.int (chk s))) (some (.fz (.str s))) := by
    rw [hFk]
    exact law_check_of_eq s h
  show frOf (m.S c__law_record [some (.fz (.int k)), some (.fz (.str s))]) = _
  have hs := h.2
  have hsz := sizeN
  have c1 := chk_bound s
  have l1 := strI_len h0 hk
  have l2 := strI_len c1.1 (by omega : chk s < 1000000000)
  have f1 : strG1 (.int k) = some (.str (strI k)) := strG1_int (by omega)
  have f2 : strG1 (.int (chk s)) = some (.str (strI (chk s))) := strG1_int (by omega)
  unfold c__law_record
  have a1 : addG (.str (strI k)) (.str [32]) = _ := addG_str (by simp; omega)
  have a2 : addG (.str (strI k ++ [32])) (.str (strI (chk s))) = _ := addG_str (by simp; omega)
  have a3 : addG (.str (strI k ++ [32] ++ strI (chk s))) (.str [32]) = _ := addG_str (by simp; omega)
  have a4 : addG (.str (strI k ++ [32] ++ strI (chk s) ++ [32])) (.str s) = _ := addG_str (by simp; omega)
  have a5 : addG (.str (strI k ++ [32] ++ strI (chk s) ++ [32] ++ s)) (.str [10]) = _ := addG_str (by simp; omega)
  simp only [List.append_assoc, List.cons_append, List.nil_append] at a1 a2 a3 a4 a5
  simp [biG, f1, f2, b2G, a1, a2, a3, a4, a5, hcall, recS]
def jrn (ls : List (List Nat)) : List Nat := ((List.range ls.length).map fun (i : Nat) => recS ((i : Int) + 1) (gs ls i)).flatten
/-- lists of lines that are not too long -/
def Ls (ls : List (List Nat)) : Prop := (∀ s ∈ ls, Tx s ∧ s.length ≤ 1000) ∧ ls.length ≤ 1000
theorem Ls.get {ls : List (List Nat)} (h : Ls ls) {i : Nat} (hi : i < ls.length) : Tx (gs ls i) ∧ (gs ls i).length ≤ 1000 := by
  rw [gs_lt hi]; exact h.1 _ (List.getElem_mem hi)
theorem sum_le {α : Type} (f : α → Nat) (b : Nat) : ∀ (l : List α), (∀ x ∈ l, f x ≤ b) → (l.map f).sum ≤ l.length * b
  | [], _ => by simp
  | x :: l, h => by
    have := sum_le f b l fun y hy => h y (List.mem_cons_of_mem _ hy)
    have h1 := h x List.mem_cons_self
    simp [Nat.add_mul]; omega
theorem journal_sum {ls : List (List Nat)} (h : Ls ls) : (((List.range ls.length).map fun (i : Nat) => recS ((i : Int) + 1) (gs ls i)).map (·.length)).sum ≤ 1021000 := by
  rw [List.map_map]
  have h1 := h.2
  have := sum_le ((fun s : List Nat => s.length) ∘ fun (i : Nat) => recS ((i : Int) + 1) (gs ls i)) 1021 (List.range ls.length) (fun i hi => by
    have hi : i < ls.length := by simpa using hi
    have := (h.get hi).2
    have h3 := recS_len (k := (i : Int) + 1) (by omega) (by omega) (gs ls i)
    show (recS ((i : Int) + 1) (gs ls i)).length ≤ 1021
    omega)
  simp only [List.length_range] at this
  omega
theorem journal_join {ls : List (List Nat)} (h : Ls ls) : joinG [] (.lst ((List.range ls.length).map fun (i : Nat) => D.str (recS ((i : Int) + 1) (gs ls i)))) = some (.str (jrn ls)) := by
  have e : (List.range ls.length).map (fun (i : Nat) => D.str (recS ((i : Int) + 1) (gs ls i))) = ((List.range ls.length).map fun (i : Nat) => recS ((i : Int) + 1) (gs ls i)).map .str := by rw [List.map_map]; rfl
  rw [e, joinG_map (by have := journal_sum h; simp only [List.length_nil, Nat.mul_zero]; omega), joinL_nil]; rfl
theorem journal_of_eq (ls : List (List Nat)) (h : Ls ls) : F tk fuel (n + 3) 2 [.fz (.lst (ls.map .str))] = .ok (.fz (.str (jrn ls))) (some (.fz (.lst (ls.map .str)))) := by
  refine runF_by (c := c_journal_of) (ρ := [some (.fz (.lst (ls.map .str))), none, none]) (d := d_journal_of.cd) rfl rfl rfl fun Fk m hFk => ?_
  have hcall : ∀ (k : Int) (s : List Nat), 0 ≤ k → k < 1000000000 → Tx s → Fk 1 [.fz (.int k), .fz (.str s)] = .ok (.fz (.str (recS k s))) (some (.fz (.int k))) := by
    rw [hFk]
    exact fun k s h0 h1 h2 => record_eq k s h0 h1 h2
  show frOf (m.S c_journal_of [some (.fz (.lst (ls.map .str))), none, none]) = _
  have hl := h.2
  have hsz := sizeN
  have hcomp : m.O (.comp [("k", 1), ("line", 2)] (.enum (.cons (.var 0) .nil)) (.tup [(.name 1), (.name 2)]) .yes (.call 1 2 (.cons (.bin .add (.var 1) (.cst (.int 1))) (.cons (.var 2) .nil)))) [some (.fz (.lst (ls.map .str))), none, none]
      = .ok (.lst ((List.range ls.length).map fun (i : Nat) => D.str (recS ((i : Int) + 1) (gs ls i)))) [some (.fz (.lst (ls.map .str))), none, none] := by
    rw [msO_comp, compM_map (ρ1 := [some (.fz (.lst (ls.map .str))), none, none]) (List.range ls.length) (fun i => .tup [.int i, .str (gs ls i)]) (fun (i : Nat) => D.str (recS ((i : Int) + 1) (gs ls i)))]
    · simp [restE, wipeE]
    · simp only [msI_enum, msEs_cons, msEs_nil, argOf_var, msO_var, bnd_def, fzM_def, rdv_0, frz_fz, ret_def, datsM_dat, datsM_nil, enum_strs, ofOpt_some]
    · intro i hi
      have hi : i < ls.length := by simpa using hi
      have hr := hcall ((i : Int) + 1) (gs ls i) (by omega) (by omega) (h.get hi).1
      refine ⟨[some (.fz (.lst (ls.map .str))), some (.fz (.int i)), some (.fz (.str (gs ls i)))], ?_, by simp [wipeE]⟩
      generalize gs ls i = s at hr ⊢
      simp [compStep, tgM, tgM.tgMs, tupT, gsM, setM, wipeE, b2G, hr]
    · simp; omega
  have e1 := mO_mth_ok m (mi := .join) (a := .cst (.str [])) (as := .cons (.comp [("k", 1), ("line", 2)] (.enum (.cons (.var 0) .nil)) (.tup [(.name 1), (.name 2)]) .yes (.call 1 2 (.cons (.bin .add (.var 1) (.cst (.int 1))) (.cons (.var 2) .nil)))) .nil) (d := .str []) (f := .str (jrn ls)) (ρ := [some (.fz (.lst (ls.map .str))), none, none]) (ρ1 := [some (.fz (.lst (ls.map .str))), none, none]) (ρ2 := [some (.fz (.lst (ls.map .str))), none, none]) (xs := [.dat (.lst ((List.range ls.length).map fun (i : Nat) => D.str (recS ((i : Int) + 1) (gs ls i))))]) (ds := [(.lst ((List.range ls.length).map fun (i : Nat) => D.str (recS ((i : Int) + 1) (gs ls i))))]) (by simp) rfl (by simp [hcomp]) (by simp) (journal_join h)
  unfold c_journal_of
  simp only [msS_seq, msS_ret, bnd_def, e1, ret_def]
  rfl
theorem law_journal_eq (ls : List (List Nat)) (h : Ls ls) : F tk fuel (n + 3) 10 [.fz (.lst (ls.map .str))] = .ok (.fz (.str (jrn ls))) (some (.fz (.lst (ls.map .str)))) := by
  refine runF_by (c := c__law_journal) (ρ := [some (.fz (.lst (ls.map .str))), none]) (d := d__law_journal.cd) rfl rfl rfl fun Fk m hFk => ?_
  have hcall : ∀ (k : Int) (s : List Nat), 0 ≤ k → k < 1000000000 → Tx s → Fk 9 [.fz (.int k), .fz (.str s)] = .ok (.fz (.str (recS k s))) (some (.fz (.int k))) := by
    rw [hFk]
    exact fun k s h0 h1 h2 => law_record_eq k s h0 h1 h2
  show frOf (m.S c__law_journal [some (.fz (.lst (ls.map .str))), none]) = _
  have hl := h.2
  have hsz := sizeN
  have hcomp : m.O (.comp [("k", 1)] (.rng 1 (.cons (.bi .len (.cons (.var 0) .nil)) .nil)) (.name 1) .yes (.call 9 2 (.cons (.bin .add (.var 1) (.cst (.int 1))) (.cons (.idx (.var 0) (.var 1)) .nil)))) [some (.fz (.lst (ls.map .str))), none]
      = .ok (.lst ((List.range ls.length).map fun (i : Nat) => D.str (recS ((i : Int) + 1) (gs ls i)))) [some (.fz (.lst (ls.map .str))), none] := by
    rw [msO_comp, compM_map (ρ1 := [some (.fz (.lst (ls.map .str))), none]) (List.range ls.length) (fun i => .int (0 + (i : Nat))) (fun (i : Nat) => D.str (recS ((i : Int) + 1) (gs ls i)))]
    · simp [restE, wipeE]
    · exact mI_rng_ok m (by simp [biG, lenG]) (by omega)
    · intro i hi
      have hi : i < ls.length := by simpa using hi
      have hr := hcall ((i : Int) + 1) (gs ls i) (by omega) (by omega) (h.get hi).1
      have ha : atI (ls.map D.str) (i : Int) = some (.str (gs ls i)) := atI_gs hi (by omega)
      refine ⟨[some (.fz (.lst (ls.map .str))), some (.fz (.int i))], ?_, by simp [wipeE]⟩
      generalize gs ls i = s at hr ha ⊢
      simp [compStep, tgM, setM, wipeE, b2G, idxA, argD, idxG, ha, hr]
    · simp; omega
  have e1 := mO_mth_ok m (mi := .join) (a := .cst (.str [])) (as := .cons (.comp [("k", 1)] (.rng 1 (.cons (.bi .len (.cons (.var 0) .nil)) .nil)) (.name 1) .yes (.call 9 2 (.cons (.bin .add (.var 1) (.cst (.int 1))) (.cons (.idx (.var 0) (.var 1)) .nil)))) .nil) (d := .str []) (f := .str (jrn ls)) (ρ := [some (.fz (.lst (ls.map .str))), none]) (ρ1 := [some (.fz (.lst (ls.map .str))), none]) (ρ2 := [some (.fz (.lst (ls.map .str))), none]) (xs := [.dat (.lst ((List.range ls.length).map fun (i : Nat) => D.str (recS ((i : Int) + 1) (gs ls i))))]) (ds := [(.lst ((List.range ls.length).map fun (i : Nat) => D.str (recS ((i : Int) + 1) (gs ls i))))]) (by simp) rfl (by simp [hcomp]) (by simp) (journal_join h)
  unfold c__law_journal
  simp only [msS_seq, msS_ret, bnd_def, e1, ret_def]
  rfl
end K67
set_option Elab.async false
set_option linter.all false
set_option maxRecDepth 100000
set_option maxHeartbeats 1000000
namespace K67
open PySem PySem.Spec L2 FW
variable {tk : Nat → Nat → Option Bool} {fuel n : Nat}
theorem Tx.suffix {s t : List Nat} (h : Tx s) (hs : t <:+ s) : Tx t := ⟨fun c hc => h.1 c (hs.subset hc), Nat.le_trans hs.length_le h.2⟩
def lnOf (row : List Nat) : List Nat := aft 32 (aft 32 row)
def okC (c : Nat) : Bool := decide (32 ≤ c) && decide (c ≤ 126)
def lineIn (k : Int) (row : List Nat) : Option (List Nat) := if (lnOf row).length ≤ 400 ∧ (lnOf row).all okC = true ∧ recS k (lnOf row) = row ++ [10] then some (lnOf row) else none
def optD : Option (List Nat) → D
  | some l => .str l
  | none => .non
theorem lnOf_suffix (row : List Nat) : lnOf row <:+ row := (aft_suffix 32 _).trans (aft_suffix 32 row)
theorem line_in_eq (k : Int) (row : List Nat) (h0 : 0 ≤ k) (hk : k < 1000000000) (h : Tx row) : F tk fuel (n + 3) 3 [.fz (.int k), .fz (.str row)] = .ok (.fz (optD (lineIn k row))) (some (.fz (.int k))) := by
  refine runF_by (c := c_line_in) (ρ := [some (.fz (.int k)), some (.fz (.str row)), none, none]) (d := d_line_in.cd) rfl rfl rfl fun Fk m hFk => ?_
  have hs := h.2
  have hsz := sizeN
  have hl := h.suffix (lnOf_suffix row)
  have hl2 := hl.2
  have hcall : Fk 1 [.fz (.int k), .fz (.str (lnOf row))] = .ok (.fz (.str (recS k (lnOf row)))) (some (.fz (.int k))) := by
    rw [hFk]
    exact record_eq k _ h0 hk hl
  obtain ⟨a, b, p1⟩ := partG_eq (c := 32) (s := row) (by omega)
  have hr2 := h.suffix (aft_suffix 32 row)
  obtain ⟨a2, b2, p2⟩ := partG_eq (c := 32) (s := aft 32 row) (by have := hr2.2; omega)
  have e1 : m.O (.mth .part (.var 1) (.cons (.cst (.str [32])) .nil)) [some (.fz (.int k)), some (.fz (.str row)), none, none] = .ok (.fz (.tup [a, b, .str (aft 32 row)])) [some (.fz (.int k)), some (.fz (.str row)), none, none] :=
    mO_mth_ok m (mi := .part) (d := .str row) (f := .tup [a, b, .str (aft 32 row)]) (ρ1 := [some (.fz (.int k)), some (.fz (.str row)), none, none]) (xs := [.dat (.str [32])]) (ds := [.str [32]]) (by simp) rfl (by simp) (by simp) p1
  have e2 : m.O (.mth .part (.idx (.mth .part (.var 1) (.cons (.cst (.str [32])) .nil)) (.cst (.int 2))) (.cons (.cst (.str [32])) .nil)) [some (.fz (.int k)), some (.fz (.str row)), none, none] = .ok (.fz (.tup [a2, b2, .str (lnOf row)])) [some (.fz (.int k)), some (.fz (.str row)), none, none] :=
    mO_mth_ok m (mi := .part) (d := .str (aft 32 row)) (f := .tup [a2, b2, .str (lnOf row)]) (ρ1 := [some (.fz (.int k)), some (.fz (.str row)), none, none]) (xs := [.dat (.str [32])]) (ds := [.str [32]]) (by
      have : idxG (.tup [a, b, .str (aft 32 row)]) (.int 2) = some (.str (aft 32 row)) := rfl
      simp [-msO_mth, e1, idxA, argD, this]) rfl (by simp) (by simp) p2
  have e3 : idxG (.tup [a2, b2, .str (lnOf row)]) (.int 2) = some (.str (lnOf row)) := rfl
  unfold lineIn
  generalize lnOf row = l at *
  have hcomp : m.O (.comp [("sign", 3)] (.seq (.var 2)) (.name 3) .yes (.chn .le .le (.cst (.str [32])) (.var 3) (.cst (.str [126])))) [some (.fz (.int k)), some (.fz (.str row)), some (.fz (.str l)), none]
      = .ok (.lst (l.map fun c => .bl (okC c))) [some (.fz (.int k)), some (.fz (.str row)), some (.fz (.str l)), none] := by
    rw [msO_comp, compM_map (ρ1 := [some (.fz (.int k)), some (.fz (.str row)), some (.fz (.str l)), none]) l (fun c => .str [c]) (fun c => .bl (okC c))]
    · simp [restE, wipeE]
    · simp [itemsD]
    · intro c hc
      refine ⟨[some (.fz (.int k)), some (.fz (.str row)), some (.fz (.str l)), some (.fz (.str [c]))], ?_, by simp [wipeE]⟩
      have hch := chain_ok (ma := bnd (m.O (.cst (.str [32]))) frzM) (mb := bnd (m.O (.var 3)) frzM) (mc := bnd (m.O (.cst (.str [126]))) frzM) (ρ := [some (.fz (.int k)), some (.fz (.str row)), some (.fz (.str l)), some (.fz (.str [c]))]) (by simp) (by simp) (by simp) (leG_one 32 c) (leG_one c 126)
      simp only [msO_cst, msO_var] at hch
      simp [compStep, tgM, setM, wipeE, c2G, hch, okC]
    · omega
  have hlen : lenG (.str l) = some (.int l.length) := lenG_str (by omega)
  have ha : addG (.str row) (.str [10]) = some (.str (row ++ [10])) := addG_str (by simp; omega)
  unfold c_line_in
  by_cases h1 : l.length ≤ 400
  · have h1' : ¬ 400 < (l.length : Int) := by omega
    cases h2 : l.all okC with
    | false => simp [-msO_mth, e2, idxA, argD, e3, biG, hlen, c2G, asB, hcomp, allG_map, truA, truD, h1', h1, h2, optD]
    | true =>
      by_cases h3 : recS k l = row ++ [10]
      · simp [-msO_mth, e2, idxA, argD, e3, biG, hlen, c2G, asB, hcomp, allG_map, truA, truD, h1', h1, h2, hcall, b2G, ha, h3, optD]
      · simp [-msO_mth, e2, idxA, argD, e3, biG, hlen, c2G, asB, hcomp, allG_map, truA, truD, h1', h1, h2, hcall, b2G, ha, h3, optD]
  · have h1' : 400 < (l.length : Int) := by omega
    simp [-msO_mth, e2, idxA, argD, e3, biG, hlen, c2G, asB, h1', h1, optD]
end K67
set_option Elab.async false
set_option linter.all false
set_option maxRecDepth 100000
set_option maxHeartbeats 1000000
namespace K67
open PySem PySem.Spec L2 FW
variable {tk : Nat → Nat → Option Bool} {fuel n : Nat}
def scan : Nat → List (List Nat) → List (List Nat)
  | _, [] => []
  | k, r :: rs => match lineIn ((k : Int) + 1) r with
    | some l => l :: scan (k + 1) rs
    | none => []
def linesIn (s : List Nat) : List (List Nat) := scan 0 (sp 10 s).dropLast
theorem sp_len (c : Nat) (s : List Nat) : (sp c s).length ≤ s.length + 1 ∧ ∀ p ∈ sp c s, (∀ x ∈ p, x ∈ s) ∧ p.length ≤ s.length := by
  have h := join_sp c s
  have key : ∀ (ps : List (List Nat)), ps.length ≤ (TL.joinL [c] ps).length + 1 ∧ ∀ p ∈ ps, (∀ x ∈ p, x ∈ TL.joinL [c] ps) ∧ p.length ≤ (TL.joinL [c] ps).length := by
    intro ps
    induction ps with
    | nil => simp
    | cons p ps ih =>
      cases ps with
      | nil => simp [TL.joinL]
      | cons q r =>
        have e : TL.joinL [c] (p :: q :: r) = p ++ ([c] ++ TL.joinL [c] (q :: r)) := rfl
        rw [e]
        refine ⟨by have := ih.1; simp at this ⊢; omega, fun x hx => ?_⟩
        rcases List.mem_cons.mp hx with rfl | hx
        · exact ⟨fun y hy => List.mem_append_left _ hy, by simp⟩
        · exact ⟨fun y hy => List.mem_append_right _ (List.mem_append_right _ ((ih.2 x hx).1 y hy)), by have := (ih.2 x hx).2; simp at this ⊢; omega⟩
  have := key (sp c s)
  rw [h.1] at this
  exact this
theorem Tx.part {c : Nat} {s p : List Nat} (h : Tx s) (hp : p ∈ sp c s) : Tx p := ⟨fun x hx => h.1 x (((sp_len c s).2 p hp).1 x hx), Nat.le_trans ((sp_len c s).2 p hp).2 h.2⟩
theorem lines_in_eq (s : List Nat) (h : Tx s) : F tk fuel (n + 4) 4 [.fz (.str s)] = .ok (.lst ((linesIn s).map .str)) (some (.fz (.str s))) := by
  refine runF_by (c := c_lines_in) (ρ := [some (.fz (.str s)), none, none, none]) (d := d_lines_in.cd) rfl rfl rfl fun Fk m hFk => ?_
  have hs := h.2
  have hsz := sizeN
  have hcall : ∀ (k : Int) (row : List Nat), 0 ≤ k → k < 1000000000 → Tx row → Fk 3 [.fz (.int k), .fz (.str row)] = .ok (.fz (optD (lineIn k row))) (some (.fz (.int k))) := by
    rw [hFk]
    exact fun k row h0 h1 h2 => line_in_eq k row h0 h1 h2
  have hsp := splitG_eq (c := 10) (s := s) (by decide) (by omega)
  have e1 : m.O (.mth .split (.var 0) (.cons (.cst (.str [10])) .nil)) [some (.fz (.str s)), some (.lst []), none, none] = .ok (.lst ((sp 10 s).map .str)) [some (.fz (.str s)), some (.lst []), none, none] :=
    mO_mth_ok m (mi := .split) (d := .str s) (f := .lst ((sp 10 s).map .str)) (ρ1 := [some (.fz (.str s)), some (.lst []), none, none]) (xs := [.dat (.str [10])]) (ds := [.str [10]]) (by simp) rfl (by simp) (by simp) hsp
  have hit : m.I (.seq (.slc (.mth .split (.var 0) (.cons (.cst (.str [10])) .nil)) .none (.some (.neg (.cst (.int 1)))))) [some (.fz (.str s)), some (.lst []), none, none] = .ok (((sp 10 s).dropLast).map .str) [some (.fz (.str s)), some (.lst []), none, none] := by
    have e2 : slcG (.lst ((sp 10 s).map .str)) none (some (-1)) = some (.lst (((sp 10 s).dropLast).map .str)) := by
      show some (D.lst (cutD _ _ _)) = _
      rw [cut_last, List.map_dropLast]
    simp [-msO_mth, e1, negG, asI, e2, itemsD]
  let bd : CS := .seq (.setF 3 (.call 3 2 (.cons (.bin .add (.bi .len (.cons (.brw 1) .nil)) (.cst (.int 1))) (.cons (.var 2) .nil)))) <|
    .seq (.ite (.cmp .isN (.var 3) (.cst .non))
    (.seq (.ret (.mv 1)) <| .nil)
    ( .nil)) <|
    .seq (.app 1 (.var 3)) <| .nil
  have loop : ∀ (rows : List (List Nat)) (acc : List (List Nat)) (x y : Option O), (∀ r ∈ rows, Tx r) → acc.length + rows.length ≤ 200000 →
      ∃ ρ', (forM' (tgM (.name 2)) (m.S bd) (rows.map .str) [some (.fz (.str s)), some (.lst (acc.map .str)), x, y] = .ok (.rt (.lst ((acc ++ scan acc.length rows).map .str))) ρ' ∧ ρ'[0]? = some (some (.fz (.str s)))) ∨
        (∃ x' y', forM' (tgM (.name 2)) (m.S bd) (rows.map .str) [some (.fz (.str s)), some (.lst (acc.map .str)), x, y] = .ok .nx [some (.fz (.str s)), some (.lst ((acc ++ scan acc.length rows).map .str)), x', y']) := by
    intro rows
    induction rows with
    | nil => intro acc x y _ _; exact ⟨[], .inr ⟨x, y, by simp [forM', scan]⟩⟩
    | cons r rs ih =>
      intro acc x y hr hl
      simp at hl
      have hc := hcall ((acc.length : Int) + 1) r (by omega) (by omega) (hr r List.mem_cons_self)
      have hlen : lenG (.lst (acc.map .str)) = some (.int acc.length) := by simp [lenG]
      have hstep : forM' (tgM (.name 2)) (m.S bd) ((r :: rs).map .str) [some (.fz (.str s)), some (.lst (acc.map .str)), x, y] = bnd (m.S bd) (fun fl => match fl with
          | .nx => forM' (tgM (.name 2)) (m.S bd) (rs.map .str)
          | .ct => forM' (tgM (.name 2)) (m.S bd) (rs.map .str)
          | .bk => FW.ret .nx
          | .rt o => FW.ret (.rt o)) [some (.fz (.str s)), some (.lst (acc.map .str)), some (.fz (.str r)), y] := rfl
      rw [hstep]
      cases q : lineIn ((acc.length : Int) + 1) r with
      | none =>
        rw [q] at hc
        have hb : m.S bd [some (.fz (.str s)), some (.lst (acc.map .str)), some (.fz (.str r)), y] = .ok (.rt (.lst (acc.map .str))) [some (.fz (.str s)), none, some (.fz (.str r)), some (.fz .non)] := by
          simp [bd, brwM, argsD, argD, biG, hlen, b2G, hc, optD, c2G, isNG, asB, mvv, okD, lfree]
        refine ⟨[some (.fz (.str s)), none, some (.fz (.str r)), some (.fz .non)], .inl ⟨by rw [bnd_to hb]; simp [scan, q], rfl⟩⟩
      | some l =>
        rw [q] at hc
        have hb : m.S bd [some (.fz (.str s)), some (.lst (acc.map .str)), some (.fz (.str r)), y] = .ok .nx [some (.fz (.str s)), some (.lst ((acc ++ [l]).map .str)), some (.fz (.str r)), some (.fz (.str l))] := by
          simp [bd, brwM, argsD, argD, biG, hlen, b2G, hc, optD, c2G, isNG, asB, appS, appM, show acc.length < sizeLine by omega, okD, lfree]
        rw [bnd_to hb]
        have ih2 := ih (acc ++ [l]) (some (.fz (.str r))) (some (.fz (.str l))) (fun z hz => hr z (List.mem_cons_of_mem _ hz)) (by simp; omega)
        have e : acc ++ scan acc.length (r :: rs) = (acc ++ [l]) ++ scan (acc ++ [l]).length rs := by simp [scan, q]
        rw [e]
        exact ih2
  have hsl := sp_len 10 s
  obtain ⟨ρ', hL⟩ := loop (sp 10 s).dropLast [] none none (fun r hr => h.part (List.dropLast_subset _ hr)) (by have := hsl.1; simp; omega)
  unfold c_lines_in
  rcases hL with ⟨hL, h0⟩ | ⟨x', y', hL⟩
  · have hfor : m.S (.for_ (.name 2) (.seq (.slc (.mth .split (.var 0) (.cons (.cst (.str [10])) .nil)) .none (.some (.neg (.cst (.int 1)))))) bd) [some (.fz (.str s)), some (.lst []), none, none] = .ok (.rt (.lst ((linesIn s).map .str))) ρ' := by
      rw [msS_for, bnd_to hit]; exact hL
    simp [bd] at hfor
    simp [lstM, hfor, h0]
  · have hfor : m.S (.for_ (.name 2) (.seq (.slc (.mth .split (.var 0) (.cons (.cst (.str [10])) .nil)) .none (.some (.neg (.cst (.int 1)))))) bd) [some (.fz (.str s)), some (.lst []), none, none] = .ok .nx [some (.fz (.str s)), some (.lst ((linesIn s).map .str)), x', y'] := by
      rw [msS_for, bnd_to hit]; exact hL
    simp [bd] at hfor
    simp [lstM, hfor, mvv]
end K67
set_option Elab.async false
set_option linter.all false
set_option maxRecDepth 100000
set_option maxHeartbeats 1000000
namespace K67
open PySem PySem.Spec L2 FW
variable {tk : Nat → Nat → Option Bool} {fuel n : Nat}
theorem sp_app {c : Nat} {p r : List Nat} (h : c ∉ p) : sp c (p ++ c :: r) = p :: sp c r := by
  have := TL.spl_part1 (s := c) (S := []) (p := p) (rest := r) (acc := []) h
  simpa [sp] using this
theorem sp_free {c : Nat} {p : List Nat} (h : c ∉ p) : sp c p = [p] := by
  have := TL.spl_last1 (s := c) (S := []) (p := p) (acc := []) h
  simpa [sp] using this
theorem aft_app {c : Nat} {p r : List Nat} (h : c ∉ p) : aft c (p ++ c :: r) = r := by
  unfold aft
  rw [sp_app h]
  exact (join_sp c r).1
theorem lnOf_drop (row : List Nat) : lnOf row = TL.joinL [32] ((sp 32 row).drop 2) := by
  have h := join_sp 32 row
  unfold lnOf
  by_cases h2 : 2 ≤ (sp 32 row).length
  · show TL.joinL [32] ((sp 32 (aft 32 row)).drop 1) = _
    rw [sp_aft h2, List.drop_drop]
  · have e : aft 32 row = [] := by
      unfold aft
      rw [List.drop_eq_nil_of_le (by omega)]; rfl
    rw [e, List.drop_eq_nil_of_le (by omega)]; rfl
def rowOf (k : Int) (l : List Nat) : List Nat := strI k ++ 32 :: (strI (chk l) ++ 32 :: l)
theorem recS_row (k : Int) (l : List Nat) : recS k l = rowOf k l ++ [10] := by simp [recS, rowOf]
theorem strI_free {i : Int} (h : 0 ≤ i) {c : Nat} (hc : c < 48 ∨ 57 < c) : c ∉ strI i := by
  rw [strI_nn h]; exact TL.numL_free hc
theorem sp_row {k : Int} (h0 : 0 ≤ k) (l : List Nat) : sp 32 (rowOf k l) = strI k :: strI (chk l) :: sp 32 l := by
  unfold rowOf
  rw [sp_app (strI_free h0 (.inl (by decide))), sp_app (strI_free (chk_bound l).1 (.inl (by decide)))]
theorem lnOf_row {k : Int} (h0 : 0 ≤ k) (l : List Nat) : lnOf (rowOf k l) = l := by
  rw [lnOf_drop, sp_row h0]
  exact (join_sp 32 l).1
theorem lineIn_words {k : Int} (h0 : 0 ≤ k) {row : List Nat} (h : recS k (lnOf row) = row ++ [10]) : 3 ≤ (sp 32 row).length := by
  rw [recS_row] at h
  have e : rowOf k (lnOf row) = row := List.append_cancel_right h
  rw [← e, sp_row h0]
  have := (join_sp 32 (lnOf row)).2.1
  have : 0 < (sp 32 (lnOf row)).length := List.length_pos_iff.mpr this
  simp; omega
theorem all_filter (l : List Nat) : (l.all okC = true) ↔ (l.filter fun c => decide (c < 32) || decide (126 < c)).length = 0 := by
  rw [List.length_eq_zero_iff, List.filter_eq_nil_iff, List.all_eq_true]
  constructor
  · intro h c hc
    have := h c hc
    simp [okC] at this
    simp; omega
  · intro h c hc
    have := h c hc
    simp at this
    simp [okC]; omega
theorem join_len (c : Nat) (ps : List (List Nat)) : (ps.map (·.length)).sum + ps.length * 1 ≤ (TL.joinL [c] ps).length + 1 := by
  induction ps with
  | nil => simp
  | cons p ps ih =>
    cases ps with
    | nil => simp [TL.joinL]
    | cons q r =>
      have e : TL.joinL [c] (p :: q :: r) = p ++ ([c] ++ TL.joinL [c] (q :: r)) := rfl
      rw [e]
      simp at ih ⊢
      omega
theorem records_eq (s : List Nat) (h : Tx s) : F tk fuel (n + 4) 11 [.fz (.str s)] = .ok (.lst ((linesIn s).map .str)) (some (.fz (.str s))) := by
  refine runF_by (c := c__law_records) (ρ := [some (.fz (.str s)), none, none, none, none, none, none]) (d := d__law_records.cd) rfl rfl rfl fun Fk m hFk => ?_
  have hs := h.2
  have hsz := sizeN
  have hcall : ∀ (k : Int) (l : List Nat), 0 ≤ k → k < 1000000000 → Tx l → Fk 9 [.fz (.int k), .fz (.str l)] = .ok (.fz (.str (recS k l))) (some (.fz (.int k))) := by
    rw [hFk]
    exact fun k row h0 h1 h2 => law_record_eq k row h0 h1 h2
  have hsp := splitG_eq (c := 10) (s := s) (by decide) (by omega)
  have e1 : m.O (.mth .split (.var 0) (.cons (.cst (.str [10])) .nil)) [some (.fz (.str s)), some (.lst []), none, none, none, none, none] = .ok (.lst ((sp 10 s).map .str)) [some (.fz (.str s)), some (.lst []), none, none, none, none, none] :=
    mO_mth_ok m (mi := .split) (d := .str s) (f := .lst ((sp 10 s).map .str)) (ρ1 := [some (.fz (.str s)), some (.lst []), none, none, none, none, none]) (xs := [.dat (.str [10])]) (ds := [.str [10]]) (by simp) rfl (by simp) (by simp) hsp
  have hit : m.I (.seq (.slc (.mth .split (.var 0) (.cons (.cst (.str [10])) .nil)) .none (.some (.neg (.cst (.int 1)))))) [some (.fz (.str s)), some (.lst []), none, none, none, none, none] = .ok (((sp 10 s).dropLast).map .str) [some (.fz (.str s)), some (.lst []), none, none, none, none, none] := by
    have e2 : slcG (.lst ((sp 10 s).map .str)) none (some (-1)) = some (.lst (((sp 10 s).dropLast).map .str)) := by
      show some (D.lst (cutD _ _ _)) = _
      rw [cut_last, List.map_dropLast]
    simp [-msO_mth, e1, negG, asI, e2, itemsD]
  let s3 : CS := .setF 3 (.mth .split (.var 2) (.cons (.cst (.str [32])) .nil))
  let s4 : CS := .setF 4 (.mth .join (.cst (.str [32])) (.cons (.slc (.var 3) (.some (.cst (.int 2))) .none) .nil))
  let s5 : CS := .setF 5 (.bi .len (.cons (.comp [("sign", 6)] (.seq (.var 4)) (.name 6) (.or (.cmp .lt (.var 6) (.cst (.str [32]))) (.cmp .gt (.var 6) (.cst (.str [126])))) (.var 6)) .nil))
  let s6 : CS := .ite (.or (.cmp .lt (.bi .len (.cons (.var 3) .nil)) (.cst (.int 3))) (.or (.cmp .gt (.var 5) (.cst (.int 0))) (.or (.cmp .gt (.bi .len (.cons (.var 4) .nil)) (.cst (.int 400))) (.cmp .ne (.call 9 2 (.cons (.bin .add (.bi .len (.cons (.brw 1) .nil)) (.cst (.int 1))) (.cons (.var 4) .nil))) (.bin .add (.var 2) (.cst (.str [10])))))))
    (.seq (.ret (.mv 1)) <| .nil)
    ( .nil)
  let bd : CS := .seq s3 <| .seq s4 <| .seq s5 <| .seq s6 <| .seq (.app 1 (.var 4)) <| .nil
  have turn : ∀ (row : List Nat) (acc : List (List Nat)) (x3 x4 x5 : Option O), Tx row → acc.length ≤ 200000 →
      (lineIn ((acc.length : Int) + 1) row = none → ∃ ρ', m.S bd [some (.fz (.str s)), some (.lst (acc.map .str)), some (.fz (.str row)), x3, x4, x5, none] = .ok (.rt (.lst (acc.map .str))) ρ' ∧ ρ'[0]? = some (some (.fz (.str s)))) ∧
      (∀ l, lineIn ((acc.length : Int) + 1) row = some l → ∃ y3 y4 y5, m.S bd [some (.fz (.str s)), some (.lst (acc.map .str)), some (.fz (.str row)), x3, x4, x5, none] = .ok .nx [some (.fz (.str s)), some (.lst ((acc ++ [l]).map .str)), some (.fz (.str row)), y3, y4, y5, none]) := by
    intro row acc x3 x4 x5 hrow hl
    have hr2 := hrow.2
    have hln := hrow.suffix (lnOf_suffix row)
    have hln2 := hln.2
    have hc := hcall ((acc.length : Int) + 1) (lnOf row) (by omega) (by omega) hln
    have hlen : lenG (.lst (acc.map .str)) = some (.int acc.length) := by simp [lenG]
    have hw := splitG_eq (c := 32) (s := row) (by decide) (by omega)
    have r3 : m.S s3 [some (.fz (.str s)), some (.lst (acc.map .str)), some (.fz (.str row)), x3, x4, x5, none] = .ok .nx [some (.fz (.str s)), some (.lst (acc.map .str)), some (.fz (.str row)), some (.fz (.lst ((sp 32 row).map .str))), x4, x5, none] := by
      have e : m.O (.mth .split (.var 2) (.cons (.cst (.str [32])) .nil)) [some (.fz (.str s)), some (.lst (acc.map .str)), some (.fz (.str row)), x3, x4, x5, none] = .ok (.lst ((sp 32 row).map .str)) [some (.fz (.str s)), some (.lst (acc.map .str)), some (.fz (.str row)), x3, x4, x5, none] :=
        mO_mth_ok m (mi := .split) (d := .str row) (f := .lst ((sp 32 row).map .str)) (ρ1 := [some (.fz (.str s)), some (.lst (acc.map .str)), some (.fz (.str row)), x3, x4, x5, none]) (xs := [.dat (.str [32])]) (ds := [.str [32]]) (by simp) rfl (by simp) (by simp) hw
      simp [s3, -msO_mth, e]
    have r4 : m.S s4 [some (.fz (.str s)), some (.lst (acc.map .str)), some (.fz (.str row)), some (.fz (.lst ((sp 32 row).map .str))), x4, x5, none] = .ok .nx [some (.fz (.str s)), some (.lst (acc.map .str)), some (.fz (.str row)), some (.fz (.lst ((sp 32 row).map .str))), some (.fz (.str (lnOf row))), x5, none] := by
      have ec : slcG (.lst ((sp 32 row).map .str)) (some 2) none = some (.lst (((sp 32 row).drop 2).map .str)) := by
        show some (D.lst (cutD _ _ _)) = _
        rw [show (2 : Int) = ((2 : Nat) : Int) from rfl, cut_from, List.map_drop]
      have ej : joinG [32] (.lst (((sp 32 row).drop 2).map .str)) = some (.str (lnOf row)) := by
        rw [joinG_map, lnOf_drop]
        have := join_len 32 ((sp 32 row).drop 2)
        rw [← lnOf_drop] at this
        simp only [List.length_singleton] at this ⊢
        omega
      have e : m.O (.mth .join (.cst (.str [32])) (.cons (.slc (.var 3) (.some (.cst (.int 2))) .none) .nil)) [some (.fz (.str s)), some (.lst (acc.map .str)), some (.fz (.str row)), some (.fz (.lst ((sp 32 row).map .str))), x4, x5, none] = .ok (.fz (.str (lnOf row))) [some (.fz (.str s)), some (.lst (acc.map .str)), some (.fz (.str row)), some (.fz (.lst ((sp 32 row).map .str))), x4, x5, none] :=
        mO_mth_ok m (mi := .join) (d := .str [32]) (f := .str (lnOf row)) (ρ1 := [some (.fz (.str s)), some (.lst (acc.map .str)), some (.fz (.str row)), some (.fz (.lst ((sp 32 row).map .str))), x4, x5, none]) (xs := [.dat (.lst (((sp 32 row).drop 2).map .str))]) (ds := [.lst (((sp 32 row).drop 2).map .str)]) (by simp) rfl (by simp [asI, ec]) (by simp) ej
      simp [s4, -msO_mth, e]
    have hwl : lenG (.lst ((sp 32 row).map .str)) = some (.int (sp 32 row).length) := by simp [lenG]
    have hadd : addG (.str row) (.str [10]) = some (.str (row ++ [10])) := addG_str (by simp; omega)
    have hwords := @lineIn_words ((acc.length : Int) + 1) (by omega) row
    have hall := all_filter (lnOf row)
    unfold lineIn
    generalize lnOf row = l at *
    have hll : lenG (.str l) = some (.int l.length) := lenG_str (by omega)
    let P : List Nat := l.filter fun c => decide (c < 32) || decide (126 < c)
    have r5 : m.S s5 [some (.fz (.str s)), some (.lst (acc.map .str)), some (.fz (.str row)), some (.fz (.lst ((sp 32 row).map .str))), some (.fz (.str l)), x5, none] = .ok .nx [some (.fz (.str s)), some (.lst (acc.map .str)), some (.fz (.str row)), some (.fz (.lst ((sp 32 row).map .str))), some (.fz (.str l)), some (.fz (.int P.length)), none] := by
      have hcomp : m.O (.comp [("sign", 6)] (.seq (.var 4)) (.name 6) (.or (.cmp .lt (.var 6) (.cst (.str [32]))) (.cmp .gt (.var 6) (.cst (.str [126])))) (.var 6)) [some (.fz (.str s)), some (.lst (acc.map .str)), some (.fz (.str row)), some (.fz (.lst ((sp 32 row).map .str))), some (.fz (.str l)), x5, none]
          = .ok (.lst (P.map fun c => .str [c])) [some (.fz (.str s)), some (.lst (acc.map .str)), some (.fz (.str row)), some (.fz (.lst ((sp 32 row).map .str))), some (.fz (.str l)), x5, none] := by
        rw [msO_comp, compM_eq (ρ1 := [some (.fz (.str s)), some (.lst (acc.map .str)), some (.fz (.str row)), some (.fz (.lst ((sp 32 row).map .str))), some (.fz (.str l)), x5, none]) l (fun c => .str [c]) (fun c => decide (c < 32) || decide (126 < c)) (fun c => .str [c])]
        · simp [restE, wipeE, P]
        · simp [itemsD]
        · intro c hc
          refine ⟨[some (.fz (.str s)), some (.lst (acc.map .str)), some (.fz (.str row)), some (.fz (.lst ((sp 32 row).map .str))), some (.fz (.str l)), x5, some (.fz (.str [c]))], ?_, by simp [wipeE]⟩
          by_cases hc1 : c < 32
          · simp [compStep, tgM, setM, wipeE, c2G, ltG_one, gtG_one, asB, hc1]
          · by_cases hc2 : 126 < c
            · simp [compStep, tgM, setM, wipeE, c2G, ltG_one, gtG_one, asB, hc1, hc2]
            · simp [compStep, tgM, setM, wipeE, c2G, ltG_one, gtG_one, asB, hc1, hc2]
        · omega
      have hpl : lenG (.lst (P.map fun c => .str [c])) = some (.int P.length) := by simp [lenG]
      simp [s5, hcomp, biG, hpl]
    have hP : (l.all okC = true) ↔ P.length = 0 := hall
    have E6 : ∀ b : Bool, (b = true ↔ ((sp 32 row).length < 3 ∨ 0 < P.length ∨ 400 < l.length ∨ recS ((acc.length : Int) + 1) l ≠ row ++ [10])) → m.S s6 [some (.fz (.str s)), some (.lst (acc.map .str)), some (.fz (.str row)), some (.fz (.lst ((sp 32 row).map .str))), some (.fz (.str l)), some (.fz (.int P.length)), none]
        = if b then .ok (.rt (.lst (acc.map .str))) [some (.fz (.str s)), none, some (.fz (.str row)), some (.fz (.lst ((sp 32 row).map .str))), some (.fz (.str l)), some (.fz (.int P.length)), none] else .ok .nx [some (.fz (.str s)), some (.lst (acc.map .str)), some (.fz (.str row)), some (.fz (.lst ((sp 32 row).map .str))), some (.fz (.str l)), some (.fz (.int P.length)), none] := by
      intro b hb
      by_cases w : (sp 32 row).length < 3
      · have : b = true := hb.mpr (.inl w)
        subst this
        have w' : ((sp 32 row).length : Int) < 3 := by omega
        simp [s6, biG, hwl, c2G, asB, w', mvv]
      · have w' : ¬ ((sp 32 row).length : Int) < 3 := by omega
        by_cases p : 0 < P.length
        · have : b = true := hb.mpr (.inr (.inl p))
          subst this
          have p' : 0 < (P.length : Int) := by omega
          simp [s6, biG, hwl, c2G, asB, w, w', p, p', mvv]
        · have p' : ¬ 0 < (P.length : Int) := by omega
          by_cases q : 400 < l.length
          · have : b = true := hb.mpr (.inr (.inr (.inl q)))
            subst this
            have q' : 400 < (l.length : Int) := by omega
            simp [s6, biG, hwl, c2G, asB, w, w', p, p', hll, q, q', mvv]
          · have q' : ¬ 400 < (l.length : Int) := by omega
            by_cases r : recS ((acc.length : Int) + 1) l = row ++ [10]
            · have : b = false := by
                cases b with
                | false => rfl
                | true => exact absurd (hb.mp rfl) (by simp [w, p, q, r])
              subst this
              simp [s6, biG, hwl, c2G, asB, w, w', p, p', hll, q, q', mvv, brwM, argsD, argD, hlen, okD, lfree, b2G, hc, hadd, r]
            · have : b = true := hb.mpr (.inr (.inr (.inr r)))
              subst this
              simp [s6, biG, hwl, c2G, asB, w, w', p, p', hll, q, q', mvv, brwM, argsD, argD, hlen, okD, lfree, b2G, hc, hadd, r]
    constructor
    · intro hn
      have hC : ¬ (l.length ≤ 400 ∧ l.all okC = true ∧ recS ((acc.length : Int) + 1) l = row ++ [10]) := by
        intro z; rw [if_pos z] at hn; cases hn
      have r6 := E6 true ⟨fun _ => by
        by_cases q : 400 < l.length
        · exact .inr (.inr (.inl q))
        · by_cases p : 0 < P.length
          · exact .inr (.inl p)
          · refine .inr (.inr (.inr fun z => hC ⟨by omega, hP.mpr (by omega), z⟩)), fun _ => rfl⟩
      refine ⟨[some (.fz (.str s)), none, some (.fz (.str row)), some (.fz (.lst ((sp 32 row).map .str))), some (.fz (.str l)), some (.fz (.int P.length)), none], ?_, rfl⟩
      show m.S (.seq s3 (.seq s4 (.seq s5 (.seq s6 _)))) _ = _
      rw [msS_seq, r3]; simp only
      rw [msS_seq, r4]; simp only
      rw [msS_seq, r5]; simp only
      rw [msS_seq, r6]; rfl
    · intro l' hl'
      have hC : l.length ≤ 400 ∧ l.all okC = true ∧ recS ((acc.length : Int) + 1) l = row ++ [10] := by
        apply Classical.byContradiction
        intro z; rw [if_neg z] at hl'; cases hl'
      rw [if_pos hC] at hl'
      cases hl'
      have hw3 := hwords hC.2.2
      have hp0 := hP.mp hC.2.1
      have r6 := E6 false ⟨fun z => (nomatch z), fun z => by
        rcases z with z | z | z | z
        · omega
        · omega
        · have := hC.1; omega
        · exact absurd hC.2.2 z⟩
      refine ⟨some (.fz (.lst ((sp 32 row).map .str))), some (.fz (.str l)), some (.fz (.int P.length)), ?_⟩
      show m.S (.seq s3 (.seq s4 (.seq s5 (.seq s6 _)))) _ = _
      rw [msS_seq, r3]; simp only
      rw [msS_seq, r4]; simp only
      rw [msS_seq, r5]; simp only
      rw [msS_seq, r6]; simp only [Bool.false_eq_true, if_false]
      simp [appS, appM, show acc.length < sizeLine by omega]
  have loop : ∀ (rows : List (List Nat)) (acc : List (List Nat)) (x x3 x4 x5 : Option O), (∀ r ∈ rows, Tx r) → acc.length + rows.length ≤ 200000 →
      ∃ ρ', (forM' (tgM (.name 2)) (m.S bd) (rows.map .str) [some (.fz (.str s)), some (.lst (acc.map .str)), x, x3, x4, x5, none] = .ok (.rt (.lst ((acc ++ scan acc.length rows).map .str))) ρ' ∧ ρ'[0]? = some (some (.fz (.str s)))) ∨
        (∃ y y3 y4 y5, ρ' = [some (.fz (.str s)), some (.lst ((acc ++ scan acc.length rows).map .str)), y, y3, y4, y5, none] ∧ forM' (tgM (.name 2)) (m.S bd) (rows.map .str) [some (.fz (.str s)), some (.lst (acc.map .str)), x, x3, x4, x5, none] = .ok .nx ρ') := by
    intro rows
    induction rows with
    | nil => intro acc x x3 x4 x5 _ _; exact ⟨_, .inr ⟨x, x3, x4, x5, rfl, by simp [forM', scan]⟩⟩
    | cons r rs ih =>
      intro acc x x3 x4 x5 hr hl
      simp at hl
      have hstep : forM' (tgM (.name 2)) (m.S bd) ((r :: rs).map .str) [some (.fz (.str s)), some (.lst (acc.map .str)), x, x3, x4, x5, none] = bnd (m.S bd) (fun fl => match fl with
          | .nx => forM' (tgM (.name 2)) (m.S bd) (rs.map .str)
          | .ct => forM' (tgM (.name 2)) (m.S bd) (rs.map .str)
          | .bk => FW.ret .nx
          | .rt o => FW.ret (.rt o)) [some (.fz (.str s)), some (.lst (acc.map .str)), some (.fz (.str r)), x3, x4, x5, none] := rfl
      rw [hstep]
      have ht := turn r acc x3 x4 x5 (hr r List.mem_cons_self) (by omega)
      cases q : lineIn ((acc.length : Int) + 1) r with
      | none =>
        obtain ⟨ρ', h1, h2⟩ := ht.1 q
        refine ⟨ρ', .inl ⟨by rw [bnd_to h1]; simp [scan, q], h2⟩⟩
      | some l =>
        obtain ⟨y3, y4, y5, h1⟩ := ht.2 l q
        rw [bnd_to h1]
        have ih2 := ih (acc ++ [l]) (some (.fz (.str r))) y3 y4 y5 (fun z hz => hr z (List.mem_cons_of_mem _ hz)) (by simp; omega)
        have e : acc ++ scan acc.length (r :: rs) = (acc ++ [l]) ++ scan (acc ++ [l]).length rs := by simp [scan, q]
        rw [e]
        exact ih2
  have hsl := sp_len 10 s
  obtain ⟨ρ', hL⟩ := loop (sp 10 s).dropLast [] none none none none (fun r hr => h.part (List.dropLast_subset _ hr)) (by have := hsl.1; simp; omega)
  have hfor : ∀ r, forM' (tgM (.name 2)) (m.S bd) ((sp 10 s).dropLast.map .str) [some (.fz (.str s)), some (.lst []), none, none, none, none, none] = r → m.S (.for_ (.name 2) (.seq (.slc (.mth .split (.var 0) (.cons (.cst (.str [10])) .nil)) .none (.some (.neg (.cst (.int 1)))))) bd) [some (.fz (.str s)), some (.lst []), none, none, none, none, none] = r := by
    intro r hr
    rw [msS_for, bnd_to hit]; exact hr
  have hset : m.S (.set 1 (.lst .nil)) [some (.fz (.str s)), none, none, none, none, none, none] = .ok .nx [some (.fz (.str s)), some (.lst []), none, none, none, none, none] := by simp [lstM]
  show frOf (m.S (.seq (.set 1 (.lst .nil)) (.seq (.for_ (.name 2) (.seq (.slc (.mth .split (.var 0) (.cons (.cst (.str [10])) .nil)) .none (.some (.neg (.cst (.int 1)))))) bd) (.seq (.ret (.mv 1)) .nil))) _) = _
  rw [msS_seq, hset]
  simp only
  rcases hL with ⟨hL, h0⟩ | ⟨x, x3, x4, x5, rfl, hL⟩
  · rw [msS_seq, hfor _ hL]
    simp [h0, linesIn]
  · rw [msS_seq, hfor _ hL]
    simp [mvv, linesIn]
end K67
set_option Elab.async false
set_option linter.all false
set_option maxRecDepth 100000
set_option maxHeartbeats 1000000
namespace K67
open PySem PySem.Spec L2 FW
variable {tk : Nat → Nat → Option Bool} {fuel n : Nat}
def cellOf (ns : List Int) : Int := ns.getD 0 0
theorem cell_eq (ns : List Int) (h : ns.length ≤ 63) : ∃ s, F tk fuel (n + 1) 5 [.fz (.scr ns), .fz (.int 0)] = .ok (.fz (.int (cellOf ns))) s := by
  refine ⟨_, runF_by (c := c__law_cell) (ρ := [some (.fz (.scr ns)), some (.fz (.int 0))]) (d := d__law_cell.cd) (r := .ok (.fz (.int (cellOf ns))) (some (.fz (.scr ns)))) rfl rfl rfl fun Fk m hFk => ?_⟩
  have hl : lenG (.scr ns) = some (.int ns.length) := by simp [lenG]
  unfold c__law_cell
  cases ns with
  | nil => simp [biG, hl, c2G, asB, cellOf]
  | cons a r =>
    have h0 : (0 : Int) < ((a :: r).length : Int) := by simp
    have hi : idxG (.scr (a :: r)) (.int 0) = some (.int a) := by
      show (atI (a :: r) ((0 : Nat) : Int)).map D.int = _
      rw [idx_ok (by simp) (by simp at h ⊢; omega)]; rfl
    simp [biG, hl, c2G, asB, h0, idxA, argD, hi, intG1, cellOf]
/-- numbers in [0, lim) -/
def Nums (lim : Int) (l : List Int) : Prop := ∀ x ∈ l, 0 ≤ x ∧ x < lim
theorem fmod_in {x lim : Int} (h : 0 < lim) : 0 ≤ x.fmod lim ∧ x.fmod lim < lim := ⟨Int.fmod_nonneg_of_pos x h, Int.fmod_lt_of_pos x h⟩
theorem numbers_eq (c lim : Int) (cnt : Nat) (hc : c.natAbs.log2 ≤ 1048577) (h0 : 0 < lim) (h1 : lim < 1000000) (hn : cnt ≤ 100000) : ∃ l s, F tk fuel (n + 1) 6 [.fz (.int c), .fz (.int cnt), .fz (.int lim)] = .ok (.lst (l.map .int)) s ∧ Nums lim l ∧ l.length = cnt := by
  have hsz := sizeN
  have hpow : powG (.int 10) (.int 18) = some (.int (10 ^ 18)) := rfl
  have hd : ∀ x, fdivG (.int x) (.int lim) = some (.int (x.fdiv lim)) := fun x => divG_int (by unfold divC; simp; omega)
  have hm : ∀ x, modG (.int x) (.int lim) = some (.int (x.fmod lim)) := fun x => modG_int (by omega)
  refine runF_ex (fun r => ∃ l s, r = .ok (.lst (l.map .int)) s ∧ Nums lim l ∧ l.length = cnt) c__law_numbers [some (.fz (.int c)), some (.fz (.int cnt)), some (.fz (.int lim)), none, none, none] (d := d__law_numbers.cd) (defs := cdsOf ds) (i := 6) (os := [.fz (.int c), .fz (.int cnt), .fz (.int lim)]) rfl rfl rfl fun Fk m hFk => ?_
  by_cases hb : (1000000000000000000 : Int) ≤ c
  · let bd : CS := (.seq (.app 3 (.bin .mod (.bi .int (.cons (.var 0) .nil)) (.var 2))) <| .seq (.setF 0 (.bin .fdiv (.bi .int (.cons (.var 0) .nil)) (.var 2))) <| .nil)
    obtain ⟨ρ', hf, c', l, o, rfl, hl, hn2⟩ := for_range (g := tgM (.name 4)) (m := m.S bd) (fun k ρ => ∃ (c' : Int) (l : List Int) (o : Option O), ρ = [some (.fz (.int c')), some (.fz (.int cnt)), some (.fz (.int lim)), some (.lst (l.map .int)), o, none] ∧ l.length = k ∧ Nums lim l) cnt
      [some (.fz (.int c)), some (.fz (.int cnt)), some (.fz (.int lim)), some (.lst []), none, none] ⟨c, [], none, rfl, rfl, fun x hx => (nomatch hx)⟩ (fun j ρ hj ⟨c', l, o, e, hl, hN⟩ => by
        subst e
        refine ⟨[some (.fz (.int c')), some (.fz (.int cnt)), some (.fz (.int lim)), some (.lst (l.map .int)), some (.fz (.int j)), none], [some (.fz (.int (c'.fdiv lim))), some (.fz (.int cnt)), some (.fz (.int lim)), some (.lst ((l ++ [c'.fmod lim]).map .int)), some (.fz (.int j)), none], by simp [tgM, setM], ?_, _, _, _, rfl, by simp [hl], ?_⟩
        · simp [bd, biG, intG1, b2G, hm, hd, appS, appM, show l.length < sizeLine by omega]
        · intro x hx
          rcases List.mem_append.mp hx with hx | hx
          · exact hN x hx
          · rw [List.mem_singleton.mp hx]; exact fmod_in h0)
    have hfor : m.S (.for_ (.name 4) (.rng 1 (.cons (.var 1) .nil)) bd) [some (.fz (.int c)), some (.fz (.int cnt)), some (.fz (.int lim)), some (.lst []), none, none] = .ok .nx [some (.fz (.int c')), some (.fz (.int cnt)), some (.fz (.int lim)), some (.lst (l.map .int)), o, none] := by
      rw [msS_for, bnd_to (mI_rng_ok m (n := cnt) (by simp) (by omega))]
      exact hf
    refine ⟨l, some (.fz (.int c')), ?_, hn2, hl⟩
    unfold c__law_numbers
    simp [bd] at hfor
    simp [lstM, c2G, b2G, hpow, asB, hb, hfor, mvv]
  · let bd : CS := (.seq (.setF 5 (.bin .mod (.bi .int (.cons (.bin .add (.bin .add (.bin .mul (.var 0) (.cst (.int 48271))) (.bin .mul (.var 4) (.cst (.int 69621)))) (.cst (.int 7))) .nil)) (.cst (.int 2147483647)))) <|
    .seq (.setF 5 (.bin .mod (.bi .int (.cons (.bin .add (.bin .add (.bin .add (.bin .mul (.var 5) (.var 5)) (.bin .mul (.var 5) (.cst (.int 40692)))) (.bin .mul (.var 4) (.cst (.int 16807)))) (.cst (.int 11))) .nil)) (.cst (.int 2147483399)))) <|
    .seq (.app 3 (.bin .mod (.bi .int (.cons (.bin .fdiv (.var 5) (.cst (.int 32))) .nil)) (.var 2))) <| .nil)
    obtain ⟨ρ', hf, l, o, o2, rfl, hl, hn2⟩ := for_range (g := tgM (.name 4)) (m := m.S bd) (fun k ρ => ∃ (l : List Int) (o o2 : Option O), ρ = [some (.fz (.int c)), some (.fz (.int cnt)), some (.fz (.int lim)), some (.lst (l.map .int)), o, o2] ∧ l.length = k ∧ Nums lim l) cnt
      [some (.fz (.int c)), some (.fz (.int cnt)), some (.fz (.int lim)), some (.lst []), none, none] ⟨[], none, none, rfl, rfl, fun x hx => (nomatch hx)⟩ (fun j ρ hj ⟨l, o, o2, e, hl, hN⟩ => by
        subst e
        let m1 : Int := (c * 48271 + j * 69621 + 7).fmod 2147483647
        let m2 : Int := (m1 * m1 + m1 * 40692 + j * 16807 + 11).fmod 2147483399
        have b1 := fmod_in (x := c * 48271 + j * 69621 + 7) (lim := 2147483647) (by decide)
        have k1 : mulC c 48271 = true := decide_eq_true (by
          have : (48271 : Int).natAbs.log2 = 15 := by decide
          omega)
        have k2 : mulC (j : Int) 69621 = true := mulC_small (by omega) (by decide)
        have k3 : mulC m1 m1 = true := mulC_small (by omega) (by omega)
        have k4 : mulC m1 40692 = true := mulC_small (by omega) (by decide)
        have k5 : mulC (j : Int) 16807 = true := mulC_small (by omega) (by decide)
        have d2 : fdivG (.int m2) (.int 32) = some (.int (m2.fdiv 32)) := divG_int rfl
        have q1 : modG (.int (c * 48271 + j * 69621 + 7)) (.int 2147483647) = some (.int m1) := modG_int (by decide)
        have q2 : modG (.int (m1 * m1 + m1 * 40692 + j * 16807 + 11)) (.int 2147483399) = some (.int m2) := modG_int (by decide)
        refine ⟨[some (.fz (.int c)), some (.fz (.int cnt)), some (.fz (.int lim)), some (.lst (l.map .int)), some (.fz (.int j)), o2], [some (.fz (.int c)), some (.fz (.int cnt)), some (.fz (.int lim)), some (.lst ((l ++ [(m2.fdiv 32).fmod lim]).map .int)), some (.fz (.int j)), some (.fz (.int m2))], by simp [tgM, setM], ?_, _, _, _, rfl, by simp [hl], ?_⟩
        · clear_value m2 m1
          simp [bd, biG, intG1, b2G, hm, appS, appM, mulG_int k1, mulG_int k2, q1, mulG_int k3, mulG_int k4, mulG_int k5, q2, d2, show l.length < sizeLine by omega]
        · intro x hx
          rcases List.mem_append.mp hx with hx | hx
          · exact hN x hx
          · rw [List.mem_singleton.mp hx]; exact fmod_in h0)
    have hfor : m.S (.for_ (.name 4) (.rng 1 (.cons (.var 1) .nil)) bd) [some (.fz (.int c)), some (.fz (.int cnt)), some (.fz (.int lim)), some (.lst []), none, none] = .ok .nx [some (.fz (.int c)), some (.fz (.int cnt)), some (.fz (.int lim)), some (.lst (l.map .int)), o, o2] := by
      rw [msS_for, bnd_to (mI_rng_ok m (n := cnt) (by simp) (by omega))]
      exact hf
    refine ⟨l, some (.fz (.int c)), ?_, hn2, hl⟩
    unfold c__law_numbers
    simp [bd] at hfor
    simp [lstM, c2G, b2G, hpow, asB, hb, hfor, mvv]
end K67
set_option Elab.async false
set_option linter.all false
set_option maxRecDepth 100000
set_option maxHeartbeats 1000000
namespace K67
open PySem PySem.Spec L2 FW
variable {tk : Nat → Nat → Option Bool} {fuel n : Nat}
def knownL : List Nat := [32, 33, 34, 35, 36, 38, 39, 40, 41, 42, 43, 44, 45, 46, 47, 48, 49, 50, 51, 52, 53, 54, 55, 56, 57, 58, 59, 60, 61, 62, 63, 64, 65, 66, 67, 68, 69, 70, 71, 72, 73, 74, 75, 76, 77, 78, 79, 80, 81, 82, 83, 84, 85, 86, 87, 88, 89, 90, 91, 92, 93, 94, 95, 96, 97, 98, 99, 100, 101, 102, 103, 104, 105, 106, 107, 108, 109, 110, 111, 112, 113, 114, 115, 116, 117, 118, 119, 120, 121, 122, 123, 124, 125, 126]
theorem known_ok : (knownL.all fun c => decide (32 ≤ c) && decide (c ≤ 126)) = true := by decide
theorem known_in {i : Nat} (h : i < 94) : 32 ≤ gd knownL i ∧ gd knownL i ≤ 126 := by
  have hl : knownL.length = 94 := by decide
  rw [gd_lt (by omega)]
  have := List.all_eq_true.mp known_ok _ (List.getElem_mem (by omega : i < knownL.length))
  simpa using this
/-- plain signs -/
def Pr (t : List Nat) : Prop := ∀ c ∈ t, 32 ≤ c ∧ c ≤ 126
theorem signs_eq (c : Int) (cnt : Nat) (hc : c.natAbs.log2 ≤ 1048577) (hn : cnt ≤ 100000) : ∃ t s, F tk fuel (n + 2) 12 [.fz (.int c), .fz (.int cnt)] = .ok (.fz (.str t)) s ∧ Pr t ∧ t.length = cnt := by
  refine runF_ex (fun r => ∃ t s, r = .ok (.fz (.str t)) s ∧ Pr t ∧ t.length = cnt) c__law_signs [some (.fz (.int c)), some (.fz (.int cnt)), none, none] (d := d__law_signs.cd) (defs := cdsOf ds) (i := 12) (os := [.fz (.int c), .fz (.int cnt)]) rfl rfl rfl fun Fk m hFk => ?_
  have hsz := sizeN
  have hl94 : knownL.length = 94 := by decide
  obtain ⟨l, s, e, hN, hl⟩ := numbers_eq (tk := tk) (fuel := fuel) (n := n) c 94 cnt hc (by decide) (by decide) hn
  have e : Fk 6 [.fz (.int c), .fz (.int cnt), .fz (.int 94)] = .ok (.lst (l.map .int)) s := by rw [hFk]; exact e
  have hcomp : m.O (.comp [("number", 3)] (.seq (.call 6 3 (.cons (.var 0) (.cons (.var 1) (.cons (.cst (.int 94)) .nil))))) (.name 3) .yes (.idx (.var 2) (.var 3))) [some (.fz (.int c)), some (.fz (.int cnt)), some (.fz (.str knownL)), none]
      = .ok (.lst (l.map fun (x : Int) => .str [gd knownL x.toNat])) [some (.fz (.int c)), some (.fz (.int cnt)), some (.fz (.str knownL)), none] := by
    rw [msO_comp, compM_map (ρ1 := [some (.fz (.int c)), some (.fz (.int cnt)), some (.fz (.str knownL)), none]) l (fun x => .int x) (fun x => .str [gd knownL x.toNat])]
    · simp [restE, wipeE]
    · simp [e, itemsD]
    · intro x hx
      have hx := hN x hx
      have hi : idxG (.str knownL) (.int x) = some (.str [gd knownL x.toNat]) := by
        have h1 : atI knownL x = some (gd knownL x.toNat) := by
          have := atI_gd (s := knownL) (i := x.toNat) (by omega) (by omega)
          rwa [Int.toNat_of_nonneg hx.1] at this
        show (if knownL.length ≤ sizeLine then (atI knownL x).map fun c => D.str [c] else none) = _
        rw [if_pos (by omega), h1]; rfl
      refine ⟨[some (.fz (.int c)), some (.fz (.int cnt)), some (.fz (.str knownL)), some (.fz (.int x))], ?_, by simp [wipeE]⟩
      generalize knownL = K at *
      simp [compStep, tgM, setM, wipeE, idxA, argD, hi]
    · omega
  have hj : joinG [] (.lst (l.map fun (x : Int) => .str [gd knownL x.toNat])) = some (.str (l.map fun (x : Int) => gd knownL x.toNat)) := by
    have e1 : l.map (fun x => D.str [gd knownL x.toNat]) = (l.map fun (x : Int) => [gd knownL x.toNat]).map .str := by rw [List.map_map]; rfl
    rw [e1, joinG_map, joinL_nil]
    · congr 2
      have : ∀ l : List Int, (l.map fun (x : Int) => [gd knownL x.toNat]).flatten = l.map fun (x : Int) => gd knownL x.toNat := by
        intro l
        induction l with
        | nil => rfl
        | cons a l ih => simp [ih]
      exact this l
    · have := sum_le (fun x : List Nat => x.length) 1 (l.map fun (x : Int) => [gd knownL x.toNat]) (fun x hx => by
        obtain ⟨y, _, rfl⟩ := List.mem_map.mp hx
        simp)
      simp only [List.length_map, List.length_nil, Nat.mul_zero] at this ⊢
      omega
  have e1 := mO_mth_ok m (mi := .join) (a := .cst (.str [])) (as := .cons (.comp [("number", 3)] (.seq (.call 6 3 (.cons (.var 0) (.cons (.var 1) (.cons (.cst (.int 94)) .nil))))) (.name 3) .yes (.idx (.var 2) (.var 3))) .nil) (d := .str []) (f := .str (l.map fun (x : Int) => gd knownL x.toNat)) (ρ := [some (.fz (.int c)), some (.fz (.int cnt)), some (.fz (.str knownL)), none]) (ρ1 := [some (.fz (.int c)), some (.fz (.int cnt)), some (.fz (.str knownL)), none]) (ρ2 := [some (.fz (.int c)), some (.fz (.int cnt)), some (.fz (.str knownL)), none]) (xs := [.dat (.lst (l.map fun (x : Int) => .str [gd knownL x.toNat]))]) (ds := [.lst (l.map fun (x : Int) => .str [gd knownL x.toNat])]) (by simp) rfl (by simp [hcomp]) (by simp) hj
  refine ⟨l.map fun (x : Int) => gd knownL x.toNat, some (.fz (.int c)), ?_, fun c hc => ?_, by simp [hl]⟩
  · show frOf (m.S (.seq (.setF 2 (.cst (.str knownL))) (.seq (.ret _) .nil)) _) = _
    simp [-msO_mth, e1]
  · obtain ⟨x, hx, rfl⟩ := List.mem_map.mp hc
    have := hN x hx
    exact known_in (by omega)
theorem same_str (a : List Nat) : ∃ s, F tk fuel (n + 1) 7 [.fz (.str a), .fz (.str a)] = .ok (.fz (.bl true)) s := by
  refine ⟨some (.fz (.str a)), runF_by (c := c__law_same) (ρ := [some (.fz (.str a)), some (.fz (.str a)), none]) (d := d__law_same.cd) rfl rfl rfl fun Fk m hFk => ?_⟩
  have i1 : isiG "list" (.str a) = some (.bl false) := rfl
  have i2 : isiG "tuple" (.str a) = some (.bl false) := rfl
  have i3 : isiG "bool" (.str a) = some (.bl false) := rfl
  have i4 : isiG "int" (.str a) = some (.bl false) := rfl
  have i5 : isiG "str" (.str a) = some (.bl true) := rfl
  unfold c__law_same
  simp [i1, i2, i3, i4, i5, truA, argD, truD, c2G, isNG, asB, andV]
theorem same_int (a : Int) : ∃ s, F tk fuel (n + 1) 7 [.fz (.int a), .fz (.int a)] = .ok (.fz (.bl true)) s := by
  refine ⟨some (.fz (.int a)), runF_by (c := c__law_same) (ρ := [some (.fz (.int a)), some (.fz (.int a)), none]) (d := d__law_same.cd) rfl rfl rfl fun Fk m hFk => ?_⟩
  have i1 : isiG "list" (.int a) = some (.bl false) := rfl
  have i2 : isiG "tuple" (.int a) = some (.bl false) := rfl
  have i3 : isiG "bool" (.int a) = some (.bl false) := rfl
  have i4 : isiG "int" (.int a) = some (.bl true) := rfl
  unfold c__law_same
  simp [i1, i2, i3, i4, truA, argD, truD, c2G, isNG, asB, andV, notV]
theorem same_strs (l : List (List Nat)) (hl : l.length ≤ 1000000) : ∃ s, F tk fuel (n + 2) 7 [.fz (.lst (l.map .str)), .fz (.lst (l.map .str))] = .ok (.fz (.bl true)) s := by
  refine ⟨some (.fz (.lst (l.map .str))), runF_by (c := c__law_same) (ρ := [some (.fz (.lst (l.map .str))), some (.fz (.lst (l.map .str))), none]) (d := d__law_same.cd) rfl rfl rfl fun Fk m hFk => ?_⟩
  have hcall : ∀ a : List Nat, ∃ s, Fk 7 [.fz (.str a), .fz (.str a)] = .ok (.fz (.bl true)) s := fun a => by rw [hFk]; exact same_str a
  have i1 : isiG "list" (.lst (l.map .str)) = some (.bl true) := rfl
  have hlen : lenG (.lst (l.map .str)) = some (.int l.length) := by simp [lenG]
  let bd : CS := .seq (.ite (.not (.val (.call 7 2 (.cons (.idx (.var 0) (.var 2)) (.cons (.idx (.var 1) (.var 2)) .nil)))))
    (.seq (.ret (.cst (.bl false))) <| .nil)
    ( .nil)) <| .nil
  obtain ⟨ρ', hf, o, rfl⟩ := for_range (g := tgM (.name 2)) (m := m.S bd) (fun k ρ => ∃ o : Option O, ρ = [some (.fz (.lst (l.map .str))), some (.fz (.lst (l.map .str))), o]) l.length [some (.fz (.lst (l.map .str))), some (.fz (.lst (l.map .str))), none] ⟨none, rfl⟩ (fun j ρ hj ⟨o, e⟩ => by
    subst e
    obtain ⟨s, hc⟩ := hcall (gs l j)
    have ha : idxG (.lst (l.map .str)) (.int j) = some (.str (gs l j)) := atI_gs hj (by omega)
    refine ⟨[some (.fz (.lst (l.map .str))), some (.fz (.lst (l.map .str))), some (.fz (.int j))], [some (.fz (.lst (l.map .str))), some (.fz (.lst (l.map .str))), some (.fz (.int j))], by simp [tgM, setM], ?_, _, rfl⟩
    simp [bd, idxA, argD, ha, hc, truA, truD])
  have hfor : m.S (.for_ (.name 2) (.rng 1 (.cons (.bi .len (.cons (.var 1) .nil)) .nil)) bd) [some (.fz (.lst (l.map .str))), some (.fz (.lst (l.map .str))), none] = .ok .nx [some (.fz (.lst (l.map .str))), some (.fz (.lst (l.map .str))), o] := by
    rw [msS_for, bnd_to (mI_rng_ok m (n := l.length) (by simp [biG, hlen]) (by omega))]
    exact hf
  unfold c__law_same
  simp [bd] at hfor
  simp [i1, truA, argD, truD, biG, hlen, c2G, asB, hfor]
end K67
set_option Elab.async false
set_option linter.all false
set_option maxRecDepth 100000
set_option maxHeartbeats 1000000
namespace K67
open PySem PySem.Spec L2 FW
variable {tk : Nat → Nat → Option Bool} {fuel n : Nat}
def bsL : List Nat := [48, 49, 50, 51, 52, 53, 54, 55, 56, 57, 32, 10, 45, 47, 97, 98, 99, 101, 102, 105, 108, 110, 111, 114, 115, 116, 94, 46, 44, 59]
theorem bs_ok : (bsL.all fun c => decide (c < 1000)) = true := by decide
theorem bs_in {i : Nat} (h : i < 30) : gd bsL i < 1000 := by
  have hl : bsL.length = 30 := by decide
  rw [gd_lt (by omega)]
  have := List.all_eq_true.mp bs_ok _ (List.getElem_mem (by omega : i < bsL.length))
  simpa using this
def gi (l : List Int) (i : Nat) : Int := l.getD i 0
theorem Nums.get {lim : Int} {l : List Int} (h : Nums lim l) {i : Nat} (hi : i < l.length) : 0 ≤ gi l i ∧ gi l i < lim := by
  have : gi l i = l[i] := by unfold gi; simp [hi]
  rw [this]; exact h _ (List.getElem_mem hi)
theorem idx_gi {l : List Int} {i : Nat} (h : i < l.length) (hz : l.length < 2 ^ 62) : idxG (.lst (l.map .int)) (.int i) = some (.int (gi l i)) := atI_int h hz
theorem Tx.app {s t : List Nat} (h1 : Tx s) (h2 : Tx t) (h : s.length + t.length ≤ 100000) : Tx (s ++ t) := ⟨fun c hc => (List.mem_append.mp hc).elim (h1.1 c) (h2.1 c), by simpa using h⟩
theorem Tx.take {s : List Nat} (h : Tx s) (k : Nat) : Tx (s.take k) := ⟨fun c hc => h.1 c (List.mem_of_mem_take hc), by have := h.2; simp; omega⟩
theorem Tx.drop {s : List Nat} (h : Tx s) (k : Nat) : Tx (s.drop k) := ⟨fun c hc => h.1 c (List.mem_of_mem_drop hc), by have := h.2; simp; omega⟩
theorem Tx.one {c : Nat} (h : c < 1000) : Tx [c] := ⟨fun x hx => by rw [List.mem_singleton.mp hx]; omega, by simp⟩
theorem bent_eq (s : List Nat) (dr : List Int) (a : Nat) (h : Tx s) (hs : s.length ≤ 40000) (hN : Nums 5040 dr) (ha : a + 2 < dr.length) (hd : dr.length ≤ 1000) : ∃ t r, F tk fuel (n + 1) 13 [.fz (.str s), .fz (.lst (dr.map .int)), .fz (.int a)] = .ok (.fz (.str t)) r ∧ Tx t := by
  refine runF_ex (fun r => ∃ t q, r = .ok (.fz (.str t)) q ∧ Tx t) c__law_bent_string [some (.fz (.str s)), some (.fz (.lst (dr.map .int))), some (.fz (.int a)), none, none, none, none] (d := d__law_bent_string.cd) (defs := cdsOf ds) (i := 13) (os := [.fz (.str s), .fz (.lst (dr.map .int)), .fz (.int a)]) rfl rfl rfl fun Fk m hFk => ?_
  have hsz := sizeN
  have i0 := idx_gi (l := dr) (i := a) (by omega) (by omega)
  have i1 : idxG (.lst (dr.map .int)) (.int ((a : Int) + 1)) = some (.int (gi dr (a + 1))) := by have := idx_gi (l := dr) (i := a + 1) (by omega) (by omega); simpa using this
  have i2 : idxG (.lst (dr.map .int)) (.int ((a : Int) + 2)) = some (.int (gi dr (a + 2))) := by have := idx_gi (l := dr) (i := a + 2) (by omega) (by omega); simpa using this
  have hl : lenG (.str s) = some (.int s.length) := lenG_str (by omega)
  have hb30 : bsL.length = 30 := by decide
  have hbl : lenG (.str bsL) = some (.int 30) := by rw [lenG_str (by omega), hb30]; rfl
  -- the spot, the sign, the kind
  have q0 := fmod_in (x := gi dr a) (lim := (s.length : Int) + 1) (by omega)
  obtain ⟨p, hp⟩ := Int.eq_ofNat_of_zero_le q0.1
  have m0 : modG (.int (gi dr a)) (.int ((s.length : Int) + 1)) = some (.int (p : Int)) := by rw [modG_int (by omega), hp]
  have q1 := fmod_in (x := gi dr (a + 1)) (lim := 30) (by decide)
  obtain ⟨g, hg⟩ := Int.eq_ofNat_of_zero_le q1.1
  have m1 : modG (.int (gi dr (a + 1))) (.int 30) = some (.int (g : Int)) := by rw [modG_int (by decide), hg]
  have ig : idxG (.str bsL) (.int (g : Int)) = some (.str [gd bsL g]) := by
    show (if bsL.length ≤ sizeLine then (atI bsL (g : Int)).map fun c => D.str [c] else none) = _
    rw [if_pos (by omega), atI_gd (by omega) (by omega)]; rfl
  have hgs := bs_in (i := g) (by omega)
  have q3 := fmod_in (x := gi dr (a + 1)) (lim := (s.length : Int) + 1) (by omega)
  obtain ⟨p2, hp2⟩ := Int.eq_ofNat_of_zero_le q3.1
  have m3 : modG (.int (gi dr (a + 1))) (.int ((s.length : Int) + 1)) = some (.int (p2 : Int)) := by rw [modG_int (by omega), hp2]
  have m2 : modG (.int (gi dr (a + 2))) (.int 7) = some (.int ((gi dr (a + 2)).fmod 7)) := modG_int (by decide)
  generalize (gi dr (a + 2)).fmod 7 = kd at m2
  have c1 : slcG (.str s) (some 0) (some (p : Int)) = some (.str (s.take p)) := by rw [slc_str (by omega), cut_0to]
  have c2 : slcG (.str s) (some ((p : Int) + 1)) none = some (.str (s.drop (p + 1))) := by rw [slc_str (by omega), cut_from1]
  have c3 : slcG (.str s) (some (p2 : Int)) none = some (.str (s.drop p2)) := by rw [slc_str (by omega), cut_from]
  have c4 : slcG (.str s) (some (p : Int)) none = some (.str (s.drop p)) := by rw [slc_str (by omega), cut_from]
  have lt : (s.take p).length ≤ 40000 := by simp; omega
  have ld : ∀ k, (s.drop k).length ≤ 40000 := fun k => by simp; omega
  have T1 := h.take p
  generalize gd bsL g = sg at ig hgs
  have hT : Tx [sg] := Tx.one hgs
  have ad : ∀ x y : List Nat, x.length + y.length ≤ 100000 → addG (.str x) (.str y) = some (.str (x ++ y)) := fun x y hxy => addG_str (by omega)
  have a1 := ad (s.take p) (s.drop (p + 1)) (by have := ld (p + 1); omega)
  have a2 := ad (s.take p) [sg] (by simp; omega)
  have a3 := ad (s.take p ++ [sg]) (s.drop (p + 1)) (by have := ld (p + 1); simp at this ⊢; omega)
  have a4 := ad s [sg] (by simp; omega)
  have a5 := ad [sg] s (by simp; omega)
  have a6 := ad (s.take p) (s.drop p2) (by have := ld p2; omega)
  have a7 := ad (s.take p ++ [sg]) (s.drop p) (by have := ld p; simp at this ⊢; omega)
  have d1 := h.drop (p + 1)
  have d2 := h.drop p2
  have d3 := h.drop p
  have l1 := ld (p + 1)
  have l2 := ld p2
  have l3 := ld p
  simp only [List.cons_append, List.nil_append] at a5
  have go : ∀ t, Tx t → frOf (m.S c__law_bent_string [some (.fz (.str s)), some (.fz (.lst (dr.map .int))), some (.fz (.int a)), none, none, none, none]) = .ok (.fz (.str t)) (some (.fz (.str s))) → ∃ t q, frOf (m.S c__law_bent_string [some (.fz (.str s)), some (.fz (.lst (dr.map .int))), some (.fz (.int a)), none, none, none, none]) = .ok (.fz (.str t)) q ∧ Tx t := fun t ht e => ⟨t, _, e, ht⟩
  have hbs : (D.str [48, 49, 50, 51, 52, 53, 54, 55, 56, 57, 32, 10, 45, 47, 97, 98, 99, 101, 102, 105, 108, 110, 111, 114, 115, 116, 94, 46, 44, 59]) = .str bsL := rfl
  unfold c__law_bent_string at go ⊢
  rw [hbs] at go ⊢
  generalize bsL = K at *
  by_cases k0 : kd = 0
  · refine go _ (T1.app d1 (by omega)) ?_
    simp [idxA, argD, i0, i1, i2, biG, hl, b2G, m0, hbl, m1, ig, m2, c2G, asB, k0, asI, c1, c2, a1]
  by_cases k1 : kd = 1
  · refine go _ ((T1.app hT (by simp; omega)).app d1 (by simp at l1 ⊢; omega)) ?_
    simp [idxA, argD, i0, i1, i2, biG, hl, b2G, m0, hbl, m1, ig, m2, c2G, asB, k1, asI, c1, c2, a2, a3]
  by_cases k2 : kd = 2
  · refine go _ T1 ?_
    simp [idxA, argD, i0, i1, i2, biG, hl, b2G, m0, hbl, m1, ig, m2, c2G, asB, k2, asI, c1]
  by_cases k3 : kd = 3
  · refine go _ (h.app hT (by simp; omega)) ?_
    simp [idxA, argD, i0, i1, i2, biG, hl, b2G, m0, hbl, m1, ig, m2, c2G, asB, k3, asI, a4]
  by_cases k4 : kd = 4
  · refine go _ (hT.app h (by simp; omega)) ?_
    simp [idxA, argD, i0, i1, i2, biG, hl, b2G, m0, hbl, m1, ig, m2, c2G, asB, k4, asI, a5]
  by_cases k5 : kd = 5
  · refine go _ (T1.app d2 (by omega)) ?_
    simp [idxA, argD, i0, i1, i2, biG, hl, b2G, m0, hbl, m1, ig, m2, c2G, asB, k5, asI, c1, m3, c3, a6]
  · refine go _ ((T1.app hT (by simp; omega)).app d3 (by simp at l3 ⊢; omega)) ?_
    simp [idxA, argD, i0, i1, i2, biG, hl, b2G, m0, hbl, m1, ig, m2, c2G, asB, k0, k1, k2, k3, k4, k5, asI, c1, c4, a2, a7]
end K67
set_option Elab.async false
set_option linter.all false
set_option maxRecDepth 100000
set_option maxHeartbeats 1000000
namespace K67
open PySem PySem.Spec L2 FW
/-! the plain law -/
def wsum : Nat → List Nat → Int
  | _, [] => 0
  | k, c :: r => ((k : Int) + 1) * (c : Int) + wsum (k + 1) r
theorem wsum_app : ∀ (a b : List Nat) (k : Nat), wsum k (a ++ b) = wsum k a + wsum (k + a.length) b
  | [], b, k => by simp [wsum]
  | c :: a, b, k => by
    have := wsum_app a b (k + 1)
    simp only [List.cons_append, wsum, this, List.length_cons]
    rw [show k + 1 + a.length = k + (a.length + 1) by omega]
    omega
theorem range_sum (f : Nat → Int) : ∀ n : Nat, ((List.range (n + 1)).map f).sum = ((List.range n).map f).sum + f n := fun n => by
  rw [List.range_succ]; simp
theorem chk_wsum (s : List Nat) : chk s = (wsum 0 s).fmod 967 := by
  unfold chk
  congr 1
  have key : ∀ n, n ≤ s.length → ((List.range n).map (wt s)).sum = wsum 0 (s.take n) := by
    intro n
    induction n with
    | zero => intro _; simp [wsum]
    | succ n ih =>
      intro h
      rw [range_sum, ih (by omega), List.take_succ_eq_append_getElem (by omega), wsum_app]
      have : (s.take n).length = n := by simp; omega
      rw [this]
      simp [wsum, wt, gd_lt (show n < s.length by omega)]
  have := key s.length (Nat.le_refl _)
  rwa [List.take_length] at this
theorem fmod_ne {x y : Int} (h : ¬ (967 : Int) ∣ (x - y)) : x.fmod 967 ≠ y.fmod 967 := by
  intro e
  apply h
  have h1 := Int.mul_fdiv_add_fmod x 967
  have h2 := Int.mul_fdiv_add_fmod y 967
  exact ⟨x.fdiv 967 - y.fdiv 967, by rw [e] at h1; omega⟩
theorem prod_ok : ∀ a : Fin 128, ∀ b : Fin 95, 0 < b.val → ((a.val + 1) * b.val) % 967 ≠ 0 := by decide +kernel
theorem exch_ne {a b : List Nat} {x c : Nat} (ha : a.length < 128) (hx : 32 ≤ x ∧ x ≤ 126) (hc : 32 ≤ c ∧ c ≤ 126) (hne : c ≠ x) : chk (a ++ c :: b) ≠ chk (a ++ x :: b) := by
  rw [chk_wsum, chk_wsum]
  refine fmod_ne fun hd => ?_
  rw [wsum_app, wsum_app] at hd
  simp only [wsum, Nat.zero_add] at hd
  have e : wsum 0 a + (((a.length : Int) + 1) * (c : Int) + wsum (a.length + 1) b) - (wsum 0 a + (((a.length : Int) + 1) * (x : Int) + wsum (a.length + 1) b)) = ((a.length : Int) + 1) * ((c : Int) - (x : Int)) := by
    rw [Int.mul_sub]; omega
  rw [e] at hd
  rcases Nat.lt_or_gt_of_ne hne with h | h
  · have hp := prod_ok ⟨a.length, ha⟩ ⟨x - c, by omega⟩ (by show 0 < x - c; omega)
    apply hp
    have : ((c : Int) - (x : Int)) = -((x - c : Nat) : Int) := by omega
    rw [this, Int.mul_neg, Int.dvd_neg] at hd
    have h3 : ((967 : Nat) : Int) ∣ (((a.length + 1) * (x - c) : Nat) : Int) := by
      rw [Int.natCast_mul]; simpa using hd
    exact Nat.mod_eq_zero_of_dvd (Int.natCast_dvd_natCast.mp h3)
  · have hp := prod_ok ⟨a.length, ha⟩ ⟨c - x, by omega⟩ (by show 0 < c - x; omega)
    apply hp
    have : ((c : Int) - (x : Int)) = ((c - x : Nat) : Int) := by omega
    rw [this] at hd
    have h3 : ((967 : Nat) : Int) ∣ (((a.length + 1) * (c - x) : Nat) : Int) := by
      rw [Int.natCast_mul]; simpa using hd
    exact Nat.mod_eq_zero_of_dvd (Int.natCast_dvd_natCast.mp h3)
theorem swap_ne {a b : List Nat} {x y : Nat} (hx : 32 ≤ x ∧ x ≤ 126) (hy : 32 ≤ y ∧ y ≤ 126) (hne : x ≠ y) : chk (a ++ y :: x :: b) ≠ chk (a ++ x :: y :: b) := by
  rw [chk_wsum, chk_wsum]
  refine fmod_ne fun hd => ?_
  rw [wsum_app, wsum_app] at hd
  simp only [wsum, Nat.zero_add] at hd
  have e : wsum 0 a + (((a.length : Int) + 1) * (y : Int) + (((a.length + 1 : Nat) : Int) + 1) * (x : Int) + wsum (a.length + 1 + 1) b |> fun z => z) - (wsum 0 a + (((a.length : Int) + 1) * (x : Int) + (((a.length + 1 : Nat) : Int) + 1) * (y : Int) + wsum (a.length + 1 + 1) b |> fun z => z)) = (x : Int) - (y : Int) := by
    simp only [Int.natCast_add, Int.add_mul]
    omega
  have e2 : wsum 0 a + (((a.length : Int) + 1) * (y : Int) + ((((a.length + 1 : Nat) : Int) + 1) * (x : Int) + wsum (a.length + 1 + 1) b)) - (wsum 0 a + (((a.length : Int) + 1) * (x : Int) + ((((a.length + 1 : Nat) : Int) + 1) * (y : Int) + wsum (a.length + 1 + 1) b))) = (x : Int) - (y : Int) := by
    simp only [Int.natCast_add, Int.add_mul]
    omega
  rw [e2] at hd
  omega
/-- rows of lines from number k on -/
def rowsOf : Nat → List (List Nat) → List (List Nat)
  | _, [] => []
  | k, l :: r => rowOf ((k : Int) + 1) l :: rowsOf (k + 1) r
def jr : Nat → List (List Nat) → List Nat
  | _, [] => []
  | k, l :: r => recS ((k : Int) + 1) l ++ jr (k + 1) r
theorem jr_app : ∀ (a b : List (List Nat)) (k : Nat), jr k (a ++ b) = jr k a ++ jr (k + a.length) b
  | [], b, k => by simp [jr]
  | l :: a, b, k => by
    have := jr_app a b (k + 1)
    simp only [List.cons_append, jr, this, List.length_cons, List.append_assoc]
    rw [show k + 1 + a.length = k + (a.length + 1) by omega]
theorem jrn_jr (ls : List (List Nat)) : jrn ls = jr 0 ls := by
  have key : ∀ (m : Nat) (ls : List (List Nat)), ls.length = m → ((List.range ls.length).map fun (i : Nat) => recS ((i : Int) + 1) (gs ls i)).flatten = jr 0 ls := by
    intro m
    induction m with
    | zero => intro ls h; cases ls with
      | nil => rfl
      | cons a r => simp at h
    | succ m ih =>
      intro ls h
      have hne : ls ≠ [] := by intro z; rw [z] at h; simp at h
      obtain ⟨xs, x, rfl⟩ : ∃ xs x, ls = xs ++ [x] := ⟨ls.dropLast, ls.getLast hne, (List.dropLast_concat_getLast hne).symm⟩
      have hx : xs.length = m := by simpa using h
      rw [jr_app, ← ih xs hx]
      simp only [List.length_append, List.length_singleton, List.range_succ, List.map_append, List.flatten_append, Nat.zero_add]
      congr 1
      · congr 1
        apply List.map_congr_left
        intro i hi
        have hi : i < xs.length := by simpa using hi
        unfold gs
        simp [List.getElem?_append_left hi]
      · simp [jr, gs]
  exact key ls.length ls rfl
/-- good lines -/
def Gl1 (l : List Nat) : Prop := Pr l ∧ l.length ≤ 120
theorem row_free {k : Int} (h : 0 ≤ k) {l : List Nat} (hl : Pr l) : 10 ∉ rowOf k l := by
  unfold rowOf
  simp only [List.mem_append, List.mem_cons, not_or]
  exact ⟨strI_free h (.inl (by decide)), by decide, strI_free (chk_bound l).1 (.inl (by decide)), by decide, fun z => by have := hl _ z; omega⟩
theorem sp_jr : ∀ (ls : List (List Nat)) (k : Nat) (t : List Nat), (∀ l ∈ ls, Gl1 l) → sp 10 (jr k ls ++ t) = rowsOf k ls ++ sp 10 t
  | [], k, t, _ => rfl
  | l :: ls, k, t, h => by
    have h1 := row_free (k := (k : Int) + 1) (by omega) (h l List.mem_cons_self).1
    have e : jr k (l :: ls) ++ t = rowOf ((k : Int) + 1) l ++ 10 :: (jr (k + 1) ls ++ t) := by simp [jr, recS_row]
    rw [e, sp_app h1, sp_jr ls (k + 1) t fun z hz => h z (List.mem_cons_of_mem _ hz)]
    rfl
theorem lineIn_row {k : Int} (h0 : 0 ≤ k) {l : List Nat} (h : Gl1 l) : lineIn k (rowOf k l) = some l := by
  unfold lineIn
  rw [lnOf_row h0, recS_row]
  rw [if_pos ⟨by have := h.2; omega, List.all_eq_true.mpr fun c hc => by have := h.1 c hc; simp [okC]; omega, rfl⟩]
theorem lineIn_bad {k : Int} (h0 : 0 ≤ k) {l l' : List Nat} (h : chk l' ≠ chk l) : lineIn k (strI k ++ 32 :: (strI (chk l) ++ 32 :: l')) = none := by
  unfold lineIn
  have e : lnOf (strI k ++ 32 :: (strI (chk l) ++ 32 :: l')) = l' := by
    rw [lnOf_drop, sp_app (strI_free h0 (.inl (by decide))), sp_app (strI_free (chk_bound l).1 (.inl (by decide)))]
    exact (join_sp 32 l').1
  rw [e, recS_row]
  refine if_neg fun ⟨_, _, z⟩ => h ?_
  have z := List.append_cancel_right z
  unfold rowOf at z
  have z := List.append_cancel_left z
  injection z with _ z
  have e1 : strI (chk l') ++ (32 :: l') = strI (chk l) ++ (32 :: l') := z
  have z := List.append_cancel_right e1
  rw [strI_nn (chk_bound l').1, strI_nn (chk_bound l).1] at z
  have := TL.numL_inj z
  have b1 := chk_bound l
  have b2 := chk_bound l'
  omega
theorem scan_rows : ∀ (ls : List (List Nat)) (k : Nat) (more : List (List Nat)), (∀ l ∈ ls, Gl1 l) → scan k (rowsOf k ls ++ more) = ls ++ scan (k + ls.length) more
  | [], k, more, _ => rfl
  | l :: ls, k, more, h => by
    show scan k (rowOf ((k : Int) + 1) l :: (rowsOf (k + 1) ls ++ more)) = _
    rw [scan, lineIn_row (by omega) (h l List.mem_cons_self)]
    simp only
    rw [scan_rows ls (k + 1) more fun z hz => h z (List.mem_cons_of_mem _ hz)]
    simp only [List.cons_append, List.length_cons]
    rw [show k + 1 + ls.length = k + (ls.length + 1) by omega]
/-- a bad row behind whole ones -/
theorem linesIn_bad {ls : List (List Nat)} {row rest : List Nat} (h : ∀ l ∈ ls, Gl1 l) (hr : 10 ∉ row) (hb : lineIn ((ls.length : Int) + 1) row = none) : linesIn (jr 0 ls ++ (row ++ 10 :: rest)) = ls := by
  unfold linesIn
  rw [sp_jr ls 0 _ h, sp_app hr]
  have hne := (join_sp 10 rest).2.1
  rw [List.dropLast_append_of_ne_nil (by simp), List.dropLast_cons_of_ne_nil hne, scan_rows ls 0 _ h]
  simp only [Nat.zero_add, scan, hb, List.append_nil]
end K67
set_option Elab.async false
set_option linter.all false
set_option maxRecDepth 100000
set_option maxHeartbeats 1000000
namespace K67
open PySem PySem.Spec L2 FW
variable {tk : Nat → Nat → Option Bool} {fuel n : Nat}
/-- the law's lines -/
def LL (ls : List (List Nat)) : Prop := (∀ l ∈ ls, Gl1 l) ∧ ls.length ≤ 20
theorem Pr.tx {l : List Nat} (h : Pr l) (hl : l.length ≤ 100000) : Tx l := ⟨fun c hc => by have := h c hc; omega, hl⟩
theorem Gl1.tx {l : List Nat} (h : Gl1 l) : Tx l := h.1.tx (by have := h.2; omega)
theorem LL.ls {ls : List (List Nat)} (h : LL ls) : Ls ls := ⟨fun s hs => ⟨(h.1 s hs).tx, by have := (h.1 s hs).2; omega⟩, by have := h.2; omega⟩
theorem LL.take {ls : List (List Nat)} (h : LL ls) (k : Nat) : LL (ls.take k) := ⟨fun l hl => h.1 l (List.mem_of_mem_take hl), by have := h.2; simp; omega⟩
theorem LL.drop {ls : List (List Nat)} (h : LL ls) (k : Nat) : LL (ls.drop k) := ⟨fun l hl => h.1 l (List.mem_of_mem_drop hl), by have := h.2; simp; omega⟩
theorem recS_tx {k : Int} (h0 : 0 ≤ k) (hk : k < 1000000000) {l : List Nat} (h : Gl1 l) : Tx (recS k l) ∧ (recS k l).length ≤ 141 := by
  have h1 := recS_len h0 hk l
  have h2 := h.2
  refine ⟨⟨fun c hc => ?_, by omega⟩, by omega⟩
  have dig : ∀ {i : Int}, 0 ≤ i → ∀ c ∈ strI i, c < 1114112 := fun {i} hi c hc => by
    apply Classical.byContradiction
    intro hge
    exact strI_free hi (c := c) (.inr (by omega)) hc
  unfold recS at hc
  simp only [List.mem_append, List.mem_singleton] at hc
  rcases hc with hc | hc | hc | hc | hc | hc
  · exact dig h0 c hc
  · omega
  · exact dig (chk_bound l).1 c hc
  · omega
  · exact h.tx.1 c hc
  · omega
theorem jr_tx : ∀ (ls : List (List Nat)) (k : Nat), (∀ l ∈ ls, Gl1 l) → k + ls.length ≤ 1000000 → (∀ c ∈ jr k ls, c < 1114112) ∧ (jr k ls).length ≤ ls.length * 141
  | [], k, _, _ => ⟨fun c hc => (nomatch hc), by simp [jr]⟩
  | l :: ls, k, h, hk => by
    simp at hk
    have h1 := recS_tx (k := (k : Int) + 1) (by omega) (by omega) (h l List.mem_cons_self)
    have h2 := jr_tx ls (k + 1) (fun z hz => h z (List.mem_cons_of_mem _ hz)) (by omega)
    refine ⟨fun c hc => ?_, ?_⟩
    · rcases List.mem_append.mp hc with hc | hc
      · exact h1.1.1 c hc
      · exact h2.1 c hc
    · have e : jr k (l :: ls) = recS ((k : Int) + 1) l ++ jr (k + 1) ls := rfl
      rw [e]
      simp only [List.length_append, List.length_cons, Nat.add_mul]
      omega
theorem LL.jr {ls : List (List Nat)} (h : LL ls) (k : Nat) (hk : k ≤ 100) : Tx (jr k ls) ∧ (jr k ls).length ≤ 2820 := by
  have h1 := jr_tx ls k h.1 (by have := h.2; omega)
  have h2 := h.2
  exact ⟨⟨h1.1, by omega⟩, by omega⟩
def hdOf (k : Int) (l : List Nat) : List Nat := strI k ++ 32 :: (strI (chk l) ++ [32])
theorem recS_hd (k : Int) (l : List Nat) : recS k l = hdOf k l ++ (l ++ [10]) := by simp [recS, hdOf]
theorem split_at {α : Type} (ls : List α) {k : Nat} (h : k < ls.length) : ls = ls.take k ++ ls[k] :: ls.drop (k + 1) := by simp
/-- the call of lines_in with a bent line -/
theorem bad_told {ls : List (List Nat)} (h : LL ls) {k : Nat} (hk : k < ls.length) {l' : List Nat} (hl' : Pr l') (hne : chk l' ≠ chk (gs ls k)) : linesIn (jr 0 (ls.take k) ++ (hdOf ((k : Int) + 1) (gs ls k) ++ (l' ++ (10 :: jr (k + 1) (ls.drop (k + 1)))))) = ls.take k := by
  have e : hdOf ((k : Int) + 1) (gs ls k) ++ (l' ++ (10 :: jr (k + 1) (ls.drop (k + 1)))) = (strI ((k : Int) + 1) ++ 32 :: (strI (chk (gs ls k)) ++ 32 :: l')) ++ 10 :: jr (k + 1) (ls.drop (k + 1)) := by simp [hdOf]
  rw [e]
  have hlen : (ls.take k).length = k := by simp; omega
  refine linesIn_bad (fun l hl => h.1 l (List.mem_of_mem_take hl)) ?_ ?_
  · simp only [List.mem_append, List.mem_cons, not_or]
    exact ⟨strI_free (by omega) (.inl (by decide)), by decide, strI_free (chk_bound _).1 (.inl (by decide)), by decide, fun z => by have := hl' _ z; omega⟩
  · rw [hlen]
    exact lineIn_bad (by omega) hne
theorem spoilt_eq (ls : List (List Nat)) (dr : List Int) (h : LL ls) (hN : Nums 5040 dr) (hd : ls.length + 8 ≤ dr.length) (hd2 : dr.length ≤ 1000) : ∃ r, F tk fuel (n + 5) 14 [.fz (.lst (ls.map .str)), .fz (.lst (dr.map .int))] = .ok (.fz (.bl true)) r := by
  refine runF_ex (fun r => ∃ q, r = .ok (.fz (.bl true)) q) c__law_spoilt [some (.fz (.lst (ls.map .str))), some (.fz (.lst (dr.map .int))), none, none, none, none, none, none, none, none, none] (d := d__law_spoilt.cd) (defs := cdsOf ds) (i := 14) (os := [.fz (.lst (ls.map .str)), .fz (.lst (dr.map .int))]) rfl rfl rfl fun Fk m hFk => ?_
  have hsz := sizeN
  have h10 : ∀ ls, Ls ls → Fk 10 [.fz (.lst (ls.map .str))] = .ok (.fz (.str (jrn ls))) (some (.fz (.lst (ls.map .str)))) := by
    rw [hFk]; exact fun ls h => law_journal_eq (n := n + 1) ls h
  have h9 : ∀ (k : Int) (l : List Nat), 0 ≤ k → k < 1000000000 → Tx l → Fk 9 [.fz (.int k), .fz (.str l)] = .ok (.fz (.str (recS k l))) (some (.fz (.int k))) := by
    rw [hFk]; exact fun k l a b c => law_record_eq (n := n + 2) k l a b c
  have h12 : ∀ (c : Int) (cnt : Nat), c.natAbs.log2 ≤ 1048577 → cnt ≤ 100000 → ∃ t s, Fk 12 [.fz (.int c), .fz (.int cnt)] = .ok (.fz (.str t)) s ∧ Pr t ∧ t.length = cnt := by
    rw [hFk]; exact fun c cnt a b => signs_eq (n := n + 2) c cnt a b
  have h4 : ∀ s, Tx s → Fk 4 [.fz (.str s)] = .ok (.lst ((linesIn s).map .str)) (some (.fz (.str s))) := by
    rw [hFk]; exact fun s a => lines_in_eq (n := n) s a
  have h7 : ∀ l : List (List Nat), l.length ≤ 1000000 → ∃ s, Fk 7 [.fz (.lst (l.map .str)), .fz (.lst (l.map .str))] = .ok (.fz (.bl true)) s := by
    rw [hFk]; exact fun l a => same_strs (n := n + 2) l a
  clear hFk
  have hls := h.2
  let L : D := .lst (ls.map .str)
  let Rd : D := .lst (dr.map .int)
  let J : D := .str (jrn ls)
  -- the loop's body
  let telE : CE → CE := fun x => .call 7 2 (.cons (.call 4 1 (.cons x .nil)) (.cons (.slc (.var 0) (.some (.cst (.int 0))) (.some (.var 3))) .nil))
  let sg : CS := .for_ (.name 10) (.seq (.bin .add (.call 12 2 (.cons (.idx (.var 1) (.bin .add (.var 3) (.cst (.int 8)))) (.cons (.cst (.int 3)) .nil))) (.cst (.str [32, 126, 44]))))
      (.seq (.ite (.and (.cmp .ne (.var 10) (.idx (.var 4) (.var 5))) (.not (.val (telE (.bin .add (.bin .add (.bin .add (.bin .add (.bin .add (.bin .add (.var 6) (.var 9)) (.slc (.var 4) (.some (.cst (.int 0))) (.some (.var 5)))) (.var 10)) (.slc (.var 4) (.some (.bin .add (.var 5) (.cst (.int 1)))) .none)) (.cst (.str [10]))) (.var 8))))))
        (.seq (.ret (.cst (.bl false))) <| .nil)
        ( .nil)) <| .nil)
  let sw : CS := .ite (.and (.cmp .lt (.bin .add (.var 5) (.cst (.int 1))) (.bi .len (.cons (.var 4) .nil))) (.cmp .ne (.idx (.var 4) (.var 5)) (.idx (.var 4) (.bin .add (.var 5) (.cst (.int 1))))))
      (.seq (.ite (.not (.val (telE (.bin .add (.bin .add (.bin .add (.bin .add (.bin .add (.bin .add (.bin .add (.var 6) (.var 9)) (.slc (.var 4) (.some (.cst (.int 0))) (.some (.var 5)))) (.idx (.var 4) (.bin .add (.var 5) (.cst (.int 1))))) (.idx (.var 4) (.var 5))) (.slc (.var 4) (.some (.bin .add (.var 5) (.cst (.int 2)))) .none)) (.cst (.str [10]))) (.var 8)))))
        (.seq (.ret (.cst (.bl false))) <| .nil)
        ( .nil)) <| .nil)
      ( .nil)
  let blk : CS := .seq (.setF 5 (.bin .mod (.idx (.var 1) (.var 3)) (.bi .len (.cons (.var 4) .nil)))) <|
      .seq (.setF 6 (.call 10 1 (.cons (.slc (.var 0) (.some (.cst (.int 0))) (.some (.var 3))) .nil))) <|
      .seq (.setF 7 (.call 9 2 (.cons (.bin .add (.var 3) (.cst (.int 1))) (.cons (.var 4) .nil)))) <|
      .seq (.setF 8 (.slc (.var 2) (.some (.bin .add (.bi .len (.cons (.var 6) .nil)) (.bi .len (.cons (.var 7) .nil)))) .none)) <|
      .seq (.setF 9 (.slc (.var 7) (.some (.cst (.int 0))) (.some (.bin .sub (.bin .sub (.bi .len (.cons (.var 7) .nil)) (.cst (.int 1))) (.bi .len (.cons (.var 4) .nil)))))) <|
      .seq sg <| .seq sw .nil
  let bd : CS := .seq (.setF 4 (.idx (.var 0) (.var 3))) <| .seq (.ite (.cmp .gt (.bi .len (.cons (.var 4) .nil)) (.cst (.int 0))) blk .nil) .nil
  have step : ∀ k, k < ls.length → ∀ o4 o5 o6 o7 o8 o9 o10 : Option O, ∃ o4' o5' o6' o7' o8' o9' o10', m.S bd [some (.fz L), some (.fz Rd), some (.fz J), some (.fz (.int k)), o4, o5, o6, o7, o8, o9, o10] = .ok .nx [some (.fz L), some (.fz Rd), some (.fz J), some (.fz (.int k)), o4', o5', o6', o7', o8', o9', o10'] := by
    intro k hk o4 o5 o6 o7 o8 o9 o10
    have hl : Gl1 (gs ls k) := by rw [gs_lt hk]; exact h.1 _ (List.getElem_mem hk)
    have hll := hl.2
    have htx := hl.tx
    have ix : idxG L (.int (k : Int)) = some (.str (gs ls k)) := atI_gs hk (by omega)
    have hbad := @bad_told ls h k hk
    have hjr : jrn ls = jr 0 (ls.take k) ++ (recS ((k : Int) + 1) (gs ls k) ++ jr (k + 1) (ls.drop (k + 1))) := by
      rw [jrn_jr]
      conv => lhs; rw [split_at ls hk]
      have hlen : (ls.take k).length = k := by simp; omega
      rw [jr_app, hlen, gs_lt hk, Nat.zero_add]; rfl
    have hrow := recS_tx (k := (k : Int) + 1) (by omega) (by omega) hl
    have hB := (h.take k).jr 0 (by omega)
    have hR := (h.drop (k + 1)).jr (k + 1) (by omega)
    have hnk : Tx (jr 0 (ls.take k)) ∧ (jrn ls).length ≤ 6000 := ⟨hB.1, by rw [hjr]; simp; omega⟩
    have hhd := recS_hd ((k : Int) + 1) (gs ls k)
    have r10 := h10 (ls.take k) (h.take k).ls
    rw [jrn_jr] at r10
    have r9 := h9 ((k : Int) + 1) (gs ls k) (by omega) (by omega) htx
    have gk := hN.get (i := k) (by omega)
    have gk8 := hN.get (i := k + 8) (by omega)
    have ik : idxG Rd (.int (k : Int)) = some (.int (gi dr k)) := idx_gi (by omega) (by omega)
    have ik8 : idxG Rd (.int ((k : Int) + 8)) = some (.int (gi dr (k + 8))) := by have := idx_gi (l := dr) (i := k + 8) (by omega) (by omega); simpa using this
    have hsl : slcG L (some 0) (some (k : Int)) = some (.lst ((ls.take k).map .str)) := by
      show some (D.lst (cutD _ _ _)) = _
      rw [cut_0to, List.map_take]
    generalize hgs : gs ls k = l at *
    generalize hBe : jr 0 (ls.take k) = B at *
    generalize hRe : jr (k + 1) (ls.drop (k + 1)) = Rr at *
    generalize hre : recS ((k : Int) + 1) l = row at *
    generalize hhe : hdOf ((k : Int) + 1) l = Hd at *
    have h40 : m.S (.setF 4 (.idx (.var 0) (.var 3))) [some (.fz L), some (.fz Rd), some (.fz J), some (.fz (.int k)), o4, o5, o6, o7, o8, o9, o10] = .ok .nx [some (.fz L), some (.fz Rd), some (.fz J), some (.fz (.int k)), some (.fz (.str l)), o5, o6, o7, o8, o9, o10] :=
      mS_setF (Ev.idx (Ev.var (d := L) rfl) (Ev.var (d := .int k) rfl) ix)
    have lenl : lenG (.str l) = some (.int l.length) := lenG_str (by omega)
    have hgt : m.T (.cmp .gt (.bi .len (.cons (.var 4) .nil)) (.cst (.int 0))) [some (.fz L), some (.fz Rd), some (.fz J), some (.fz (.int k)), some (.fz (.str l)), o5, o6, o7, o8, o9, o10] = .ok (decide ((0 : Int) < l.length)) [some (.fz L), some (.fz Rd), some (.fz J), some (.fz (.int k)), some (.fz (.str l)), o5, o6, o7, o8, o9, o10] :=
      mT_cmp (Ev.len (Ev.var (d := .str l) rfl) lenl) (Ev.cst _) rfl
    by_cases hz : l.length = 0
    · refine ⟨some (.fz (.str l)), o5, o6, o7, o8, o9, o10, ?_⟩
      show m.S (.seq _ (.seq (.ite _ blk .nil) .nil)) _ = _
      rw [mS_seq_nx h40]
      refine mS_one ?_
      rw [mS_ite hgt, hz]
      exact mS_nil
    suffices hblk : ∃ o5' o6' o7' o8' o9' o10', m.S blk [some (.fz L), some (.fz Rd), some (.fz J), some (.fz (.int k)), some (.fz (.str l)), o5, o6, o7, o8, o9, o10] = .ok .nx [some (.fz L), some (.fz Rd), some (.fz J), some (.fz (.int k)), some (.fz (.str l)), o5', o6', o7', o8', o9', o10'] by
      obtain ⟨p5, p6, p7, p8, p9, p10, hb⟩ := hblk
      refine ⟨some (.fz (.str l)), p5, p6, p7, p8, p9, p10, ?_⟩
      show m.S (.seq _ (.seq (.ite _ blk .nil) .nil)) _ = _
      rw [mS_seq_nx h40]
      refine mS_one ?_
      rw [mS_ite hgt, decide_eq_true (by omega)]
      exact hb
    have q0 := fmod_in (x := gi dr k) (lim := (l.length : Int)) (by omega)
    obtain ⟨p, hp⟩ := Int.eq_ofNat_of_zero_le q0.1
    have m0 : modG (.int (gi dr k)) (.int (l.length : Int)) = some (.int (p : Int)) := by rw [modG_int (by omega), hp]
    have hpl : p < l.length := by omega
    have s5 : m.S (.setF 5 (.bin .mod (.idx (.var 1) (.var 3)) (.bi .len (.cons (.var 4) .nil)))) [some (.fz L), some (.fz Rd), some (.fz J), some (.fz (.int k)), some (.fz (.str l)), o5, o6, o7, o8, o9, o10] = .ok .nx [some (.fz L), some (.fz Rd), some (.fz J), some (.fz (.int k)), some (.fz (.str l)), some (.fz (.int p)), o6, o7, o8, o9, o10] :=
      mS_setF (Ev.bin (Ev.idx (Ev.var (d := Rd) rfl) (Ev.var (d := .int k) rfl) ik) (Ev.len (Ev.var (d := .str l) rfl) lenl) m0)
    have s6 : m.S (.setF 6 (.call 10 1 (.cons (.slc (.var 0) (.some (.cst (.int 0))) (.some (.var 3))) .nil))) [some (.fz L), some (.fz Rd), some (.fz J), some (.fz (.int k)), some (.fz (.str l)), some (.fz (.int p)), o6, o7, o8, o9, o10] = .ok .nx [some (.fz L), some (.fz Rd), some (.fz J), some (.fz (.int k)), some (.fz (.str l)), some (.fz (.int p)), some (.fz (.str B)), o7, o8, o9, o10] :=
      mS_setF (Ev.call (EvL.cons (Ev.slc (Ev.var (d := L) rfl) (op_some (Ev.cst (.int 0))) (op_some (Ev.var (d := .int k) rfl)) hsl) .nil) rfl r10)
    have s7 : m.S (.setF 7 (.call 9 2 (.cons (.bin .add (.var 3) (.cst (.int 1))) (.cons (.var 4) .nil)))) [some (.fz L), some (.fz Rd), some (.fz J), some (.fz (.int k)), some (.fz (.str l)), some (.fz (.int p)), some (.fz (.str B)), o7, o8, o9, o10] = .ok .nx [some (.fz L), some (.fz Rd), some (.fz J), some (.fz (.int k)), some (.fz (.str l)), some (.fz (.int p)), some (.fz (.str B)), some (.fz (.str row)), o8, o9, o10] :=
      mS_setF (Ev.call (EvL.cons (Ev.bin (Ev.var (d := .int k) rfl) (Ev.cst (.int 1)) rfl) (EvL.cons (Ev.var (d := .str l) rfl) .nil)) rfl r9)
    have cut8 : slcG J (some ((B.length : Int) + (row.length : Int))) none = some (.str Rr) := by
      show slcG (.str (jrn ls)) _ _ = _
      rw [slc_str (by omega), show (B.length : Int) + (row.length : Int) = ((B.length + row.length : Nat) : Int) by omega, cut_from, hjr]
      rw [← List.append_assoc, show B.length + row.length = (B ++ row).length by simp, List.drop_left]
    have s8 : m.S (.setF 8 (.slc (.var 2) (.some (.bin .add (.bi .len (.cons (.var 6) .nil)) (.bi .len (.cons (.var 7) .nil)))) .none)) [some (.fz L), some (.fz Rd), some (.fz J), some (.fz (.int k)), some (.fz (.str l)), some (.fz (.int p)), some (.fz (.str B)), some (.fz (.str row)), o8, o9, o10] = .ok .nx [some (.fz L), some (.fz Rd), some (.fz J), some (.fz (.int k)), some (.fz (.str l)), some (.fz (.int p)), some (.fz (.str B)), some (.fz (.str row)), some (.fz (.str Rr)), o9, o10] :=
      mS_setF (Ev.slc (Ev.var (d := J) rfl) (op_some (Ev.bin (Ev.len (Ev.var (d := .str B) rfl) (lenG_str (by omega))) (Ev.len (Ev.var (d := .str row) rfl) (lenG_str (by omega))) rfl)) op_none cut8)
    have hrl : row.length = Hd.length + (l.length + 1) := by rw [hhd]; simp
    have cut9 : slcG (.str row) (some 0) (some ((row.length : Int) - 1 - (l.length : Int))) = some (.str Hd) := by
      rw [slc_str (by omega), show (row.length : Int) - 1 - (l.length : Int) = ((Hd.length : Nat) : Int) by omega, cut_0to, hhd, List.take_left]
    have s9 : m.S (.setF 9 (.slc (.var 7) (.some (.cst (.int 0))) (.some (.bin .sub (.bin .sub (.bi .len (.cons (.var 7) .nil)) (.cst (.int 1))) (.bi .len (.cons (.var 4) .nil)))))) [some (.fz L), some (.fz Rd), some (.fz J), some (.fz (.int k)), some (.fz (.str l)), some (.fz (.int p)), some (.fz (.str B)), some (.fz (.str row)), some (.fz (.str Rr)), o9, o10] = .ok .nx [some (.fz L), some (.fz Rd), some (.fz J), some (.fz (.int k)), some (.fz (.str l)), some (.fz (.int p)), some (.fz (.str B)), some (.fz (.str row)), some (.fz (.str Rr)), some (.fz (.str Hd)), o10] :=
      mS_setF (Ev.slc (Ev.var (d := .str row) rfl) (op_some (Ev.cst (.int 0))) (op_some (Ev.bin (Ev.bin (Ev.len (Ev.var (d := .str row) rfl) (lenG_str (by omega))) (Ev.cst (.int 1)) rfl) (Ev.len (Ev.var (d := .str l) rfl) lenl) rfl)) cut9)
    let E : Option O → En := fun o => [some (.fz L), some (.fz Rd), some (.fz J), some (.fz (.int k)), some (.fz (.str l)), some (.fz (.int p)), some (.fz (.str B)), some (.fz (.str row)), some (.fz (.str Rr)), some (.fz (.str Hd)), o]
    have tel : ∀ (o : Option O) (x : CE) (l' : List Nat), Ev m x (E o) (.str (B ++ (Hd ++ (l' ++ (10 :: Rr))))) → Pr l' → l'.length ≤ 1000 → chk l' ≠ chk l → m.T (.not (.val (telE x))) (E o) = .ok false (E o) := by
      intro o x l' hx hpr hl' hne
      have hX : Tx (B ++ (Hd ++ (l' ++ (10 :: Rr)))) := by
        have hHd : Tx Hd := ⟨fun c hc => hrow.1.1 c (by rw [hhd]; exact List.mem_append_left _ hc), by omega⟩
        refine hB.1.app (hHd.app ((hpr.tx (by omega)).app ⟨fun c hc => ?_, by simp; omega⟩ (by simp; omega)) (by simp; omega)) (by simp; omega)
        rcases List.mem_cons.mp hc with rfl | hc
        · decide
        · exact hR.1.1 c hc
      have e4 := h4 _ hX
      rw [hbad hpr hne] at e4
      obtain ⟨s, e7⟩ := h7 (ls.take k) (by simp; omega)
      exact mT_not (mT_val (Ev.call (EvL.cons (Ev.callL (EvL.cons hx .nil) rfl e4) (EvL.cons (Ev.slc (Ev.var (d := L) rfl) (op_some (Ev.cst (.int 0))) (op_some (Ev.var (d := .int k) rfl)) hsl) .nil)) rfl e7) rfl)
    have hlsp : l = l.take p ++ gd l p :: l.drop (p + 1) := by rw [gd_lt hpl]; exact split_at l hpl
    have hgp := hl.1 (gd l p) (by rw [gd_lt hpl]; exact List.getElem_mem hpl)
    have ip : ∀ o, Ev m (.idx (.var 4) (.var 5)) (E o) (.str [gd l p]) := fun o => Ev.idx (Ev.var (d := .str l) rfl) (Ev.var (d := .int p) rfl) (by
      show (if l.length ≤ sizeLine then (atI l (p : Int)).map fun c => D.str [c] else none) = _
      rw [if_pos (by omega), atI_gd hpl (by omega)]; rfl)
    have cA : slcG (.str l) (some 0) (some (p : Int)) = some (.str (l.take p)) := by rw [slc_str (by omega), cut_0to]
    have cB : slcG (.str l) (some ((p : Int) + 1)) none = some (.str (l.drop (p + 1))) := by rw [slc_str (by omega), cut_from1]
    have cC : slcG (.str l) (some ((p : Int) + 2)) none = some (.str (l.drop (p + 2))) := by rw [slc_str (by omega), cut_from2]
    have lA : (l.take p).length ≤ 120 := by simp; omega
    have lB : (l.drop (p + 1)).length ≤ 120 := by simp; omega
    have lC : (l.drop (p + 2)).length ≤ 120 := by simp; omega
    have hHl : Hd.length ≤ 141 := by omega
    have hpa : Pr (l.take p) := fun c hc => hl.1 c (List.mem_of_mem_take hc)
    have hpb : Pr (l.drop (p + 1)) := fun c hc => hl.1 c (List.mem_of_mem_drop hc)
    have hpc : Pr (l.drop (p + 2)) := fun c hc => hl.1 c (List.mem_of_mem_drop hc)
    have hsg : ∀ o, ∃ o', m.S sg (E o) = .ok .nx (E o') := by
      intro o
      obtain ⟨t, s, e12, hPr, htl⟩ := h12 (gi dr (k + 8)) 3 (by
        have := log_lt (n := (gi dr (k + 8)).natAbs) (k := 13) (by decide) (by omega)
        omega) (by omega)
      have hcs : Pr (t ++ [32, 126, 44]) := fun c hc => by
        rcases List.mem_append.mp hc with hc | hc
        · exact hPr c hc
        · simp at hc; omega
      have hit : m.I (.seq (.bin .add (.call 12 2 (.cons (.idx (.var 1) (.bin .add (.var 3) (.cst (.int 8)))) (.cons (.cst (.int 3)) .nil))) (.cst (.str [32, 126, 44])))) (E o) = .ok ((t ++ [32, 126, 44]).map fun c => .str [c]) (E o) := by
        have hE : Ev m (.bin .add (.call 12 2 (.cons (.idx (.var 1) (.bin .add (.var 3) (.cst (.int 8)))) (.cons (.cst (.int 3)) .nil))) (.cst (.str [32, 126, 44]))) (E o) (.str (t ++ [32, 126, 44])) :=
          Ev.add (Ev.call (ds := [.int (gi dr (k + 8)), .int ((3 : Nat) : Int)]) (EvL.cons (Ev.idx (Ev.var (d := Rd) rfl) (Ev.bin (o := .add) (f := .int ((k : Int) + 8)) (Ev.var (d := .int k) rfl) (Ev.cst (.int 8)) rfl) ik8) (EvL.cons (Ev.cst (.int 3)) .nil)) rfl e12) (Ev.cst (.str [32, 126, 44])) (by simp; omega)
        rw [msI_seq, bnd_to hE.frz]
        rfl
      obtain ⟨ρ', hf, o', rfl⟩ := for_inv (g := tgM (.name 10)) (m := m.S (.seq (.ite (.and (.cmp .ne (.var 10) (.idx (.var 4) (.var 5))) (.not (.val (telE (.bin .add (.bin .add (.bin .add (.bin .add (.bin .add (.bin .add (.var 6) (.var 9)) (.slc (.var 4) (.some (.cst (.int 0))) (.some (.var 5)))) (.var 10)) (.slc (.var 4) (.some (.bin .add (.var 5) (.cst (.int 1)))) .none)) (.cst (.str [10]))) (.var 8))))))
        (.seq (.ret (.cst (.bl false))) <| .nil)
        ( .nil)) <| .nil)) (fun c : Nat => D.str [c]) (fun _ ρ => ∃ o, ρ = E o) (t ++ [32, 126, 44]) 0 (E o) ⟨o, rfl⟩ (fun j c ρ hj ⟨o, e⟩ => by
          subst e
          have hc := hcs c (List.mem_of_getElem? hj)
          refine ⟨E (some (.fz (.str [c]))), E (some (.fz (.str [c]))), rfl, ?_, _, rfl⟩
          refine mS_one ?_
          have v10 : Ev m (.var 10) (E (some (.fz (.str [c])))) (.str [c]) := Ev.var rfl
          have hT : m.T (.and (.cmp .ne (.var 10) (.idx (.var 4) (.var 5))) (.not (.val (telE (.bin .add (.bin .add (.bin .add (.bin .add (.bin .add (.bin .add (.var 6) (.var 9)) (.slc (.var 4) (.some (.cst (.int 0))) (.some (.var 5)))) (.var 10)) (.slc (.var 4) (.some (.bin .add (.var 5) (.cst (.int 1)))) .none)) (.cst (.str [10]))) (.var 8)))))) (E (some (.fz (.str [c])))) = .ok false (E (some (.fz (.str [c])))) := by
            by_cases hcp : c = gd l p
            · exact mT_and0 (mT_cmp v10 (ip _) (by rw [hcp]; simp [c2G]))
            · refine mT_and1 (mT_cmp (k := true) v10 (ip _) (by simp [c2G, hcp])) ?_
              refine tel _ _ (l.take p ++ c :: l.drop (p + 1)) ?_ ?_ (by simp at lA lB ⊢; omega) ?_
              · have e : B ++ (Hd ++ ((l.take p ++ c :: l.drop (p + 1)) ++ (10 :: Rr))) = B ++ Hd ++ l.take p ++ [c] ++ l.drop (p + 1) ++ [10] ++ Rr := by simp
                rw [e]
                have hB2 := hB.2
                have hR2 := hR.2
                exact Ev.add (Ev.add (Ev.add (Ev.add (Ev.add (Ev.add (Ev.var (d := .str B) rfl) (Ev.var (d := .str Hd) rfl) (by omega)) (Ev.slc (Ev.var (d := .str l) rfl) (op_some (Ev.cst (.int 0))) (op_some (Ev.var (d := .int p) rfl)) cA) (by simp only [List.length_append]; omega)) v10 (by simp only [List.length_append, List.length_singleton]; omega)) (Ev.slc (Ev.var (d := .str l) rfl) (op_some (Ev.bin (Ev.var (d := .int p) rfl) (Ev.cst (.int 1)) rfl)) op_none cB) (by simp only [List.length_append, List.length_singleton]; omega)) (Ev.cst (.str [10])) (by simp only [List.length_append, List.length_singleton]; omega)) (Ev.var (d := .str Rr) rfl) (by simp only [List.length_append, List.length_singleton]; omega)
              · intro z hz
                rcases List.mem_append.mp hz with hz | hz
                · exact hpa z hz
                · rcases List.mem_cons.mp hz with rfl | hz
                  · exact hc
                  · exact hpb z hz
              · conv => rhs; rw [hlsp]
                exact exch_ne (by omega) hgp hc hcp
          rw [mS_ite hT]
          exact mS_nil)
      refine ⟨o', ?_⟩
      show m.S (.for_ _ _ _) _ = _
      rw [msS_for, bnd_to hit]
      exact hf
    have hsw : ∀ o, m.S sw (E o) = .ok .nx (E o) := by
      intro o
      have hlt : m.T (.cmp .lt (.bin .add (.var 5) (.cst (.int 1))) (.bi .len (.cons (.var 4) .nil))) (E o) = .ok (decide ((p : Int) + 1 < l.length)) (E o) :=
        mT_cmp (Ev.bin (Ev.var (d := .int p) rfl) (Ev.cst (.int 1)) rfl) (Ev.len (Ev.var (d := .str l) rfl) lenl) rfl
      by_cases h1 : p + 1 < l.length
      · rw [decide_eq_true (by omega)] at hlt
        have ip1 : Ev m (.idx (.var 4) (.bin .add (.var 5) (.cst (.int 1)))) (E o) (.str [gd l (p + 1)]) := Ev.idx (Ev.var (d := .str l) rfl) (Ev.bin (Ev.var (d := .int p) rfl) (Ev.cst (.int 1)) rfl) (by
          show (if l.length ≤ sizeLine then (atI l ((p : Int) + 1)).map fun c => D.str [c] else none) = _
          rw [if_pos (by omega), show (p : Int) + 1 = ((p + 1 : Nat) : Int) by omega, atI_gd h1 (by omega)]; rfl)
        have hgq := hl.1 (gd l (p + 1)) (by rw [gd_lt h1]; exact List.getElem_mem h1)
        by_cases hq : gd l p = gd l (p + 1)
        · have hT := mT_and1 hlt (mT_cmp (o := .ne) (k := false) (ip o) ip1 (by simp [c2G, hq]))
          show m.S (.ite _ _ _) _ = _
          rw [mS_ite hT]
          exact mS_nil
        · have hT := mT_and1 hlt (mT_cmp (o := .ne) (k := true) (ip o) ip1 (by simp [c2G, hq]))
          show m.S (.ite _ _ _) _ = _
          rw [mS_ite hT, if_pos rfl]
          refine mS_one ?_
          have hdr : l.drop (p + 1) = gd l (p + 1) :: l.drop (p + 2) := by rw [gd_lt h1]; exact List.drop_eq_getElem_cons h1
          rw [mS_ite (tel o _ (l.take p ++ gd l (p + 1) :: gd l p :: l.drop (p + 2)) ?_ ?_ (by simp at lA lC ⊢; omega) ?_)]
          · exact mS_nil
          · have e : B ++ (Hd ++ ((l.take p ++ gd l (p + 1) :: gd l p :: l.drop (p + 2)) ++ (10 :: Rr))) = B ++ Hd ++ l.take p ++ [gd l (p + 1)] ++ [gd l p] ++ l.drop (p + 2) ++ [10] ++ Rr := by simp
            rw [e]
            have hB2 := hB.2
            have hR2 := hR.2
            exact Ev.add (Ev.add (Ev.add (Ev.add (Ev.add (Ev.add (Ev.add (Ev.var (d := .str B) rfl) (Ev.var (d := .str Hd) rfl) (by omega)) (Ev.slc (Ev.var (d := .str l) rfl) (op_some (Ev.cst (.int 0))) (op_some (Ev.var (d := .int p) rfl)) cA) (by simp only [List.length_append]; omega)) ip1 (by simp only [List.length_append, List.length_singleton]; omega)) (ip o) (by simp only [List.length_append, List.length_singleton]; omega)) (Ev.slc (Ev.var (d := .str l) rfl) (op_some (Ev.bin (Ev.var (d := .int p) rfl) (Ev.cst (.int 2)) rfl)) op_none cC) (by simp only [List.length_append, List.length_singleton]; omega)) (Ev.cst (.str [10])) (by simp only [List.length_append, List.length_singleton]; omega)) (Ev.var (d := .str Rr) rfl) (by simp only [List.length_append, List.length_singleton]; omega)
          · intro z hz
            rcases List.mem_append.mp hz with hz | hz
            · exact hpa z hz
            · rcases List.mem_cons.mp hz with rfl | hz
              · exact hgq
              · rcases List.mem_cons.mp hz with rfl | hz
                · exact hgp
                · exact hpc z hz
          · conv => rhs; rw [hlsp, hdr]
            exact swap_ne hgp hgq hq
      · rw [decide_eq_false (by omega)] at hlt
        show m.S (.ite _ _ _) _ = _
        rw [mS_ite (mT_and0 hlt)]
        exact mS_nil
    obtain ⟨o', hsg⟩ := hsg o10
    refine ⟨some (.fz (.int p)), some (.fz (.str B)), some (.fz (.str row)), some (.fz (.str Rr)), some (.fz (.str Hd)), o', ?_⟩
    show m.S (.seq _ (.seq _ (.seq _ (.seq _ (.seq _ (.seq sg (.seq sw .nil))))))) _ = _
    rw [mS_seq_nx s5, mS_seq_nx s6, mS_seq_nx s7, mS_seq_nx s8, mS_seq_nx s9, mS_seq_nx hsg]
    exact mS_one (hsw o')
  obtain ⟨ρ', hf, o3, o4, o5, o6, o7, o8, o9, o10, rfl⟩ := for_range (g := tgM (.name 3)) (m := m.S bd) (fun k ρ => ∃ o3 o4 o5 o6 o7 o8 o9 o10 : Option O, ρ = [some (.fz L), some (.fz Rd), some (.fz J), o3, o4, o5, o6, o7, o8, o9, o10]) ls.length [some (.fz L), some (.fz Rd), some (.fz J), none, none, none, none, none, none, none, none] ⟨_, _, _, _, _, _, _, _, rfl⟩ (fun j ρ hj ⟨o3, o4, o5, o6, o7, o8, o9, o10, e⟩ => by
    subst e
    obtain ⟨p4, p5, p6, p7, p8, p9, p10, hs⟩ := step j hj o4 o5 o6 o7 o8 o9 o10
    exact ⟨[some (.fz L), some (.fz Rd), some (.fz J), some (.fz (.int j)), o4, o5, o6, o7, o8, o9, o10], _, by simp [tgM, setM], hs, _, _, _, _, _, _, _, _, rfl⟩)
  have hfor : m.S (.for_ (.name 3) (.rng 1 (.cons (.bi .len (.cons (.var 0) .nil)) .nil)) bd) [some (.fz L), some (.fz Rd), some (.fz J), none, none, none, none, none, none, none, none] = .ok .nx [some (.fz L), some (.fz Rd), some (.fz J), o3, o4, o5, o6, o7, o8, o9, o10] := by
    rw [msS_for, bnd_to (mI_rng_ok m (n := ls.length) (EvL.cons (Ev.len (Ev.var (d := L) rfl) (by simp [L, lenG])) .nil) (by omega))]
    exact hf
  have hset : m.S (.setF 2 (.call 10 1 (.cons (.var 0) .nil))) [some (.fz L), some (.fz Rd), none, none, none, none, none, none, none, none, none] = .ok .nx [some (.fz L), some (.fz Rd), some (.fz J), none, none, none, none, none, none, none, none] :=
    mS_setF (Ev.call (EvL.cons (Ev.var (d := L) rfl) .nil) rfl (h10 ls h.ls))
  refine ⟨some (.fz L), ?_⟩
  show frOf (m.S (.seq (.setF 2 (.call 10 1 (.cons (.var 0) .nil))) (.seq (.for_ (.name 3) (.rng 1 (.cons (.bi .len (.cons (.var 0) .nil)) .nil)) bd) (.seq (.ret (.cst (.bl true))) .nil))) [some (.fz L), some (.fz Rd), none, none, none, none, none, none, none, none, none]) = _
  rw [mS_seq_nx hset, mS_seq_nx hfor]
  simp
end K67
set_option Elab.async false
set_option linter.all false
set_option maxRecDepth 100000
set_option maxHeartbeats 1000000
namespace K67
open PySem PySem.Spec L2 FW
variable {tk : Nat → Nat → Option Bool} {fuel n : Nat} {Fk : Fi} {m : Mn Fk tk fuel} {ρ : En}
def EvT (m : Mn Fk tk fuel) (e : CE) (ρ : En) : Prop := ∃ t, Ev m e ρ (.str t) ∧ Tx t
def EvTs (m : Mn Fk tk fuel) (es : CEs) (ρ : En) (k : Nat) : Prop := ∃ ts : List (List Nat), EvL m es ρ (ts.map .str) ∧ (∀ t ∈ ts, Tx t) ∧ ts.length = k
theorem EvTs.nil : EvTs m .nil ρ 0 := ⟨[], EvL.nil, fun _ h => (nomatch h), rfl⟩
theorem EvTs.cons {e : CE} {es : CEs} {k : Nat} (h : EvT m e ρ) (hs : EvTs m es ρ k) : EvTs m (.cons e es) ρ (k + 1) := by
  obtain ⟨t, h1, h2⟩ := h
  obtain ⟨ts, h3, h4, h5⟩ := hs
  refine ⟨t :: ts, EvL.cons h1 h3, fun x hx => ?_, by simp [h5]⟩
  rcases List.mem_cons.mp hx with rfl | hx
  · exact h2
  · exact h4 x hx
theorem EvT.cst {s : List Nat} (h : (s.all fun c => decide (c < 1000)) = true) (hl : s.length ≤ 1000) : EvT m (.cst (.str s)) ρ := ⟨s, Ev.cst _, fun c hc => by have := List.all_eq_true.mp h c hc; simp at this; omega, by omega⟩
theorem EvT.add {a b : CE} {x y : List Nat} (ha : Ev m a ρ (.str x)) (hb : Ev m b ρ (.str y)) (hx : Tx x) (hy : Tx y) (h : x.length + y.length ≤ 100000) : EvT m (.bin .add a b) ρ := ⟨_, Ev.add ha hb (by omega), hx.app hy h⟩
/-- rows of the journal -/
def RWs (l : List (List Nat)) : Prop := ∀ r ∈ l, Tx r ∧ r.length ≤ 142
theorem flat_len : ∀ (l : List (List Nat)), RWs l → l.flatten.length ≤ l.length * 142 ∧ ∀ c ∈ l.flatten, c < 1114112
  | [], _ => ⟨by simp, fun c hc => by simp at hc⟩
  | r :: l, h => by
    have h1 := h r List.mem_cons_self
    have h2 := flat_len l fun z hz => h z (List.mem_cons_of_mem _ hz)
    refine ⟨by rw [List.flatten_cons, List.length_append, List.length_cons, Nat.add_mul]; omega, fun c hc => ?_⟩
    rw [List.flatten_cons] at hc
    rcases List.mem_append.mp hc with hc | hc
    · exact h1.1.1 c hc
    · exact h2.2 c hc
theorem EvT.join {a : CE} {l : List (List Nat)} (ha : Ev m a ρ (.lst (l.map .str))) (hl : RWs l) (hn : l.length ≤ 200) : EvT m (.mth .join (.cst (.str [])) (.cons a .nil)) ρ := by
  have hf := flat_len l hl
  refine ⟨l.flatten, Ev.mth (Ev.cst (.str [])) (EvL.cons ha .nil) ?_, ⟨hf.2, by omega⟩⟩
  show joinG [] (.lst (l.map .str)) = _
  have := sum_le (fun x : List Nat => x.length) 142 l (fun x hx => (hl x hx).2)
  rw [joinG_map (by simp only [List.length_nil, Nat.mul_zero]; omega), joinL_nil]
theorem RWs.app {a b : List (List Nat)} (ha : RWs a) (hb : RWs b) : RWs (a ++ b) := fun r hr => (List.mem_append.mp hr).elim (ha r) (hb r)
theorem RWs.take {a : List (List Nat)} (ha : RWs a) (k : Nat) : RWs (a.take k) := fun r hr => ha r (List.mem_of_mem_take hr)
theorem RWs.drop {a : List (List Nat)} (ha : RWs a) (k : Nat) : RWs (a.drop k) := fun r hr => ha r (List.mem_of_mem_drop hr)
theorem EvLs.add {a b : CE} {x y : List (List Nat)} (ha : Ev m a ρ (.lst (x.map .str))) (hb : Ev m b ρ (.lst (y.map .str))) (h : x.length + y.length ≤ 100000) : Ev m (.bin .add a b) ρ (.lst ((x ++ y).map .str)) := by
  rw [List.map_append]
  exact Ev.bin ha hb (addG_lst (by rw [sizeN]; simp; omega))
theorem rows_ok : ∀ (ls : List (List Nat)) (k : Nat), (∀ l ∈ ls, Gl1 l) → k + ls.length ≤ 1000 → RWs ((rowsOf k ls).map (· ++ [10])) ∧ (rowsOf k ls).length = ls.length
  | [], k, _, _ => ⟨fun r hr => (nomatch hr), rfl⟩
  | l :: ls, k, h, hk => by
    simp at hk
    have h2 := rows_ok ls (k + 1) (fun z hz => h z (List.mem_cons_of_mem _ hz)) (by omega)
    have h1 := recS_tx (k := (k : Int) + 1) (by omega) (by omega) (h l List.mem_cons_self)
    rw [recS_row] at h1
    refine ⟨fun r hr => ?_, by simp [rowsOf, h2.2]⟩
    rcases List.mem_cons.mp hr with rfl | hr
    · exact ⟨h1.1, Nat.le_trans h1.2 (by decide)⟩
    · exact h2.1 r hr
theorem mS_setL {i : Nat} {es : CEs} {k : Nat} (h : EvTs m es ρ k) (hk : k ≤ 1000) : ∃ ts : List (List Nat), m.S (.set i (.lst es)) ρ = .ok .nx (ρ.set i (some (.lst (ts.map .str)))) ∧ (∀ t ∈ ts, Tx t) ∧ ts.length = k := by
  obtain ⟨ts, h1, h2, h3⟩ := h
  exact ⟨ts, mS_set (mO_lst h1 (by rw [sizeN]; simp; omega)), h2, h3⟩
theorem addL {i : Nat} {es : CEs} {k : Nat} {ts : List (List Nat)} (hi : ρ[i]? = some (some (.lst (ts.map .str)))) (hts : ∀ t ∈ ts, Tx t) (h : EvTs m es ρ k) (hk : ts.length + k ≤ 1000) : ∃ us : List (List Nat), m.O (.bin .add (.brw i) (.lst es)) ρ = .ok (.lst (us.map .str)) ρ ∧ (∀ t ∈ us, Tx t) ∧ us.length = ts.length + k := by
  obtain ⟨vs, h1, h2, h3⟩ := h
  refine ⟨ts ++ vs, ?_, fun t ht => (List.mem_append.mp ht).elim (hts t) (h2 t), by simp [h3]⟩
  rw [List.map_append]
  exact mO_addB hi (Ev.lst h1 (by rw [sizeN]; simp; omega)) (by simp; omega) (by rw [← List.map_append]; exact lfrees_str _)
theorem texts_eq (ls : List (List Nat)) (dr : List Int) (h : LL ls) (hN : Nums 5040 dr) (hd : 12 ≤ dr.length) (hd2 : dr.length ≤ 1000) : ∃ (ts : List (List Nat)) (r : Option O), F tk fuel (n + 5) 15 [.fz (.lst (ls.map .str)), .fz (.lst (dr.map .int))] = .ok (.lst (ts.map .str)) r ∧ ∀ t ∈ ts, Tx t := by
  refine runF_ex (fun r => ∃ (ts : List (List Nat)) (q : Option O), r = .ok (.lst (ts.map .str)) q ∧ ∀ t ∈ ts, Tx t) c__law_texts [some (.fz (.lst (ls.map .str))), some (.fz (.lst (dr.map .int))), none, none, none, none, none, none] (d := d__law_texts.cd) (defs := cdsOf ds) (i := 15) (os := [.fz (.lst (ls.map .str)), .fz (.lst (dr.map .int))]) rfl rfl rfl fun Fk m hFk => ?_
  have hsz := sizeN
  have h10 : ∀ ls, Ls ls → Fk 10 [.fz (.lst (ls.map .str))] = .ok (.fz (.str (jrn ls))) (some (.fz (.lst (ls.map .str)))) := by
    rw [hFk]; exact fun ls h => law_journal_eq (n := n + 1) ls h
  have h9 : ∀ (k : Int) (l : List Nat), 0 ≤ k → k < 1000000000 → Tx l → Fk 9 [.fz (.int k), .fz (.str l)] = .ok (.fz (.str (recS k l))) (some (.fz (.int k))) := by
    rw [hFk]; exact fun k l a b c => law_record_eq (n := n + 2) k l a b c
  have h13 : ∀ (s : List Nat) (a : Nat), Tx s → s.length ≤ 40000 → a + 2 < dr.length → ∃ t r, Fk 13 [.fz (.str s), .fz (.lst (dr.map .int)), .fz (.int a)] = .ok (.fz (.str t)) r ∧ Tx t := by
    rw [hFk]; exact fun s a h1 h2 h3 => bent_eq (n := n + 3) s dr a h1 h2 hN h3 hd2
  clear hFk
  have hls := h.2
  let L : D := .lst (ls.map .str)
  let Rd : D := .lst (dr.map .int)
  have hT := h.jr 0 (by omega)
  have hJ : jrn ls = jr 0 ls := jrn_jr ls
  have r10 := h10 ls h.ls
  rw [hJ] at r10
  have lenL : lenG L = some (.int ls.length) := by simp [L, lenG]
  have g0 : idxG Rd (.int 0) = some (.int (gi dr 0)) := idx_gi (i := 0) (by omega) (by omega)
  have g1 : idxG Rd (.int 1) = some (.int (gi dr 1)) := idx_gi (i := 1) (by omega) (by omega)
  have g3 : idxG Rd (.int 3) = some (.int (gi dr 3)) := idx_gi (i := 3) (by omega) (by omega)
  have q0 := fmod_in (x := gi dr 0) (lim := (ls.length : Int) + 1) (by omega)
  obtain ⟨a, ha⟩ := Int.eq_ofNat_of_zero_le q0.1
  have m0 : modG (.int (gi dr 0)) (.int ((ls.length : Int) + 1)) = some (.int (a : Int)) := by rw [modG_int (by omega), ha]
  have hal : a ≤ ls.length := by omega
  have hsl : slcG L (some 0) (some (a : Int)) = some (.lst ((ls.take a).map .str)) := by
    show some (D.lst (cutD _ _ _)) = _
    rw [cut_0to, List.map_take]
  have r10' := h10 (ls.take a) (h.take a).ls
  rw [jrn_jr] at r10'
  have hB := (h.take a).jr 0 (by omega)
  have hrow := rows_ok ls 0 h.1 (by omega)
  have hsp : (sp 10 (jr 0 ls)).dropLast = rowsOf 0 ls := by
    have := sp_jr ls 0 [] h.1
    rw [List.append_nil] at this
    rw [this, show sp 10 [] = [[]] from rfl, List.dropLast_append_of_ne_nil (by simp)]
    simp
  have hspl := splitG_eq (c := 10) (s := jr 0 ls) (by decide) (by omega)
  generalize hTe : jr 0 ls = T at *
  generalize hBe : jr 0 (ls.take a) = B at *
  generalize hRW : rowsOf 0 ls = rw0 at *
  let RW : List (List Nat) := rw0.map (· ++ [10])
  have hRWl : RW.length ≤ 20 := by simp [RW, hrow.2]; exact hls
  have hRWs : RWs RW := hrow.1
  have s2 : m.S (.setF 2 (.call 10 1 (.cons (.var 0) .nil))) [some (.fz L), some (.fz Rd), none, none, none, none, none, none] = .ok .nx [some (.fz L), some (.fz Rd), some (.fz (.str T)), none, none, none, none, none] :=
    mS_setF (Ev.call (EvL.cons (Ev.var (d := L) rfl) .nil) rfl r10)
  have s3 : m.S (.setF 3 (.bin .mod (.idx (.var 1) (.cst (.int 0))) (.bin .add (.bi .len (.cons (.var 0) .nil)) (.cst (.int 1))))) [some (.fz L), some (.fz Rd), some (.fz (.str T)), none, none, none, none, none] = .ok .nx [some (.fz L), some (.fz Rd), some (.fz (.str T)), some (.fz (.int a)), none, none, none, none] :=
    mS_setF (Ev.bin (Ev.idx (Ev.var (d := Rd) rfl) (Ev.cst (.int 0)) g0) (Ev.bin (f := .int ((ls.length : Int) + 1)) (Ev.len (Ev.var (d := L) rfl) lenL) (Ev.cst (.int 1)) rfl) m0)
  have s4 : m.S (.setF 4 (.call 10 1 (.cons (.slc (.var 0) (.some (.cst (.int 0))) (.some (.var 3))) .nil))) [some (.fz L), some (.fz Rd), some (.fz (.str T)), some (.fz (.int a)), none, none, none, none] = .ok .nx [some (.fz L), some (.fz Rd), some (.fz (.str T)), some (.fz (.int a)), some (.fz (.str B)), none, none, none] :=
    mS_setF (Ev.call (EvL.cons (Ev.slc (Ev.var (d := L) rfl) (op_some (Ev.cst (.int 0))) (op_some (Ev.var (d := .int a) rfl)) hsl) .nil) rfl r10')
  have s5 : m.S (.setF 5 (.comp [("row", 7)] (.seq (.slc (.mth .split (.var 2) (.cons (.cst (.str [10])) .nil)) .none (.some (.neg (.cst (.int 1)))))) (.name 7) .yes (.bin .add (.var 7) (.cst (.str [10]))))) [some (.fz L), some (.fz Rd), some (.fz (.str T)), some (.fz (.int a)), some (.fz (.str B)), none, none, none] = .ok .nx [some (.fz L), some (.fz Rd), some (.fz (.str T)), some (.fz (.int a)), some (.fz (.str B)), some (.fz (.lst (RW.map .str))), none, none] := by
    have hmem : ∀ r ∈ rw0, r.length ≤ 141 := fun r hr => by
      have := (hRWs (r ++ [10]) (List.mem_map_of_mem hr)).2
      simp at this; omega
    have hrl : rw0.length ≤ 20 := by simpa [RW] using hRWl
    have hE : Ev m (.slc (.mth .split (.var 2) (.cons (.cst (.str [10])) .nil)) .none (.some (.neg (.cst (.int 1))))) [some (.fz L), some (.fz Rd), some (.fz (.str T)), some (.fz (.int a)), some (.fz (.str B)), none, none, none] (.lst (rw0.map .str)) :=
      Ev.slc (Ev.mth (mi := .split) (Ev.var (d := .str T) rfl) (EvL.cons (Ev.cst (.str [10])) .nil) hspl) op_none (op_some (i := -1) (Ev.of (by simp [negG]))) (by
        show some (D.lst (cutD _ _ _)) = _
        rw [cut_last, ← List.map_dropLast, hsp])
    refine mS_setF (Ev.of (d := .lst (RW.map .str)) ?_)
    rw [msO_comp, compM_map (ρ1 := [some (.fz L), some (.fz Rd), some (.fz (.str T)), some (.fz (.int a)), some (.fz (.str B)), none, none, none]) rw0 (fun r => .str r) (fun r => .str (r ++ [10]))]
    · simp [restE, wipeE, RW]
    · rw [msI_seq, bnd_to hE.frz]; rfl
    · intro r hr
      have := hmem r hr
      refine ⟨[some (.fz L), some (.fz Rd), some (.fz (.str T)), some (.fz (.int a)), some (.fz (.str B)), none, none, some (.fz (.str r))], ?_, by simp [wipeE]⟩
      have ha1 : addG (.str r) (.str [10]) = some (.str (r ++ [10])) := addG_str (by simp; omega)
      simp [compStep, tgM, setM, wipeE, b2G, ha1]
    · omega
  have s5n : RW.length = rw0.length := by simp [RW]
  clear_value RW
  let E : Option O → En := fun o => [some (.fz L), some (.fz Rd), some (.fz (.str T)), some (.fz (.int a)), some (.fz (.str B)), some (.fz (.lst (RW.map .str))), o, none]
  have vT : ∀ o, Ev m (.var 2) (E o) (.str T) := fun o => Ev.var rfl
  have vB : ∀ o, Ev m (.var 4) (E o) (.str B) := fun o => Ev.var rfl
  have vR : ∀ o, Ev m (.var 5) (E o) (.lst (RW.map .str)) := fun o => Ev.var rfl
  have va : ∀ o, Ev m (.var 3) (E o) (.int a) := fun o => Ev.var rfl
  have vd : ∀ o, Ev m (.var 1) (E o) Rd := fun o => Ev.var rfl
  have lT : lenG (.str T) = some (.int T.length) := lenG_str (by have := hT.2; omega)
  have lB : lenG (.str B) = some (.int B.length) := lenG_str (by have := hB.2; omega)
  have va1 : ∀ o, Ev m (.bin .add (.var 3) (.cst (.int 1))) (E o) (.int ((a : Int) + 1)) := fun o => Ev.bin (va o) (Ev.cst (.int 1)) rfl
  have va2 : ∀ o, Ev m (.bin .add (.var 3) (.cst (.int 2))) (E o) (.int ((a : Int) + 2)) := fun o => Ev.bin (va o) (Ev.cst (.int 2)) rfl
  have hT2 := hT.2
  have hB2 := hB.2
  -- slices of the rows
  have rTo : ∀ o, Ev m (.slc (.var 5) (.some (.cst (.int 0))) (.some (.var 3))) (E o) (.lst ((RW.take a).map .str)) := fun o => Ev.slc (vR o) (op_some (Ev.cst (.int 0))) (op_some (va o)) (by
    show some (D.lst (cutD _ _ _)) = _
    rw [cut_0to, List.map_take])
  have rF : ∀ o, Ev m (.slc (.var 5) (.some (.var 3)) .none) (E o) (.lst ((RW.drop a).map .str)) := fun o => Ev.slc (vR o) (op_some (va o)) op_none (by
    show some (D.lst (cutD _ _ _)) = _
    rw [cut_from, List.map_drop])
  have rF1 : ∀ o, Ev m (.slc (.var 5) (.some (.bin .add (.var 3) (.cst (.int 1)))) .none) (E o) (.lst ((RW.drop (a + 1)).map .str)) := fun o => Ev.slc (vR o) (op_some (va1 o)) op_none (by
    show some (D.lst (cutD _ _ _)) = _
    rw [cut_from1, List.map_drop])
  have rF2 : ∀ o, Ev m (.slc (.var 5) (.some (.bin .add (.var 3) (.cst (.int 2)))) .none) (E o) (.lst ((RW.drop (a + 2)).map .str)) := fun o => Ev.slc (vR o) (op_some (va2 o)) op_none (by
    show some (D.lst (cutD _ _ _)) = _
    rw [cut_from2, List.map_drop])
  have r01 : ∀ o, Ev m (.slc (.var 5) (.some (.var 3)) (.some (.bin .add (.var 3) (.cst (.int 1))))) (E o) (.lst (((RW.drop a).take 1).map .str)) := fun o => Ev.slc (vR o) (op_some (va o)) (op_some (va1 o)) (by
    show some (D.lst (cutD _ _ _)) = _
    rw [show (a : Int) + 1 = ((a + 1 : Nat) : Int) by omega, cut_mid, List.map_take, List.map_drop, show a + 1 - a = 1 by omega])
  have r12 : ∀ o, Ev m (.slc (.var 5) (.some (.bin .add (.var 3) (.cst (.int 1)))) (.some (.bin .add (.var 3) (.cst (.int 2))))) (E o) (.lst (((RW.drop (a + 1)).take 1).map .str)) := fun o => Ev.slc (vR o) (op_some (va1 o)) (op_some (va2 o)) (by
    show some (D.lst (cutD _ _ _)) = _
    rw [show (a : Int) + 1 = ((a + 1 : Nat) : Int) by omega, show (a : Int) + 2 = ((a + 2 : Nat) : Int) by omega, cut_mid, List.map_take, List.map_drop, show a + 2 - (a + 1) = 1 by omega])
  have tl : ∀ k, (RW.take k).length ≤ 20 := fun k => by simp; omega
  have dl : ∀ k, (RW.drop k).length ≤ 20 := fun k => by simp; omega
  have dl1 : ∀ k, ((RW.drop k).take 1).length ≤ 20 := fun k => by simp; omega
  -- the tail of the text
  have tB : ∀ o, Ev m (.slc (.var 2) (.some (.bi .len (.cons (.var 4) .nil))) .none) (E o) (.str (T.drop B.length)) := fun o => Ev.slc (vT o) (op_some (Ev.len (vB o) lB)) op_none (by rw [slc_str (by omega), cut_from])
  have tBt : Tx (T.drop B.length) := hT.1.drop _
  have tBl : (T.drop B.length).length ≤ 2820 := by simp; omega
  have one : ∀ c, c < 1000 → Tx [c] := fun c hc => Tx.one hc
  -- the first list
  have q1 := fmod_in (x := gi dr 1) (lim := (T.length : Int) + 1) (by omega)
  obtain ⟨b, hb⟩ := Int.eq_ofNat_of_zero_le q1.1
  have m1 : modG (.int (gi dr 1)) (.int ((T.length : Int) + 1)) = some (.int (b : Int)) := by rw [modG_int (by omega), hb]
  have e1 : ∀ o, EvT m (.slc (.var 2) (.some (.cst (.int 0))) (.some (.bin .mod (.idx (.var 1) (.cst (.int 1))) (.bin .add (.bi .len (.cons (.var 2) .nil)) (.cst (.int 1)))))) (E o) := fun o =>
    ⟨T.take b, Ev.slc (vT o) (op_some (Ev.cst (.int 0))) (op_some (Ev.bin (Ev.idx (vd o) (Ev.cst (.int 1)) g1) (Ev.bin (f := .int ((T.length : Int) + 1)) (Ev.len (vT o) lT) (Ev.cst (.int 1)) rfl) m1)) (by rw [slc_str (by omega), cut_0to]), hT.1.take b⟩
  obtain ⟨q, hq⟩ : ∃ q : Nat, maxI 0 ((B.length : Int) - 1) = (q : Int) := ⟨(maxI 0 ((B.length : Int) - 1)).toNat, by
    rw [Int.toNat_of_nonneg]
    unfold maxI; split <;> omega⟩
  have e2 : ∀ o, EvT m (.slc (.var 4) (.some (.cst (.int 0))) (.some (.bi .max2 (.cons (.cst (.int 0)) (.cons (.bin .sub (.bi .len (.cons (.var 4) .nil)) (.cst (.int 1))) .nil))))) (E o) := fun o =>
    ⟨B.take q, Ev.slc (vB o) (op_some (Ev.cst (.int 0))) (op_some (Ev.bi (f := .int (q : Int)) (EvL.cons (Ev.cst (.int 0)) (EvL.cons (Ev.bin (f := .int ((B.length : Int) - 1)) (Ev.len (vB o) lB) (Ev.cst (.int 1)) rfl) .nil)) (by show some (D.int (maxI 0 ((B.length : Int) - 1))) = _; rw [hq]))) (by rw [slc_str (by omega), cut_0to]), hB.1.take q⟩
  have cc : ∀ (o : Option O) (s : List Nat), (s.all fun c => decide (c < 1000)) = true → s.length ≤ 1000 → EvT m (.cst (.str s)) (E o) := fun o s h1 h2 => EvT.cst h1 h2
  have jn1 : ∀ o, EvT m (.mth .join (.cst (.str [])) (.cons (.rev (.var 5)) .nil)) (E o) := fun o => EvT.join (l := RW.reverse) (by rw [List.map_reverse]; exact Ev.rev (vR o)) (fun r hr => hRWs r (List.mem_reverse.mp hr)) (by simp; omega)
  have jn2 : ∀ o, EvT m (.mth .join (.cst (.str [])) (.cons (.bin .add (.slc (.var 5) (.some (.cst (.int 0))) (.some (.var 3))) (.slc (.var 5) (.some (.bin .add (.var 3) (.cst (.int 1)))) .none)) .nil)) (E o) := fun o => by
    have := tl a; have := dl (a + 1)
    exact EvT.join (EvLs.add (rTo o) (rF1 o) (by omega)) ((hRWs.take a).app (hRWs.drop (a + 1))) (by simp only [List.length_append]; omega)
  have jn3 : ∀ o, EvT m (.mth .join (.cst (.str [])) (.cons (.bin .add (.bin .add (.slc (.var 5) (.some (.cst (.int 0))) (.some (.var 3))) (.slc (.var 5) (.some (.var 3)) (.some (.bin .add (.var 3) (.cst (.int 1)))))) (.slc (.var 5) (.some (.var 3)) .none)) .nil)) (E o) := fun o => by
    have := tl a; have := dl a; have := dl1 a
    exact EvT.join (EvLs.add (EvLs.add (rTo o) (r01 o) (by omega)) (rF o) (by simp only [List.length_append]; omega)) (((hRWs.take a).app ((hRWs.drop a).take 1)).app (hRWs.drop a)) (by simp only [List.length_append]; omega)
  have jn4 : ∀ o, EvT m (.mth .join (.cst (.str [])) (.cons (.bin .add (.bin .add (.bin .add (.slc (.var 5) (.some (.cst (.int 0))) (.some (.var 3))) (.slc (.var 5) (.some (.bin .add (.var 3) (.cst (.int 1)))) (.some (.bin .add (.var 3) (.cst (.int 2)))))) (.slc (.var 5) (.some (.var 3)) (.some (.bin .add (.var 3) (.cst (.int 1)))))) (.slc (.var 5) (.some (.bin .add (.var 3) (.cst (.int 2)))) .none)) .nil)) (E o) := fun o => by
    have := tl a; have := dl (a + 2); have := dl1 a; have := dl1 (a + 1)
    exact EvT.join (EvLs.add (EvLs.add (EvLs.add (rTo o) (r12 o) (by omega)) (r01 o) (by simp only [List.length_append]; omega)) (rF2 o) (by simp only [List.length_append]; omega)) ((((hRWs.take a).app ((hRWs.drop (a + 1)).take 1)).app ((hRWs.drop a).take 1)).app (hRWs.drop (a + 2))) (by simp only [List.length_append]; omega)
  -- the lists, one behind another
  obtain ⟨t1, k1, w1, n1⟩ := mS_setL (m := m) (ρ := E none) (i := 6) (EvTs.cons ⟨T, vT none, hT.1⟩ (EvTs.cons (e1 none) (EvTs.cons (EvT.add (vB none) (vT none) hB.1 hT.1 (by omega)) (EvTs.cons (EvT.add (vT none) (Ev.cst (.str [10])) hT.1 (one 10 (by decide)) (by simp; omega)) (EvTs.cons (cc none [] rfl (by decide)) (EvTs.cons (e2 none) (EvTs.cons (jn1 none) (EvTs.cons (jn2 none) EvTs.nil)))))))) (by decide)
  let F1 : Option O := some (.lst (t1.map .str))
  have sa : strG1 (.int ((a : Int) + 1)) = some (.str (strI ((a : Int) + 1))) := strG1_int (by omega)
  have sal := strI_len (i := (a : Int) + 1) (by omega) (by omega)
  have sat : Tx (strI ((a : Int) + 1)) := ⟨fun c hc => Classical.byContradiction fun hge => strI_free (i := (a : Int) + 1) (by omega) (c := c) (.inr (by omega)) hc, by omega⟩
  have ins : ∀ (o : Option O) (c : Nat), c < 1000 → EvT m (.bin .add (.bin .add (.var 4) (.cst (.str [c]))) (.slc (.var 2) (.some (.bi .len (.cons (.var 4) .nil))) .none)) (E o) := fun o c hc =>
    EvT.add (Ev.add (vB o) (Ev.cst (.str [c])) (by simp; omega)) (tB o) (hB.1.app (one c hc) (by simp; omega)) tBt (by simp only [List.length_append, List.length_singleton]; omega)
  obtain ⟨t2, k2, w2, n2⟩ := addL (m := m) (ρ := E F1) (i := 6) (ts := t1) rfl w1 (EvTs.cons (ins F1 48 (by decide)) (EvTs.cons (ins F1 32 (by decide)) (EvTs.cons (EvT.add (Ev.add (vB F1) (Ev.bi (b := .str) (EvL.cons (va1 F1) .nil) sa) (by omega)) (Ev.cst (.str [32, 48, 32, 10])) (hB.1.app sat (by omega)) ⟨by decide, by decide⟩ (by simp only [List.length_append]; simp; omega))
    (EvTs.cons (cc F1 [49, 32, 48, 32, 10] (by decide) (by decide)) (EvTs.cons (cc F1 [49, 32, 48, 10] (by decide) (by decide)) (EvTs.cons (cc F1 [49, 32, 57, 55, 32, 97, 10] (by decide) (by decide)) (EvTs.cons (cc F1 [49, 32, 48, 57, 55, 32, 97, 10] (by decide) (by decide)) (EvTs.cons (cc F1 [49, 32, 57, 56, 32, 97, 10] (by decide) (by decide)) (EvTs.cons (cc F1 [48, 49, 32, 57, 55, 32, 97, 10] (by decide) (by decide)) EvTs.nil))))))))) (by omega)
  let F2 : Option O := some (.lst (t2.map .str))
  obtain ⟨t3, k3, w3, n3⟩ := addL (m := m) (ρ := E F2) (i := 6) (ts := t2) rfl w2 (EvTs.cons (cc F2 [50, 32, 57, 55, 32, 97, 10] (by decide) (by decide)) (EvTs.cons (cc F2 [49, 32, 50, 57, 51, 32, 97, 98, 10] (by decide) (by decide)) (EvTs.cons (cc F2 [49, 32, 57, 55, 32, 97] (by decide) (by decide)) (EvTs.cons (cc F2 [49, 32, 57, 55, 32, 32, 97, 10] (by decide) (by decide)) (EvTs.cons (cc F2 [32, 32, 10] (by decide) (by decide)) EvTs.nil))))) (by omega)
  let F3 : Option O := some (.lst (t3.map .str))
  obtain ⟨t4, k4, w4, n4⟩ := addL (m := m) (ρ := E F3) (i := 6) (ts := t3) rfl w3 (EvTs.cons (jn3 F3) (EvTs.cons (jn4 F3) EvTs.nil)) (by omega)
  let F4 : Option O := some (.lst (t4.map .str))
  -- one that is too long
  have q3 := fmod_in (x := gi dr 3) (lim := 3) (by decide)
  obtain ⟨c, hc⟩ := Int.eq_ofNat_of_zero_le q3.1
  have m3 : modG (.int (gi dr 3)) (.int 3) = some (.int (c : Int)) := by rw [modG_int (by decide), hc]
  have rp : mulG (.str [97]) (.int (399 + (c : Int))) = some (.str (List.replicate (399 + c) [97]).flatten) := by
    have e : repOk 1 (399 + (c : Int)) = true := by
      unfold repOk
      rw [hsz]
      simp
      omega
    show (if repOk 1 (399 + (c : Int)) = true then _ else none) = _
    rw [if_pos e, show (399 + (c : Int)).toNat = 399 + c by omega]
  have rpt : Tx (List.replicate (399 + c) [97]).flatten ∧ (List.replicate (399 + c) [97]).flatten.length = 399 + c := by
    have : ∀ k, (List.replicate k ([97] : List Nat)).flatten = List.replicate k 97 := by
      intro k
      induction k with
      | zero => rfl
      | succ k ih => rw [List.replicate_succ, List.flatten_cons, ih]; rfl
    rw [this]
    exact ⟨⟨fun x hx => by rw [List.eq_of_mem_replicate hx]; decide, by simp; omega⟩, by simp⟩
  generalize (List.replicate (399 + c) [97]).flatten = lg at rp rpt
  have rcl := recS_len (k := (a : Int) + 1) (by omega) (by omega) lg
  have rcT : ∀ {k : Int} {l : List Nat}, 0 ≤ k → k < 1000000000 → Tx l → l.length ≤ 1000 → Tx (recS k l) := fun {k l} h0 hk hl hln => by
    have h1 := recS_len h0 hk l
    refine ⟨fun c hc => ?_, by omega⟩
    have dig : ∀ {i : Int}, 0 ≤ i → ∀ c ∈ strI i, c < 1114112 := fun {i} hi c hc => Classical.byContradiction fun hge => strI_free hi (c := c) (.inr (by omega)) hc
    unfold recS at hc
    simp only [List.mem_append, List.mem_singleton] at hc
    rcases hc with hc | hc | hc | hc | hc | hc
    · exact dig h0 c hc
    · omega
    · exact dig (chk_bound l).1 c hc
    · omega
    · exact hl.1 c hc
    · omega
  have hbT : Tx [98] := one 98 (by decide)
  have rcl2 := recS_len (k := (a : Int) + 2) (by omega) (by omega) [98]
  have rc1 : Tx (recS ((a : Int) + 1) lg) := rcT (by omega) (by omega) rpt.1 (by omega)
  have rc2 : Tx (recS ((a : Int) + 2) [98]) := rcT (by omega) (by omega) hbT (by simp)
  obtain ⟨lt, ek, wt5⟩ : EvT m (.bin .add (.bin .add (.var 4) (.call 9 2 (.cons (.bin .add (.var 3) (.cst (.int 1))) (.cons (.bin .mul (.cst (.str [97])) (.bin .add (.cst (.int 399)) (.bin .mod (.idx (.var 1) (.cst (.int 3))) (.cst (.int 3))))) .nil)))) (.call 9 2 (.cons (.bin .add (.var 3) (.cst (.int 2))) (.cons (.cst (.str [98])) .nil)))) (E F4) :=
    EvT.add (Ev.add (vB F4) (Ev.call (EvL.cons (va1 F4) (EvL.cons (Ev.bin (Ev.cst (.str [97])) (Ev.bin (f := .int (399 + (c : Int))) (Ev.cst (.int 399)) (Ev.bin (Ev.idx (vd F4) (Ev.cst (.int 3)) g3) (Ev.cst (.int 3)) m3) rfl) rp) .nil)) rfl (h9 _ _ (by omega) (by omega) rpt.1)) (by omega))
      (Ev.call (EvL.cons (va2 F4) (EvL.cons (Ev.cst (.str [98])) .nil)) rfl (h9 _ _ (by omega) (by omega) hbT)) (hB.1.app rc1 (by omega)) rc2 (by simp only [List.length_append, List.length_singleton] at rcl2 ⊢; omega)
  have k5 := mS_app (m := m) (ρ := E F4) (i := 6) (l := t4.map .str) rfl ek (by simp; omega)
  let t5 : List (List Nat) := t4 ++ [lt]
  have w5 : ∀ t ∈ t5, Tx t := fun t ht => (List.mem_append.mp ht).elim (w4 t) fun z => by rw [List.mem_singleton.mp z]; exact wt5
  have n5 : t5.length = t4.length + 1 := by simp [t5]
  let F5 : Option O := some (.lst (t5.map .str))
  have e5 : (E F4).set 6 (some (.lst (t4.map .str ++ [.str lt]))) = E F5 := by simp [E, F5, t5]
  rw [e5] at k5
  have bt : ∀ (o : Option O) (j : Nat), j + 2 < dr.length → EvT m (.call 13 3 (.cons (.var 2) (.cons (.var 1) (.cons (.cst (.int (j : Int))) .nil)))) (E o) := fun o j hj => by
    obtain ⟨t, r, e, ht⟩ := h13 T j hT.1 (by omega) hj
    exact ⟨t, Ev.call (EvL.cons (vT o) (EvL.cons (vd o) (EvL.cons (Ev.cst (.int j)) .nil))) rfl e, ht⟩
  obtain ⟨t6, k6, w6, n6⟩ := addL (m := m) (ρ := E F5) (i := 6) (ts := t5) rfl w5 (EvTs.cons (bt F5 2 (by omega)) (EvTs.cons (bt F5 5 (by omega)) (EvTs.cons (bt F5 8 (by omega)) EvTs.nil))) (by omega)
  refine ⟨t6, some (.fz L), ?_, w6⟩
  show frOf (m.S (.seq _ (.seq _ (.seq _ (.seq _ (.seq (.set 6 _) (.seq (.set 6 _) (.seq (.set 6 _) (.seq (.set 6 _) (.seq (.app 6 _) (.seq (.ret _) .nil)))))))))) _) = _
  rw [mS_seq_nx s2, mS_seq_nx s3, mS_seq_nx s4, mS_seq_nx s5]
  rw [mS_seq_nx (ρ1 := E F1) k1, mS_seq_nx (ρ1 := E F2) (mS_set k2), mS_seq_nx (ρ1 := E F3) (mS_set k3), mS_seq_nx (ρ1 := E F4) (mS_set k4), mS_seq_nx k5]
  exact (congrArg frOf (mS_one (mS_ret k6))).trans rfl
end K67
set_option Elab.async false
set_option linter.all false
set_option maxRecDepth 100000
set_option maxHeartbeats 1000000
namespace K67
open PySem PySem.Spec L2 FW
variable {tk : Nat → Nat → Option Bool} {fuel n : Nat}
theorem shaped_strs : ∀ (l : List (List Nat)), (∀ s ∈ l, Tx s) → ∃ ps, toPy.toPys (l.map .str) = some ps ∧ PyData.canLayAll0 ps = true ∧ PyData.depthAll ps = 0
  | [], _ => ⟨[], rfl, rfl, rfl⟩
  | a :: l, h => by
    obtain ⟨ps, h1, h2, h3⟩ := shaped_strs l fun z hz => h z (List.mem_cons_of_mem _ hz)
    have ha := h a List.mem_cons_self
    refine ⟨.str ⟨a.toArray⟩ :: ps, ?_, ?_, ?_⟩
    · rw [List.map_cons, toPy.toPys, h1]; rfl
    · have : PyData.strOk ⟨a.toArray⟩ = true := by
        unfold PyData.strOk
        simp
        exact fun x hx => ha.1 x hx
      simp [PyData.canLayAll0, PyData.canLay0, this, h2]
    · simp [PyData.depthAll, PyData.depth, h3]
theorem ne_self (l : List (List Nat)) (h : ∀ s ∈ l, Tx s) : neG (.lst (l.map .str)) (.lst (l.map .str)) = some (.bl false) := by
  obtain ⟨ps, h1, h2, h3⟩ := shaped_strs l h
  have e : toPy (.lst (l.map .str)) = some (.list ps) := by
    show (toPy.toPys (l.map .str)).map PyData.list = _
    rw [h1]; rfl
  have hs : SeqAt.shaped (.list ps) = true := by
    unfold SeqAt.shaped
    simp [PyData.canLay0, h2, PyData.depth, h3]
  have hb : eqB (.lst (l.map .str)) (.lst (l.map .str)) = some true := by
    show (match toPy (.lst (l.map .str)), toPy (.lst (l.map .str)) with
      | some p, some q => if SeqAt.shaped p = true ∧ SeqAt.shaped q = true then some (PyData.eqv p q) else none
      | _, _ => none) = _
    rw [e]
    simp only
    rw [if_pos ⟨hs, hs⟩, PySem.SeqAt.eqv_refl _ (by unfold SeqAt.shaped at hs; simp at hs; exact hs.1)]
  unfold neG
  rw [hb]; rfl
theorem pick {N : Nat} {P : Nat → List Nat → Prop} (h : ∀ k, k < N → ∃ t, P k t) : ∃ f : Nat → List Nat, ∀ k, k < N → P k (f k) :=
  ⟨fun k => if hk : k < N then Classical.choose (h k hk) else [], fun k hk => by simp only [dif_pos hk]; exact Classical.choose_spec (h k hk)⟩
theorem scan_len : ∀ (rows : List (List Nat)) (k : Nat), (scan k rows).length ≤ rows.length
  | [], k => by simp [scan]
  | r :: rs, k => by
    rw [scan]
    cases lineIn ((k : Int) + 1) r with
    | none => simp
    | some l => have := scan_len rs (k + 1); simp; omega
theorem cell_log {ns : List Int} (hb : ∀ z ∈ ns, Builtin.Int.intBits z ≤ 1048576) : (cellOf ns).natAbs.log2 ≤ 1048577 := by
  unfold cellOf
  cases ns with
  | nil => decide
  | cons a r =>
    have := hb a List.mem_cons_self
    show a.natAbs.log2 ≤ _
    unfold Builtin.Int.intBits at this
    by_cases h : a = 0
    · subst h; decide
    · rw [if_neg (by simpa using h)] at this; omega
theorem law_eq (ns : List Int) (hl : ns.length ≤ 63) (hb : ∀ z ∈ ns, Builtin.Int.intBits z ≤ 1048576) : ∃ s, F tk fuel (n + 7) 16 [.fz (.scr ns)] = .ok (.fz (.bl true)) s := by
  refine runF_ex (fun r => ∃ s, r = .ok (.fz (.bl true)) s) c_law [some (.fz (.scr ns)), none, none, none, none, none, none, none, none] (d := d_law.cd) (defs := cdsOf ds) (i := 16) (os := [.fz (.scr ns)]) rfl rfl rfl fun Fk m hFk => ?_
  have hsz := sizeN
  have f5 : ∃ s, Fk 5 [.fz (.scr ns), .fz (.int 0)] = .ok (.fz (.int (cellOf ns))) s := by rw [hFk]; exact cell_eq (n := n + 5) ns hl
  have f6 : ∃ l s, Fk 6 [.fz (.int (cellOf ns)), .fz (.int 40), .fz (.int 5040)] = .ok (.lst (l.map .int)) s ∧ Nums 5040 l ∧ l.length = 40 := by
    rw [hFk]; exact numbers_eq (n := n + 5) (cellOf ns) 5040 40 (cell_log hb) (by decide) (by decide) (by decide)
  have f12 : ∀ (c : Int) (cnt : Nat), c.natAbs.log2 ≤ 1048577 → cnt ≤ 100000 → ∃ t s, Fk 12 [.fz (.int c), .fz (.int cnt)] = .ok (.fz (.str t)) s ∧ Pr t ∧ t.length = cnt := by
    rw [hFk]; exact fun c cnt a b => signs_eq (n := n + 4) c cnt a b
  have f0 : ∀ s, Tx s → Fk 0 [.fz (.str s)] = .ok (.fz (.int (chk s))) (some (.fz (.str s))) := by rw [hFk]; exact fun s h => check_of_eq (n := n + 5) s h
  have f8 : ∀ s, Tx s → Fk 8 [.fz (.str s)] = .ok (.fz (.int (chk s))) (some (.fz (.str s))) := by rw [hFk]; exact fun s h => law_check_of_eq (n := n + 5) s h
  have f7i : ∀ a : Int, ∃ s, Fk 7 [.fz (.int a), .fz (.int a)] = .ok (.fz (.bl true)) s := by rw [hFk]; exact fun a => same_int (n := n + 5) a
  have f7 : ∀ l : List (List Nat), l.length ≤ 1000000 → ∃ s, Fk 7 [.fz (.lst (l.map .str)), .fz (.lst (l.map .str))] = .ok (.fz (.bl true)) s := by rw [hFk]; exact fun l a => same_strs (n := n + 4) l a
  have f2 : ∀ ls, Ls ls → Fk 2 [.fz (.lst (ls.map .str))] = .ok (.fz (.str (jrn ls))) (some (.fz (.lst (ls.map .str)))) := by rw [hFk]; exact fun ls h => journal_of_eq (n := n + 3) ls h
  have f10 : ∀ ls, Ls ls → Fk 10 [.fz (.lst (ls.map .str))] = .ok (.fz (.str (jrn ls))) (some (.fz (.lst (ls.map .str)))) := by rw [hFk]; exact fun ls h => law_journal_eq (n := n + 3) ls h
  have f4 : ∀ s, Tx s → Fk 4 [.fz (.str s)] = .ok (.lst ((linesIn s).map .str)) (some (.fz (.str s))) := by rw [hFk]; exact fun s a => lines_in_eq (n := n + 2) s a
  have f11 : ∀ s, Tx s → Fk 11 [.fz (.str s)] = .ok (.lst ((linesIn s).map .str)) (some (.fz (.str s))) := by rw [hFk]; exact fun s a => records_eq (n := n + 2) s a
  have f14 : ∀ (ls : List (List Nat)) (dr : List Int), LL ls → Nums 5040 dr → ls.length + 8 ≤ dr.length → dr.length ≤ 1000 → ∃ r, Fk 14 [.fz (.lst (ls.map .str)), .fz (.lst (dr.map .int))] = .ok (.fz (.bl true)) r := by
    rw [hFk]; exact fun ls dr a b c d => spoilt_eq (n := n + 1) ls dr a b c d
  have f15 : ∀ (ls : List (List Nat)) (dr : List Int), LL ls → Nums 5040 dr → 12 ≤ dr.length → dr.length ≤ 1000 → ∃ (ts : List (List Nat)) (r : Option O), Fk 15 [.fz (.lst (ls.map .str)), .fz (.lst (dr.map .int))] = .ok (.lst (ts.map .str)) r ∧ ∀ t ∈ ts, Tx t := by
    rw [hFk]; exact fun ls dr a b c d => texts_eq (n := n + 1) ls dr a b c d
  clear hFk
  obtain ⟨s5, f5⟩ := f5
  obtain ⟨mo, s6, f6, hN, hml⟩ := f6
  let S : D := .scr ns
  let Mo : D := .lst (mo.map .int)
  have k1 : m.S (.setF 1 (.call 6 3 (.cons (.call 5 2 (.cons (.var 0) (.cons (.cst (.int 0)) .nil))) (.cons (.cst (.int 40)) (.cons (.cst (.int 5040)) .nil))))) [some (.fz S), none, none, none, none, none, none, none, none] = .ok .nx [some (.fz S), some (.fz Mo), none, none, none, none, none, none, none] :=
    mS_setF (Ev.callL (EvL.cons (Ev.call (EvL.cons (Ev.var (d := S) rfl) (EvL.cons (Ev.cst (.int 0)) .nil)) rfl f5) (EvL.cons (Ev.cst (.int 40)) (EvL.cons (Ev.cst (.int 5040)) .nil))) rfl f6)
  have ig : ∀ i : Nat, i < 40 → idxG Mo (.int (i : Int)) = some (.int (gi mo i)) := fun i hi => idx_gi (by omega) (by omega)
  have gg : ∀ i : Nat, i < 40 → 0 ≤ gi mo i ∧ gi mo i < 5040 := fun i hi => hN.get (by omega)
  -- the lines
  let cmp : CE := .comp [("k", 7)] (.rng 1 (.cons (.bin .add (.cst (.int 1)) (.bin .mod (.idx (.var 1) (.cst (.int 0))) (.cst (.int 8)))) .nil)) (.name 7) .yes (.call 12 2 (.cons (.bin .add (.bin .mul (.idx (.var 1) (.var 7)) (.cst (.int 7919))) (.var 7)) (.cons (.idx (.lst (.cons (.bin .mod (.idx (.var 1) (.bin .add (.cst (.int 8)) (.var 7))) (.cst (.int 12))) (.cons (.bin .mod (.idx (.var 1) (.bin .add (.cst (.int 8)) (.var 7))) (.cst (.int 90))) (.cons (.cst (.int 0)) .nil)))) (.bin .mod (.idx (.var 1) (.var 7)) (.cst (.int 3)))) .nil)))
  have k2 : ∃ ls : List (List Nat), m.S (.set 2 cmp) [some (.fz S), some (.fz Mo), none, none, none, none, none, none, none] = .ok .nx [some (.fz S), some (.fz Mo), some (.lst (ls.map .str)), none, none, none, none, none, none] ∧ (∀ l ∈ ls, Pr l ∧ l.length ≤ 90) ∧ 0 < ls.length ∧ ls.length ≤ 8 := by
    have q0 := fmod_in (x := gi mo 0) (lim := 8) (by decide)
    obtain ⟨q, hq⟩ := Int.eq_ofNat_of_zero_le q0.1
    have m0 : modG (.int (gi mo 0)) (.int 8) = some (.int (q : Int)) := by rw [modG_int (by decide), hq]
    have H : ∀ k, k < 1 + q → ∃ t, (∀ ρ : En, ρ[1]? = some (some (.fz Mo)) → ρ[7]? = some (some (.fz (.int (k : Int)))) → Ev m (.call 12 2 (.cons (.bin .add (.bin .mul (.idx (.var 1) (.var 7)) (.cst (.int 7919))) (.var 7)) (.cons (.idx (.lst (.cons (.bin .mod (.idx (.var 1) (.bin .add (.cst (.int 8)) (.var 7))) (.cst (.int 12))) (.cons (.bin .mod (.idx (.var 1) (.bin .add (.cst (.int 8)) (.var 7))) (.cst (.int 90))) (.cons (.cst (.int 0)) .nil)))) (.bin .mod (.idx (.var 1) (.var 7)) (.cst (.int 3)))) .nil))) ρ (.str t)) ∧ Pr t ∧ t.length ≤ 90 := by
      intro k hk
      have g1 := gg k (by omega)
      have i1 := ig k (by omega)
      have i8 : idxG Mo (.int (8 + (k : Int))) = some (.int (gi mo (8 + k))) := by have := ig (8 + k) (by omega); rwa [show ((8 + k : Nat) : Int) = 8 + (k : Int) by omega] at this
      have qa := fmod_in (x := gi mo (8 + k)) (lim := 12) (by decide)
      have qb := fmod_in (x := gi mo (8 + k)) (lim := 90) (by decide)
      have qc := fmod_in (x := gi mo k) (lim := 3) (by decide)
      have hidx : ∃ c : Nat, idxG (.lst [.int ((gi mo (8 + k)).fmod 12), .int ((gi mo (8 + k)).fmod 90), .int 0]) (.int ((gi mo k).fmod 3)) = some (.int (c : Int)) ∧ c < 90 := by
        obtain ⟨ca, hca⟩ := Int.eq_ofNat_of_zero_le qa.1
        obtain ⟨cb, hcb⟩ := Int.eq_ofNat_of_zero_le qb.1
        have h3 : (gi mo k).fmod 3 = 0 ∨ (gi mo k).fmod 3 = 1 ∨ (gi mo k).fmod 3 = 2 := by omega
        rcases h3 with z | z | z <;> rw [z, hca, hcb]
        · exact ⟨ca, rfl, by omega⟩
        · exact ⟨cb, rfl, by omega⟩
        · exact ⟨0, rfl, by decide⟩
      obtain ⟨c, hc, hc9⟩ := hidx
      obtain ⟨t, s, e, hp, ht⟩ := f12 (gi mo k * 7919 + k) c (by
        have := log_lt (n := (gi mo k * 7919 + k).natAbs) (k := 40) (by decide) (by omega)
        omega) (by omega)
      refine ⟨t, fun ρ h1 h7 => ?_, hp, by omega⟩
      have v1 : Ev m (.var 1) ρ Mo := Ev.var h1
      have v7 : Ev m (.var 7) ρ (.int (k : Int)) := Ev.var h7
      have e8 : Ev m (.idx (.var 1) (.bin .add (.cst (.int 8)) (.var 7))) ρ (.int (gi mo (8 + k))) := Ev.idx v1 (Ev.bin (f := .int (8 + (k : Int))) (Ev.cst (.int 8)) v7 rfl) i8
      exact Ev.call (EvL.cons (Ev.bin (f := .int (gi mo k * 7919 + k)) (Ev.bin (f := .int (gi mo k * 7919)) (Ev.idx v1 v7 i1) (Ev.cst (.int 7919)) (mulG_int (mulC_small (by omega) (by decide)))) v7 rfl)
        (EvL.cons (Ev.idx (Ev.lst (EvL.cons (Ev.bin (f := .int ((gi mo (8 + k)).fmod 12)) e8 (Ev.cst (.int 12)) (modG_int (by decide))) (EvL.cons (Ev.bin (f := .int ((gi mo (8 + k)).fmod 90)) e8 (Ev.cst (.int 90)) (modG_int (by decide))) (EvL.cons (Ev.cst (.int 0)) .nil))) (by rw [hsz]; simp)) (Ev.bin (f := .int ((gi mo k).fmod 3)) (Ev.idx v1 v7 i1) (Ev.cst (.int 3)) (modG_int (by decide))) hc) .nil)) rfl e
    obtain ⟨f, hf⟩ := pick H
    refine ⟨(List.range (1 + q)).map f, mS_set ?_, fun l hl => ?_, by simp; omega, by simp; omega⟩
    · show m.O (.comp _ _ _ _ _) _ = _
      rw [msO_comp, compM_map (ρ1 := [some (.fz S), some (.fz Mo), none, none, none, none, none, none, none]) (List.range (1 + q)) (fun i => .int (0 + (i : Int))) (fun i => .str (f i))]
      · simp [restE, wipeE]
      · refine mI_rng_ok m (n := 1 + q) (EvL.cons (ds := []) (Ev.bin (f := .int ((1 + q : Nat) : Int)) (Ev.cst (.int 1)) (Ev.bin (f := .int (q : Int)) (Ev.idx (Ev.var (d := Mo) rfl) (Ev.cst (.int 0)) (ig 0 (by decide))) (Ev.cst (.int 8)) m0) ?_) .nil) (by omega)
        show some (D.int (1 + (q : Int))) = _
        rw [show ((1 + q : Nat) : Int) = 1 + (q : Int) by omega]
      · intro i hi
        have hi : i < 1 + q := by simpa using hi
        have he := (hf i hi).1 [some (.fz S), some (.fz Mo), none, none, none, none, none, some (.fz (.int (i : Int))), none] rfl rfl
        refine ⟨[some (.fz S), some (.fz Mo), none, none, none, none, none, some (.fz (.int (i : Int))), none], ?_, rfl⟩
        have hg : tgM (.name 7) (.int (0 + (i : Int))) (wipeE [some (.fz S), some (.fz Mo), none, none, none, none, none, none, none] [7]) = .ok () [some (.fz S), some (.fz Mo), none, none, none, none, none, some (.fz (.int (i : Int))), none] := by simp [tgM, setM, wipeE]
        show compStep _ _ _ _ (wipeE _ [7]) = _
        unfold compStep
        rw [bnd_to hg, bnd_to (show m.T .yes [some (.fz S), some (.fz Mo), none, none, none, none, none, some (.fz (.int (i : Int))), none] = .ok true _ by rw [msT_yes]; rfl), if_pos rfl, bnd_to he.frz]
        rfl
      · simp; omega
    · obtain ⟨i, hi, rfl⟩ := List.mem_map.mp hl
      exact (hf i (by simpa using hi)).2
  obtain ⟨l0, k2, hl0, hl1, hl2⟩ := k2
  let E : List (List Nat) → Option O → Option O → Option O → Option O → Option O → En := fun ls a b c d e => [some (.fz S), some (.fz Mo), some (.lst (ls.map .str)), a, b, c, d, none, e]
  have k3 : ∃ ls : List (List Nat), m.S (.ite (.cmp .eq (.bin .mod (.idx (.var 1) (.cst (.int 20))) (.cst (.int 2))) (.cst (.int 0)))
  (.seq (.put 2 (.cst (.int 0)) (.bin .add (.bin .add (.cst (.str [32, 97, 32, 98])) (.idx (.brw 2) (.cst (.int 0)))) (.cst (.str [32])))) <| .nil)
  ( .nil)) (E l0 none none none none none) = .ok .nx (E ls none none none none none) ∧ LL ls ∧ ls.length ≤ 8 := by
    have q0 := fmod_in (x := gi mo 20) (lim := 2) (by decide)
    have hT : m.T (.cmp .eq (.bin .mod (.idx (.var 1) (.cst (.int 20))) (.cst (.int 2))) (.cst (.int 0))) (E l0 none none none none none) = .ok (decide ((gi mo 20).fmod 2 = 0)) (E l0 none none none none none) :=
      mT_cmp (Ev.bin (f := .int ((gi mo 20).fmod 2)) (Ev.idx (Ev.var (d := Mo) rfl) (Ev.cst (.int 20)) (ig 20 (by decide))) (Ev.cst (.int 2)) (modG_int (by decide))) (Ev.cst (.int 0)) rfl
    by_cases hz : (gi mo 20).fmod 2 = 0
    · cases l0 with
      | nil => simp at hl1
      | cons a r =>
        have ha := hl0 a List.mem_cons_self
        refine ⟨([32, 97, 32, 98] ++ a ++ [32]) :: r, ?_, ⟨fun l hl => ?_, by simp at hl2 ⊢; omega⟩, by simpa using hl2⟩
        · rw [mS_ite hT, decide_eq_true hz, if_pos rfl]
          refine mS_one ?_
          exact mS_put (j := 0) (l := (a :: r).map D.str) (d := .str ([32, 97, 32, 98] ++ a ++ [32])) rfl (Ev.add (Ev.add (Ev.cst (.str [32, 97, 32, 98])) (Ev.idxB (l := (a :: r).map D.str) (j := 0) (f := .str a) rfl (Ev.cst (.int 0)) (by show atI _ ((0 : Nat) : Int) = _; rw [idx_ok (by simp) (by simp at hl2 ⊢; omega)]; rfl)) (by simp; omega)) (Ev.cst (.str [32])) (by simp; omega)) (Ev.cst (.int 0)) (by simp)
        · rcases List.mem_cons.mp hl with rfl | hl
          · refine ⟨fun c hc => ?_, by simp; omega⟩
            simp only [List.mem_append, List.mem_cons, List.not_mem_nil, or_false] at hc
            rcases hc with (hc | hc) | hc
            · omega
            · exact ha.1 c hc
            · omega
          · have := hl0 l (List.mem_cons_of_mem _ hl)
            exact ⟨this.1, by omega⟩
    · refine ⟨l0, ?_, ⟨fun l hl => ⟨(hl0 l hl).1, by have := (hl0 l hl).2; omega⟩, by omega⟩, hl2⟩
      rw [mS_ite hT, decide_eq_false hz]
      exact mS_nil
  obtain ⟨ls, k3, hLL, hl8⟩ := k3
  have k4 : m.S (.setF 3 (.bi .list (.cons (.brw 2) .nil))) (E ls none none none none none) = .ok .nx (E ls (some (.fz (.lst (ls.map .str)))) none none none none) :=
    mS_setF (Ev.of (d := .lst (ls.map .str)) (mO_biA (es_brw (o := .lst (ls.map .str)) rfl es_nil) (argsD_slot rfl rfl) rfl (lfrees_str ls)))
  let Kp : Option O := some (.fz (.lst (ls.map .str)))
  have hls : Ls ls := hLL.ls
  -- all lines' checks
  have k5 : ∃ o, m.S (.for_ (.name 4) (.seq (.bin .add (.brw 2) (.lst (.cons (.cst (.str [97, 98])) (.cons (.cst (.str [97])) (.cons (.cst (.str [])) .nil))))))
  (.seq (.ite (.not (.val (.call 7 2 (.cons (.call 0 1 (.cons (.var 4) .nil)) (.cons (.call 8 1 (.cons (.var 4) .nil)) .nil)))))
    (.seq (.ret (.cst (.bl false))) <| .nil)
    ( .nil)) <| .nil)) (E ls Kp none none none none) = .ok .nx (E ls Kp o none none none) := by
    have hE : Ev m (.bin .add (.brw 2) (.lst (.cons (.cst (.str [97, 98])) (.cons (.cst (.str [97])) (.cons (.cst (.str [])) .nil))))) (E ls Kp none none none none) (.lst ((ls ++ [[97, 98], [97], []]).map .str)) := by
      rw [List.map_append]
      exact Ev.addB rfl (Ev.lst (EvL.cons (Ev.cst _) (EvL.cons (Ev.cst _) (EvL.cons (Ev.cst _) .nil))) (by rw [hsz]; simp)) (by simp; omega) (by rw [← List.map_append]; exact lfrees_str _)
    obtain ⟨ρ', hf, o, rfl⟩ := for_inv (g := tgM (.name 4)) (m := m.S (.seq (.ite (.not (.val (.call 7 2 (.cons (.call 0 1 (.cons (.var 4) .nil)) (.cons (.call 8 1 (.cons (.var 4) .nil)) .nil)))))
    (.seq (.ret (.cst (.bl false))) <| .nil)
    ( .nil)) <| .nil)) (fun l : List Nat => D.str l) (fun _ ρ => ∃ o, ρ = E ls Kp o none none none) (ls ++ [[97, 98], [97], []]) 0 (E ls Kp none none none none) ⟨none, rfl⟩ (fun j l ρ hj ⟨o, e⟩ => by
      subst e
      have hm := List.mem_of_getElem? hj
      have ht : Tx l := by
        rcases List.mem_append.mp hm with hm | hm
        · exact (hLL.1 l hm).tx
        · simp only [List.mem_cons, List.not_mem_nil, or_false] at hm
          rcases hm with rfl | rfl | rfl
          · exact ⟨by decide, by decide⟩
          · exact ⟨by decide, by decide⟩
          · exact ⟨by decide, by decide⟩
      obtain ⟨s, e7⟩ := f7i (chk l)
      refine ⟨E ls Kp (some (.fz (.str l))) none none none, E ls Kp (some (.fz (.str l))) none none none, rfl, mS_one ?_, _, rfl⟩
      have v4 : Ev m (.var 4) (E ls Kp (some (.fz (.str l))) none none none) (.str l) := Ev.var rfl
      have hT : m.T (.not (.val (.call 7 2 (.cons (.call 0 1 (.cons (.var 4) .nil)) (.cons (.call 8 1 (.cons (.var 4) .nil)) .nil))))) (E ls Kp (some (.fz (.str l))) none none none) = .ok false (E ls Kp (some (.fz (.str l))) none none none) :=
        mT_not (mT_val (Ev.call (EvL.cons (Ev.call (EvL.cons v4 .nil) rfl (f0 l ht)) (EvL.cons (Ev.call (EvL.cons v4 .nil) rfl (f8 l ht)) .nil)) rfl e7) rfl)
      rw [mS_ite hT]
      exact mS_nil)
    refine ⟨o, ?_⟩
    rw [msS_for, bnd_to (show m.I (.seq _) _ = .ok ((ls ++ [[97, 98], [97], []]).map .str) (E ls Kp none none none none) by rw [msI_seq, bnd_to hE.frz]; rfl)]
    exact hf
  obtain ⟨o4, k5⟩ := k5
  -- the journals
  have v1 : ∀ a b c d e, Ev m (.var 1) (E ls a b c d e) Mo := fun a b c d e => Ev.var rfl
  have k6 : m.S (.ite (.or (.not (.val (.call 7 2 (.cons (.lst (.cons (.call 2 1 (.cons (.bi .list (.cons (.brw 2) .nil)) .nil)) (.cons (.call 2 1 (.cons (.lst .nil) .nil)) .nil))) (.cons (.lst (.cons (.call 10 1 (.cons (.brw 2) .nil)) (.cons (.cst (.str [])) .nil))) .nil))))) (.or (.cmp .ne (.brw 2) (.var 3)) (.not (.val (.call 14 2 (.cons (.brw 2) (.cons (.var 1) .nil)))))))
  (.seq (.ret (.cst (.bl false))) <| .nil)
  ( .nil)) (E ls Kp o4 none none none) = .ok .nx (E ls Kp o4 none none none) := by
    let ρ := E ls Kp o4 none none none
    obtain ⟨s7, e7⟩ := f7 [jrn ls, []] (by simp)
    obtain ⟨r14, e14⟩ := f14 ls mo hLL hN (by omega) (by omega)
    have hnil : Ls [] := ⟨fun _ h => (nomatch h), by decide⟩
    have A1 : Ev m (.call 2 1 (.cons (.bi .list (.cons (.brw 2) .nil)) .nil)) ρ (.str (jrn ls)) :=
      Ev.call (EvL.cons (Ev.of (d := .lst (ls.map .str)) (mO_biA (es_brw (o := .lst (ls.map .str)) rfl es_nil) (argsD_slot rfl rfl) rfl (lfrees_str ls))) .nil) rfl (f2 ls hls)
    have A2 : Ev m (.call 2 1 (.cons (.lst .nil) .nil)) ρ (.str []) := Ev.call (ds := [.lst []]) (EvL.cons (Ev.lst EvL.nil (by rw [hsz]; simp)) .nil) rfl (f2 [] hnil)
    have A3 : Ev m (.call 10 1 (.cons (.brw 2) .nil)) ρ (.str (jrn ls)) := Ev.ofz (mO_callA (es_brw (o := .lst (ls.map .str)) rfl es_nil) (argsD_slot rfl rfl) rfl (f10 ls hls) rfl)
    have T1 : m.T (.not (.val (.call 7 2 (.cons (.lst (.cons (.call 2 1 (.cons (.bi .list (.cons (.brw 2) .nil)) .nil)) (.cons (.call 2 1 (.cons (.lst .nil) .nil)) .nil))) (.cons (.lst (.cons (.call 10 1 (.cons (.brw 2) .nil)) (.cons (.cst (.str [])) .nil))) .nil))))) ρ = .ok false ρ :=
      mT_not (mT_val (Ev.call (EvL.cons (Ev.lst (EvL.cons A1 (EvL.cons A2 .nil)) (by rw [hsz]; simp)) (EvL.cons (Ev.lst (EvL.cons A3 (EvL.cons (Ev.cst (.str [])) .nil)) (by rw [hsz]; simp)) .nil)) rfl e7) rfl)
    have T2 : m.T (.cmp .ne (.brw 2) (.var 3)) ρ = .ok false ρ := by
      have e : bnd (argOf (.brw 2) (m.O (.brw 2))) (fun x => bnd (argOf (.var 3) (m.O (.var 3))) fun y => withA [x, y] (un2 (c2G .ne))) ρ = .ok (.fz (.bl false)) ρ := by
        rw [argOf_brw, bnd_to (brw_some (o := .lst (ls.map .str)) rfl), bnd_to (show argOf (.var 3) (m.O (.var 3)) ρ = .ok (.dat (.lst (ls.map .str))) ρ from Ev.var (m := m) rfl), withA_def, argsD_slot (l := ls.map .str) (xs := [.dat (.lst (ls.map .str))]) (ds := [.lst (ls.map .str)]) (b := false) rfl rfl]
        have hn := ne_self ls (fun s hs => (hLL.1 s hs).tx)
        simp only [un2_def, c2G, hn]
        rfl
      rw [msT_cmp, bnd_to e]; rfl
    have T3 : m.T (.not (.val (.call 14 2 (.cons (.brw 2) (.cons (.var 1) .nil))))) ρ = .ok false ρ :=
      mT_not (mT_val (Ev.ofz (mO_callA (es_brw (o := .lst (ls.map .str)) rfl (es_ev (v1 _ _ _ _ _) es_nil)) (argsD_slot (l := ls.map .str) (ds := [Mo]) (b := false) rfl rfl) rfl e14 rfl)) rfl)
    show m.S _ ρ = _
    rw [mS_ite (mT_or0 T1 (mT_or0 T2 T3))]
    exact mS_nil
  -- all texts
  have hN2 : Nums 5040 (mo.drop 21) := fun x hx => hN x (List.mem_of_mem_drop hx)
  obtain ⟨ts, r15, f15, hts⟩ := f15 ls (mo.drop 21) hLL hN2 (by simp; omega) (by simp; omega)
  let inner : CS := .for_ (.name 6) (.rng 1 (.cons (.cst (.int 2)) .nil))
    (.seq (.set 8 (.call 4 1 (.cons (.var 5) .nil))) <|
      .seq (.ite (.not (.val (.call 7 2 (.cons (.brw 8) (.cons (.call 11 1 (.cons (.var 5) .nil)) .nil)))))
      (.seq (.ret (.cst (.bl false))) <| .nil)
      ( .nil)) <|
      .seq (.app 8 (.cst (.str [99, 104, 97, 110, 103, 101, 100]))) <| .nil)
  have k7 : ∃ a b c, m.S (.for_ (.name 5) (.seq (.call 15 2 (.cons (.brw 2) (.cons (.slc (.var 1) (.some (.cst (.int 21))) .none) .nil)))) (.seq inner .nil)) (E ls Kp o4 none none none) = .ok .nx (E ls Kp o4 a b c) := by
    have hcut : slcG Mo (some 21) none = some (.lst ((mo.drop 21).map .int)) := by
      show some (D.lst (cutD _ _ _)) = _
      rw [show (21 : Int) = ((21 : Nat) : Int) from rfl, cut_from, List.map_drop]
    have hE : Ev m (.call 15 2 (.cons (.brw 2) (.cons (.slc (.var 1) (.some (.cst (.int 21))) .none) .nil))) (E ls Kp o4 none none none) (.lst (ts.map .str)) :=
      Ev.of (d := .lst (ts.map .str)) (mO_callA (es_brw (o := .lst (ls.map .str)) rfl (es_ev (Ev.slc (v1 _ _ _ _ _) (op_some (Ev.cst (.int 21))) op_none hcut) es_nil)) (argsD_slot (l := ls.map .str) (ds := [.lst ((mo.drop 21).map .int)]) (b := false) rfl rfl) rfl f15 (lfrees_str ts))
    have body : ∀ t, Tx t → ∀ b c, ∃ b' c', m.S inner (E ls Kp o4 (some (.fz (.str t))) b c) = .ok .nx (E ls Kp o4 (some (.fz (.str t))) b' c') := by
      intro t ht b c
      obtain ⟨s7, e7⟩ := f7 (linesIn t) (by
        have h1 := scan_len (sp 10 t).dropLast 0
        have h2 := (sp_len 10 t).1
        have h3 := ht.2
        show (scan 0 (sp 10 t).dropLast).length ≤ 1000000
        simp at h1; omega)
      obtain ⟨ρ', hf, b', c', rfl⟩ := for_range (g := tgM (.name 6)) (m := m.S (.seq (.set 8 (.call 4 1 (.cons (.var 5) .nil))) <|
      .seq (.ite (.not (.val (.call 7 2 (.cons (.brw 8) (.cons (.call 11 1 (.cons (.var 5) .nil)) .nil)))))
      (.seq (.ret (.cst (.bl false))) <| .nil)
      ( .nil)) <|
      .seq (.app 8 (.cst (.str [99, 104, 97, 110, 103, 101, 100]))) <| .nil)) (fun _ ρ => ∃ b c, ρ = E ls Kp o4 (some (.fz (.str t))) b c) 2 (E ls Kp o4 (some (.fz (.str t))) b c) ⟨b, c, rfl⟩ (fun j ρ hj ⟨b, c, e⟩ => by
        subst e
        let Z : Option O → En := fun z => E ls Kp o4 (some (.fz (.str t))) (some (.fz (.int (0 + (j : Int))))) z
        have v5 : ∀ z, Ev m (.var 5) (Z z) (.str t) := fun z => Ev.var rfl
        let Lz : Option O := some (.lst ((linesIn t).map .str))
        have x1 : m.S (.set 8 (.call 4 1 (.cons (.var 5) .nil))) (Z c) = .ok .nx (Z Lz) := mS_set (mO_call (EvL.cons (v5 c) .nil) rfl (f4 t ht))
        have hT : m.T (.not (.val (.call 7 2 (.cons (.brw 8) (.cons (.call 11 1 (.cons (.var 5) .nil)) .nil))))) (Z Lz) = .ok false (Z Lz) :=
          mT_not (mT_val (Ev.ofz (mO_callA (es_brw (o := .lst ((linesIn t).map .str)) rfl (es_ev (Ev.callL (EvL.cons (v5 Lz) .nil) rfl (f11 t ht)) es_nil)) (argsD_slot (l := (linesIn t).map .str) (ds := [.lst ((linesIn t).map .str)]) (b := false) rfl rfl) rfl e7 rfl)) rfl)
        have x2 : m.S (.ite (.not (.val (.call 7 2 (.cons (.brw 8) (.cons (.call 11 1 (.cons (.var 5) .nil)) .nil)))))
          (.seq (.ret (.cst (.bl false))) <| .nil)
          ( .nil)) (Z Lz) = .ok .nx (Z Lz) := by
          rw [mS_ite hT]; exact mS_nil
        have x3 : m.S (.app 8 (.cst (.str [99, 104, 97, 110, 103, 101, 100]))) (Z Lz) = .ok .nx (Z (some (.lst ((linesIn t).map .str ++ [.str [99, 104, 97, 110, 103, 101, 100]])))) :=
          mS_app (l := (linesIn t).map .str) rfl (Ev.cst _) (by
            have h1 := scan_len (sp 10 t).dropLast 0
            have h2 := (sp_len 10 t).1
            have h3 := ht.2
            show ((scan 0 (sp 10 t).dropLast).map D.str).length < 16777216
            simp at h1 ⊢; omega)
        refine ⟨Z c, Z (some (.lst ((linesIn t).map .str ++ [.str [99, 104, 97, 110, 103, 101, 100]]))), rfl, ?_, _, _, rfl⟩
        rw [mS_seq_nx x1, mS_seq_nx x2, mS_one x3])
      refine ⟨b', c', ?_⟩
      show m.S (.for_ _ _ _) _ = _
      have hi : m.I (.rng 1 (.cons (.cst (.int 2)) .nil)) (E ls Kp o4 (some (.fz (.str t))) b c) = .ok ((List.range 2).map fun (i : Nat) => .int (0 + (i : Int))) (E ls Kp o4 (some (.fz (.str t))) b c) :=
        mI_rng_ok m (n := 2) (EvL.cons (Ev.cst (.int 2)) EvL.nil) (by decide)
      rw [msS_for, bnd_to hi]
      exact hf
    obtain ⟨ρ', hf, a, b, c, rfl⟩ := for_inv (g := tgM (.name 5)) (m := m.S (.seq inner .nil)) (fun t : List Nat => D.str t) (fun _ ρ => ∃ a b c, ρ = E ls Kp o4 a b c) ts 0 (E ls Kp o4 none none none) ⟨none, none, none, rfl⟩ (fun j t ρ hj ⟨a, b, c, e⟩ => by
      subst e
      obtain ⟨b', c', hb⟩ := body t (hts t (List.mem_of_getElem? hj)) b c
      exact ⟨E ls Kp o4 (some (.fz (.str t))) b c, E ls Kp o4 (some (.fz (.str t))) b' c', rfl, mS_one hb, _, _, _, rfl⟩)
    refine ⟨a, b, c, ?_⟩
    rw [msS_for, bnd_to (show m.I (.seq _) _ = .ok (ts.map .str) (E ls Kp o4 none none none) by rw [msI_seq, bnd_to hE.frz]; rfl)]
    exact hf
  obtain ⟨a, b, c, k7⟩ := k7
  have hab : chk [97, 98] = 293 := by decide
  have k8 : m.S (.ret (.cmp .eq (.call 0 1 (.cons (.cst (.str [97, 98])) .nil)) (.cst (.int 293)))) (E ls Kp o4 a b c) = .ok (.rt (.fz (.bl true))) (E ls Kp o4 a b c) :=
    mS_ret (mO_cmp (o := .eq) (f := .bl true) (Ev.call (EvL.cons (Ev.cst (.str [97, 98])) .nil) rfl (f0 [97, 98] ⟨by decide, by decide⟩)) (Ev.cst (.int 293)) (by rw [hab]; rfl))
  refine ⟨some (.fz S), ?_⟩
  show frOf (m.S (.seq _ (.seq _ (.seq _ (.seq _ (.seq _ (.seq _ (.seq _ (.seq _ .nil)))))))) _) = _
  rw [mS_seq_nx k1, mS_seq_nx k2, mS_seq_nx k3, mS_seq_nx k4, mS_seq_nx k5, mS_seq_nx k6, mS_seq_nx k7, mS_one k8]
  rfl
end K67
set_option Elab.async false
set_option linter.all false
set_option maxRecDepth 100000
set_option maxHeartbeats 0
namespace K67
open PySem PySem.Spec L2 FW
def fuel : Nat := 1000
theorem law_true : ∀ ns : List Int, ns.length ≤ 63 → (∀ z ∈ ns, Builtin.Int.intBits z ≤ 1048576) → ∃ s, runF (cdsOf ds) (tkOf tkl) fuel 60 16 [.fz (.scr ns)] = .ok (.fz (.bl true)) s := fun ns hl hb => law_eq (n := 53) ns hl hb
end K67
open PySem PySem.W PySem.Calls PyProof.Rows in
theorem PySem.Challenge.cw_fewestfigures_k67_whole_journals_and_the_holds : PySem.Challenge.rw_fewestfigures_k67_whole_journals_and_the.Holds := by
  w_on; o_law
  refine HandSHeadRun.head_any (r := OpenLaw.row PySem.Challenge.rw_fewestfigures_k67_whole_journals_and_the) (q := view (OpenLaw.row PySem.Challenge.rw_fewestfigures_k67_whole_journals_and_the).prog [20]) (H := K67.hk) (ob := K67.ob) (M := 2000) (loose := K67.loose) (d := HandSHeadRun.topDef (OpenLaw.row PySem.Challenge.rw_fewestfigures_k67_whole_journals_and_the).prog 20) (kwd := []) K67.ob_eq
    (by kernel_rfl) (fun s => by kernel_rfl) K67.headRun (by kernel_rfl) (by kernel_rfl) (by kernel_rfl) (by rfl) (by first | assumption | decide +kernel) (by decide +kernel) ⟨rfl, rfl, rfl, rfl, rfl, by decide +kernel⟩ ?hw ?hc
  case hw => w_witness2
  case hc =>
    exact FW.law_end (l := PySem.Challenge.rw_fewestfigures_k67_whole_journals_and_the) (n := 63) (k := 60) (x := "script") (ds := K67.ds) (gl := K67.gl) (fr := K67.fr) (exs := K67.exs) (tkl := K67.tkl) (dl := K67.d_law) (i := 16) (fuel := K67.fuel) rfl (by decide) (by kernel_rfl) ⟨rfl, by decide, by decide⟩ (by kernel_rfl) rfl rfl rfl rfl K67.allOk K67.allBnd K67.law_true
