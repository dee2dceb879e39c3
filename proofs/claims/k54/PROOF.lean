import PyProof.Rows.All
import Wide.All
import OpenK.AllK
import Wide.FinOn
import HandS.ForMost
import HandS.ForExc
import HandS.ExcInit
import HandS.Wide
import HandS.TupAny
import HandS.TupMul
import HandS.SortRule
import HandS.SortInts
import HandS.Small
import HandS.Property
import HandS.CallSlots
import KE.KExcSuper
import HandS.ExcCtx
import HandS.Iter
import HandS.Comp
import HandS.ExcIs
import HandS.ExcField
import HandS.IsInst
import HandS.RaiseMore
import HandS.Head0
import HandS.Head1
import HandS.Head2
import HandS.HeadEnd
import HandS.HeadHook1
import HandS.HeadHook2
import HandS.HeadHook4
import PySem.Challenge.RW_fitsizes_k54_errors_made
set_option Elab.async false
set_option linter.all false
set_option maxRecDepth 100000
set_option maxHeartbeats 0
set_option exponentiation.threshold 300000
namespace Fz
open PySem L2

/-- the program: its classes by number, its written part -/
structure Gm where
  cl : Nat → Addr
  K : PySem.W.Frag
/-- data -/
inductive D where
  | non
  | bl (b : Bool)
  | int (i : Int)
  | str (x : Str)
  | tup (xs : List D)
  | lst (o : Bool) (xs : List D)
  | dct (o : Bool) (ks : List Str) (xs : List D)
  | ins (o : Bool) (c : Nat) (ks : List Str) (xs : List D)
  /-- the own dict of an error: its value -/
  | exd (x : D)
  /-- an error of the class c that was made, with its value -/
  | err (c : Nat) (x : D)
  /-- nothing is known of it -/
  | any
  /-- the script: a list of ints that nobody changes -/
  | scr (ns : List Int)

abbrev FP := Addr → Prop

mutual
/-- v stands in H for the data; what it owns lies in S, what is frozen of it in F -/
def R (A : Gm) (F : FP) (H : Hp) : D → V → FP → Prop
  | .non, v, _ => v = .non
  | .bl b, v, _ => v = .bl b
  | .int i, v, _ => v = .int i
  | .str x, v, _ => v = .str x
  | .tup ds, v, S => ∃ a vs, v = .ref a ∧ F a ∧ H a = some (.tup vs) ∧ RL A F H ds vs S
  | .lst false ds, v, _ => ∃ a vs, v = .ref a ∧ F a ∧ H a = some (.lst vs) ∧ RL A F H ds vs (fun _ => False)
  | .lst true ds, v, S => ∃ a vs S', v = .ref a ∧ S a ∧ H a = some (.lst vs) ∧ RL A F H ds vs S' ∧ ∀ b, S' b → S b ∧ b ≠ a
  | .dct false ks ds, v, _ => ∃ a vs, v = .ref a ∧ F a ∧ H a = some (.dK ((ks.map Sum.inr).zip vs)) ∧ vs.length = ks.length ∧ RL A F H ds vs (fun _ => False)
  | .dct true ks ds, v, S => ∃ a vs S', v = .ref a ∧ S a ∧ H a = some (.dK ((ks.map Sum.inr).zip vs)) ∧ vs.length = ks.length ∧ RL A F H ds vs S' ∧ ∀ b, S' b → S b ∧ b ≠ a
  | .ins false c ks ds, v, _ => ∃ a dx vs, v = .ref a ∧ F a ∧ F dx ∧ H a = some (.ins (A.cl c) dx (ks.zip vs)) ∧ H dx = some (.own a) ∧ vs.length = ks.length ∧ RL A F H ds vs (fun _ => False)
  | .ins true c ks ds, v, S => ∃ a dx vs S', v = .ref a ∧ S a ∧ F dx ∧ H a = some (.ins (A.cl c) dx (ks.zip vs)) ∧ H dx = some (.own a) ∧ vs.length = ks.length ∧ RL A F H ds vs S' ∧ ∀ b, S' b → S b ∧ b ≠ a
  | .exd d, v, _ => ∃ a w, v = .ref a ∧ F a ∧ H a = some (.xd [(("value" : Str), w)]) ∧ R A F H d w (fun _ => False)
  | .err c d, v, _ => ∃ a dd w, v = .ref a ∧ F a ∧ F dd ∧ H a = some (L2.exo a (A.cl c) (some dd)) ∧ H dd = some (L2.exd dd [(("value" : Str), w)]) ∧ R A F H d w (fun _ => False)
  | .any, _, _ => True
  | .scr ns, v, _ => ∃ a, v = .ref a ∧ ((F a ∧ Rd H a (.lst (ns.map V.int))) ∨ ∃ (o : Obj) (its : Array Value) (n : Nat), A.K.lookup a = some o ∧ o.cls = .type "list" ∧ o.dict = none ∧ o.data = .seq its n ∧ its.size ≤ sizeLine ∧ Vals (ns.map V.int) its.toList)
def RL (A : Gm) (F : FP) (H : Hp) : List D → List V → FP → Prop
  | [], vs, _ => vs = []
  | d :: ds, vs, S => ∃ v vs' S1 S2, vs = v :: vs' ∧ R A F H d v S1 ∧ RL A F H ds vs' S2 ∧ (∀ b, S1 b → S b ∧ ¬ S2 b) ∧ (∀ b, S2 b → S b)
end

/-- a list of places, some empty -/
def RO (A : Gm) (F : FP) (H : Hp) : List (Option D) → List (Option V) → FP → Prop
  | [], vs, _ => vs = []
  | none :: ds, vs, S => ∃ v vs', vs = v :: vs' ∧ RO A F H ds vs' S
  | some d :: ds, vs, S => ∃ v vs' S1 S2, vs = some v :: vs' ∧ R A F H d v S1 ∧ RO A F H ds vs' S2 ∧ (∀ b, S1 b → S b ∧ ¬ S2 b) ∧ (∀ b, S2 b → S b)

mutual
/-- frozen through and through -/
def fz : D → D
  | .tup xs => .tup (fzL xs)
  | .lst _ xs => .lst false (fzL xs)
  | .dct _ ks xs => .dct false ks (fzL xs)
  | .ins _ c ks xs => .ins false c ks (fzL xs)
  | .non => .non
  | .bl b => .bl b
  | .int i => .int i
  | .str x => .str x
  | .exd x => .exd (fz x)
  | .err c x => .err c (fz x)
  | .any => .any
  | .scr ns => .scr ns
def fzL : List D → List D
  | [] => []
  | d :: ds => fz d :: fzL ds
end
mutual
/-- nothing owned in it -/
def nw : D → Bool
  | .tup xs => nwL xs
  | .lst o xs => !o && nwL xs
  | .dct o _ xs => !o && nwL xs
  | .ins o _ _ xs => !o && nwL xs
  | .non => true
  | .bl _ => true
  | .int _ => true
  | .str _ => true
  | .exd x => nw x
  | .err _ x => nw x
  | .any => true
  | .scr _ => true
def nwL : List D → Bool
  | [] => true
  | d :: ds => nw d && nwL ds
end

section
variable {A : Gm} {F F' : FP} {H H' : Hp}

mutual
theorem R.mono : ∀ {d : D} {v : V} {S T : FP}, R A F H d v S → (∀ b, S b → T b) → R A F H d v T
  | .non, _, _, _, h, _ => h
  | .bl _, _, _, _, h, _ => h
  | .int _, _, _, _, h, _ => h
  | .str _, _, _, _, h, _ => h
  | .tup ds, v, S, T, h, st => by
    obtain ⟨a, vs, e, f, g, r⟩ := h
    exact ⟨a, vs, e, f, g, RL.mono r st⟩
  | .lst false ds, v, S, T, h, st => h
  | .lst true ds, v, S, T, h, st => by
    obtain ⟨a, vs, S', e, f, g, r, q⟩ := h
    exact ⟨a, vs, S', e, st a f, g, r, fun b hb => ⟨st b (q b hb).1, (q b hb).2⟩⟩
  | .dct false ks ds, v, S, T, h, st => h
  | .dct true ks ds, v, S, T, h, st => by
    obtain ⟨a, vs, S', e, f, g, l, r, q⟩ := h
    exact ⟨a, vs, S', e, st a f, g, l, r, fun b hb => ⟨st b (q b hb).1, (q b hb).2⟩⟩
  | .ins false c ks ds, v, S, T, h, st => h
  | .ins true c ks ds, v, S, T, h, st => by
    obtain ⟨a, dx, vs, S', e, f, f2, g, g2, l, r, q⟩ := h
    exact ⟨a, dx, vs, S', e, st a f, f2, g, g2, l, r, fun b hb => ⟨st b (q b hb).1, (q b hb).2⟩⟩
  | .exd d, v, S, T, h, st => h
  | .err _ d, v, S, T, h, st => h
  | .any, _, _, _, h, _ => h
  | .scr _, _, _, _, h, _ => h
theorem RL.mono : ∀ {ds : List D} {vs : List V} {S T : FP}, RL A F H ds vs S → (∀ b, S b → T b) → RL A F H ds vs T
  | [], _, _, _, h, _ => h
  | d :: ds, vs, S, T, h, st => by
    obtain ⟨v, vs', S1, S2, e, r, rl, q1, q2⟩ := h
    exact ⟨v, vs', S1, S2, e, r, rl, fun b hb => ⟨st b (q1 b hb).1, (q1 b hb).2⟩, fun b hb => st b (q2 b hb)⟩
end

mutual
/-- what it leans on is as it was -/
theorem R.frame : ∀ {d : D} {v : V} {S : FP}, R A F H d v S → (∀ b, F b → F' b) → (∀ b, F b ∨ S b → H' b = H b) → R A F' H' d v S
  | .non, _, _, h, _, _ => h
  | .bl _, _, _, h, _, _ => h
  | .int _, _, _, h, _, _ => h
  | .str _, _, _, h, _, _ => h
  | .tup ds, v, S, h, ff, hh => by
    obtain ⟨a, vs, e, f, g, r⟩ := h
    refine ⟨a, vs, e, ff a f, ?_, RL.frame r ff hh⟩
    rw [hh a (.inl f)]; exact g
  | .lst false ds, v, S, h, ff, hh => by
    obtain ⟨a, vs, e, f, g, r⟩ := h
    refine ⟨a, vs, e, ff a f, ?_, RL.frame r ff (fun b hb => hh b (hb.elim .inl (fun z => z.elim)))⟩
    rw [hh a (.inl f)]; exact g
  | .lst true ds, v, S, h, ff, hh => by
    obtain ⟨a, vs, S', e, f, g, r, q⟩ := h
    exact ⟨a, vs, S', e, f, by rw [hh a (.inr f)]; exact g, RL.frame r ff (fun b hb => hh b (hb.imp id (fun z => (q b z).1))), q⟩
  | .dct false ks ds, v, S, h, ff, hh => by
    obtain ⟨a, vs, e, f, g, l, r⟩ := h
    exact ⟨a, vs, e, ff a f, by rw [hh a (.inl f)]; exact g, l, RL.frame r ff (fun b hb => hh b (hb.elim .inl (fun z => z.elim)))⟩
  | .dct true ks ds, v, S, h, ff, hh => by
    obtain ⟨a, vs, S', e, f, g, l, r, q⟩ := h
    exact ⟨a, vs, S', e, f, by rw [hh a (.inr f)]; exact g, l, RL.frame r ff (fun b hb => hh b (hb.imp id (fun z => (q b z).1))), q⟩
  | .ins false c ks ds, v, S, h, ff, hh => by
    obtain ⟨a, dx, vs, e, f, f2, g, g2, l, r⟩ := h
    exact ⟨a, dx, vs, e, ff a f, ff dx f2, by rw [hh a (.inl f)]; exact g, by rw [hh dx (.inl f2)]; exact g2, l, RL.frame r ff (fun b hb => hh b (hb.elim .inl (fun z => z.elim)))⟩
  | .ins true c ks ds, v, S, h, ff, hh => by
    obtain ⟨a, dx, vs, S', e, f, f2, g, g2, l, r, q⟩ := h
    exact ⟨a, dx, vs, S', e, f, ff dx f2, by rw [hh a (.inr f)]; exact g, by rw [hh dx (.inl f2)]; exact g2, l, RL.frame r ff (fun b hb => hh b (hb.imp id (fun z => (q b z).1))), q⟩
  | .exd d, v, S, h, ff, hh => by
    obtain ⟨a, w, e, f, g, r⟩ := h
    exact ⟨a, w, e, ff a f, by rw [hh a (.inl f)]; exact g, R.frame r ff (fun b hb => hh b (hb.elim .inl (fun z => z.elim)))⟩
  | .err _ d, v, S, h, ff, hh => by
    obtain ⟨a, dd, w, e, f, f2, g, g2, r⟩ := h
    exact ⟨a, dd, w, e, ff a f, ff dd f2, by rw [hh a (.inl f)]; exact g, by rw [hh dd (.inl f2)]; exact g2, R.frame r ff (fun b hb => hh b (hb.elim .inl (fun z => z.elim)))⟩
  | .any, _, _, h, _, _ => h
  | .scr _, _, _, h, ff, hh => by
    obtain ⟨a, e, h⟩ := h
    refine ⟨a, e, h.imp (fun h => ⟨ff a h.1, ?_⟩) id⟩
    have := hh a (.inl h.1)
    rcases h.2 with g | ⟨o, g⟩
    · exact .inl (by rw [this]; exact g)
    · exact .inr ⟨o, by rw [this]; exact g⟩
theorem RL.frame : ∀ {ds : List D} {vs : List V} {S : FP}, RL A F H ds vs S → (∀ b, F b → F' b) → (∀ b, F b ∨ S b → H' b = H b) → RL A F' H' ds vs S
  | [], _, _, h, _, _ => h
  | d :: ds, vs, S, h, ff, hh => by
    obtain ⟨v, vs', S1, S2, e, r, rl, q1, q2⟩ := h
    exact ⟨v, vs', S1, S2, e, R.frame r ff (fun b hb => hh b (hb.imp id (fun z => (q1 b z).1))), RL.frame rl ff (fun b hb => hh b (hb.imp id (q2 b))), q1, q2⟩
end

mutual
/-- frozen: what was owned joins what is frozen -/
theorem R.fz : ∀ {d : D} {v : V} {S T : FP}, R A F H d v S → (∀ b, F b → F' b) → (∀ b, S b → F' b) → R A F' H (fz d) v T
  | .non, _, _, _, h, _, _ => h
  | .bl _, _, _, _, h, _, _ => h
  | .int _, _, _, _, h, _, _ => h
  | .str _, _, _, _, h, _, _ => h
  | .tup ds, v, S, T, h, ff, fs => by
    obtain ⟨a, vs, e, f, g, r⟩ := h
    exact ⟨a, vs, e, ff a f, g, RL.fz r ff fs⟩
  | .lst false ds, v, S, T, h, ff, fs => by
    obtain ⟨a, vs, e, f, g, r⟩ := h
    exact ⟨a, vs, e, ff a f, g, RL.fz r ff (fun b hb => hb.elim)⟩
  | .lst true ds, v, S, T, h, ff, fs => by
    obtain ⟨a, vs, S', e, f, g, r, q⟩ := h
    exact ⟨a, vs, e, fs a f, g, RL.fz r ff (fun b hb => fs b (q b hb).1)⟩
  | .dct false ks ds, v, S, T, h, ff, fs => by
    obtain ⟨a, vs, e, f, g, l, r⟩ := h
    exact ⟨a, vs, e, ff a f, g, l, RL.fz r ff (fun b hb => hb.elim)⟩
  | .dct true ks ds, v, S, T, h, ff, fs => by
    obtain ⟨a, vs, S', e, f, g, l, r, q⟩ := h
    exact ⟨a, vs, e, fs a f, g, l, RL.fz r ff (fun b hb => fs b (q b hb).1)⟩
  | .ins false c ks ds, v, S, T, h, ff, fs => by
    obtain ⟨a, dx, vs, e, f, f2, g, g2, l, r⟩ := h
    exact ⟨a, dx, vs, e, ff a f, ff dx f2, g, g2, l, RL.fz r ff (fun b hb => hb.elim)⟩
  | .ins true c ks ds, v, S, T, h, ff, fs => by
    obtain ⟨a, dx, vs, S', e, f, f2, g, g2, l, r, q⟩ := h
    exact ⟨a, dx, vs, e, fs a f, ff dx f2, g, g2, l, RL.fz r ff (fun b hb => fs b (q b hb).1)⟩
  | .exd d, v, S, T, h, ff, fs => by
    obtain ⟨a, w, e, f, g, r⟩ := h
    exact ⟨a, w, e, ff a f, g, R.fz r ff (fun b hb => hb.elim)⟩
  | .err _ d, v, S, T, h, ff, fs => by
    obtain ⟨a, dd, w, e, f, f2, g, g2, r⟩ := h
    exact ⟨a, dd, w, e, ff a f, ff dd f2, g, g2, R.fz r ff (fun b hb => hb.elim)⟩
  | .any, _, _, _, h, _, _ => h
  | .scr _, _, _, _, h, ff, fs => by
    obtain ⟨a, e, h⟩ := h
    exact ⟨a, e, h.imp (fun h => ⟨ff a h.1, h.2⟩) id⟩
theorem RL.fz : ∀ {ds : List D} {vs : List V} {S T : FP}, RL A F H ds vs S → (∀ b, F b → F' b) → (∀ b, S b → F' b) → RL A F' H (fzL ds) vs T
  | [], _, _, _, h, _, _ => h
  | d :: ds, vs, S, T, h, ff, fs => by
    obtain ⟨v, vs', S1, S2, e, r, rl, q1, q2⟩ := h
    exact ⟨v, vs', fun _ => False, fun _ => False, e, R.fz r ff (fun b hb => fs b (q1 b hb).1), RL.fz rl ff (fun b hb => fs b (q2 b hb)), fun _ z => z.elim, fun _ z => z.elim⟩
end

mutual
theorem fz_nw : ∀ {d : D}, nw d = true → Fz.fz d = d
  | .non, _ => rfl
  | .bl _, _ => rfl
  | .int _, _ => rfl
  | .str _, _ => rfl
  | .tup ds, h => by
    show D.tup (fzL ds) = D.tup ds
    rw [fzL_nw h]
  | .lst o ds, h => by
    have h' : (!o && nwL ds) = true := h
    simp only [Bool.and_eq_true, Bool.not_eq_true'] at h'
    show D.lst false (fzL ds) = D.lst o ds
    rw [fzL_nw h'.2, h'.1]
  | .dct o ks ds, h => by
    have h' : (!o && nwL ds) = true := h
    simp only [Bool.and_eq_true, Bool.not_eq_true'] at h'
    show D.dct false ks (fzL ds) = D.dct o ks ds
    rw [fzL_nw h'.2, h'.1]
  | .ins o c ks ds, h => by
    have h' : (!o && nwL ds) = true := h
    simp only [Bool.and_eq_true, Bool.not_eq_true'] at h'
    show D.ins false c ks (fzL ds) = D.ins o c ks ds
    rw [fzL_nw h'.2, h'.1]
  | .exd d, h => by
    show D.exd (Fz.fz d) = D.exd d
    rw [fz_nw (d := d) h]
  | .err c d, h => by
    show D.err c (Fz.fz d) = D.err c d
    rw [fz_nw (d := d) h]
  | .any, _ => rfl
  | .scr _, _ => rfl
theorem fzL_nw : ∀ {ds : List D}, nwL ds = true → fzL ds = ds
  | [], _ => rfl
  | d :: ds, h => by
    have h' : (nw d && nwL ds) = true := h
    simp only [Bool.and_eq_true] at h'
    show Fz.fz d :: fzL ds = d :: ds
    rw [fz_nw h'.1, fzL_nw h'.2]
end

mutual
theorem nw_fz : ∀ (d : D), nw (Fz.fz d) = true
  | .non => rfl
  | .bl _ => rfl
  | .int _ => rfl
  | .str _ => rfl
  | .tup ds => nwL_fz ds
  | .lst o ds => by
    show (!false && nwL (fzL ds)) = true
    rw [nwL_fz ds]; rfl
  | .dct o ks ds => by
    show (!false && nwL (fzL ds)) = true
    rw [nwL_fz ds]; rfl
  | .ins o c ks ds => by
    show (!false && nwL (fzL ds)) = true
    rw [nwL_fz ds]; rfl
  | .exd d => nw_fz d
  | .err _ d => nw_fz d
  | .any => rfl
  | .scr _ => rfl
theorem nwL_fz : ∀ (ds : List D), nwL (fzL ds) = true
  | [] => rfl
  | d :: ds => by
    show (nw (Fz.fz d) && nwL (fzL ds)) = true
    rw [nw_fz d, nwL_fz ds]; rfl
end

mutual
/-- nothing owned: any footprint does -/
theorem R.none : ∀ {d : D} {v : V} {S T : FP}, nw d = true → R A F H d v S → R A F H d v T
  | d, v, S, T, h, r => by
    cases d with
    | non => exact r
    | bl _ => exact r
    | int _ => exact r
    | str _ => exact r
    | tup ds =>
      obtain ⟨a, vs, e, f, g, r⟩ := r
      exact ⟨a, vs, e, f, g, RL.none h r⟩
    | lst o ds =>
      have h' : (!o && nwL ds) = true := h
      simp only [Bool.and_eq_true, Bool.not_eq_true'] at h'
      obtain ⟨rfl, h2⟩ := h'
      exact r
    | dct o ks ds =>
      have h' : (!o && nwL ds) = true := h
      simp only [Bool.and_eq_true, Bool.not_eq_true'] at h'
      obtain ⟨rfl, h2⟩ := h'
      exact r
    | ins o c ks ds =>
      have h' : (!o && nwL ds) = true := h
      simp only [Bool.and_eq_true, Bool.not_eq_true'] at h'
      obtain ⟨rfl, h2⟩ := h'
      exact r
    | exd d => exact r
    | err _ d => exact r
    | any => exact r
    | scr _ => exact r
theorem RL.none : ∀ {ds : List D} {vs : List V} {S T : FP}, nwL ds = true → RL A F H ds vs S → RL A F H ds vs T
  | [], _, _, _, _, r => r
  | d :: ds, vs, S, T, h, r => by
    have h' : (nw d && nwL ds) = true := h
    simp only [Bool.and_eq_true] at h'
    obtain ⟨v, vs', S1, S2, e, r, rl, q1, q2⟩ := r
    exact ⟨v, vs', fun _ => False, fun _ => False, e, R.none h'.1 r, RL.none h'.2 rl, fun _ z => z.elim, fun _ z => z.elim⟩
end

theorem RL.length : ∀ {ds : List D} {vs : List V} {S : FP}, RL A F H ds vs S → vs.length = ds.length
  | [], _, _, h => by rw [show _ = [] from h]; rfl
  | d :: ds, vs, S, h => by
    obtain ⟨v, vs', S1, S2, rfl, r, rl, q1, q2⟩ := h
    simp [RL.length rl]
theorem RL.get : ∀ {ds : List D} {vs : List V} {S : FP} {i : Nat} {d : D}, RL A F H ds vs S → ds[i]? = some d → ∃ v, vs[i]? = some v ∧ R A F H d v S
  | [], _, _, _, _, _, e => by simp at e
  | d :: ds, vs, S, 0, d', h, e => by
    obtain ⟨v, vs', S1, S2, rfl, r, rl, q1, q2⟩ := h
    simp at e; subst e
    exact ⟨v, rfl, r.mono fun b hb => (q1 b hb).1⟩
  | d :: ds, vs, S, i + 1, d', h, e => by
    obtain ⟨v, vs', S1, S2, rfl, r, rl, q1, q2⟩ := h
    obtain ⟨w, g, r'⟩ := RL.get (i := i) rl (by simpa using e)
    exact ⟨w, by simpa using g, r'.mono q2⟩
theorem RL.append : ∀ {ds es : List D} {vs ws : List V} {S T U : FP}, RL A F H ds vs S → RL A F H es ws T → (∀ b, S b → U b ∧ ¬ T b) → (∀ b, T b → U b) → RL A F H (ds ++ es) (vs ++ ws) U
  | [], es, vs, ws, S, T, U, h, k, q1, q2 => by
    rw [show vs = [] from h]
    exact k.mono q2
  | d :: ds, es, vs, ws, S, T, U, h, k, q1, q2 => by
    obtain ⟨v, vs', S1, S2, rfl, r, rl, p1, p2⟩ := h
    refine ⟨v, vs' ++ ws, S1, fun b => S2 b ∨ T b, rfl, r, RL.append rl k (fun b hb => ⟨.inl hb, (q1 b (p2 b hb)).2⟩) (fun b hb => .inr hb), fun b hb => ⟨(q1 b (p1 b hb).1).1, fun z => z.elim (p1 b hb).2 (q1 b (p1 b hb).1).2⟩, fun b hb => hb.elim (fun z => (q1 b (p2 b z)).1) (q2 b)⟩
theorem RL.split : ∀ {ds es : List D} {us : List V} {U : FP}, RL A F H (ds ++ es) us U → ∃ vs ws S T, us = vs ++ ws ∧ RL A F H ds vs S ∧ RL A F H es ws T ∧ (∀ b, S b → U b ∧ ¬ T b) ∧ ∀ b, T b → U b
  | [], es, us, U, h => ⟨[], us, fun _ => False, U, rfl, rfl, h, fun _ z => z.elim, fun _ z => z⟩
  | d :: ds, es, us, U, h => by
    obtain ⟨v, vs', S1, S2, rfl, r, rl, p1, p2⟩ := h
    obtain ⟨vs, ws, S, T, rfl, r1, r2, q1, q2⟩ := RL.split rl
    refine ⟨v :: vs, ws, fun b => S1 b ∨ S b, T, rfl, ⟨v, vs, S1, S, rfl, r, r1, fun b hb => ⟨.inl hb, fun z => (p1 b hb).2 (q1 b z).1⟩, fun b hb => .inr hb⟩, r2, fun b hb => ?_, fun b hb => p2 b (q2 b hb)⟩
    rcases hb with hb | hb
    · exact ⟨(p1 b hb).1, fun z => (p1 b hb).2 (q2 b z)⟩
    · exact ⟨p2 b (q1 b hb).1, (q1 b hb).2⟩
theorem RL.one {d : D} {v : V} {S : FP} (r : R A F H d v S) : RL A F H [d] [v] S := ⟨v, [], S, fun _ => False, rfl, r, rfl, fun b hb => ⟨hb, id⟩, fun _ z => z.elim⟩
theorem RL.un {d : D} {vs : List V} {S : FP} (h : RL A F H [d] vs S) : ∃ v, vs = [v] ∧ R A F H d v S := by
  obtain ⟨v, vs', S1, S2, rfl, r, rl, p1, p2⟩ := h
  rw [show vs' = [] from rl]
  exact ⟨v, rfl, r.mono fun b hb => (p1 b hb).1⟩
theorem RL.un2 {d e : D} {vs : List V} {S : FP} (h : RL A F H [d, e] vs S) : ∃ v w S1 S2, vs = [v, w] ∧ R A F H d v S1 ∧ R A F H e w S2 ∧ (∀ b, S1 b → S b ∧ ¬ S2 b) ∧ ∀ b, S2 b → S b := by
  obtain ⟨v, vs', S1, S2, rfl, r, rl, p1, p2⟩ := h
  obtain ⟨w, rfl, r2⟩ := RL.un rl
  exact ⟨v, w, S1, S2, rfl, r, r2, p1, p2⟩
theorem RL.two {d e : D} {v w : V} {S1 S2 S : FP} (r : R A F H d v S1) (r2 : R A F H e w S2) (p1 : ∀ b, S1 b → S b ∧ ¬ S2 b) (p2 : ∀ b, S2 b → S b) : RL A F H [d, e] [v, w] S :=
  ⟨v, [w], S1, S2, rfl, r, RL.one r2, p1, p2⟩
/-- one item exchanged -/
theorem RL.focus : ∀ {ds : List D} {vs : List V} {S : FP} {i : Nat} {d : D}, RL A F H ds vs S → ds[i]? = some d →
    ∃ (v : V) (S1 S2 : FP), vs[i]? = some v ∧ R A F H d v S1 ∧ (∀ b, S1 b → S b ∧ ¬ S2 b) ∧ (∀ b, S2 b → S b) ∧
      ∀ (F' : FP) (H' : Hp) (d' : D) (v' : V) (S1' S' : FP), (∀ b, F b → F' b) → (∀ b, F b ∨ S2 b → H' b = H b) → R A F' H' d' v' S1' → (∀ b, S1' b → S' b ∧ ¬ S2 b) → (∀ b, S2 b → S' b) →
        RL A F' H' (ds.set i d') (vs.set i v') S'
  | [], _, _, _, _, _, e => by simp at e
  | d :: ds, vs, S, 0, d', h, e => by
    obtain ⟨v, vs', S1, S2, rfl, r, rl, q1, q2⟩ := h
    simp at e; subst e
    refine ⟨v, S1, S2, rfl, r, q1, q2, fun F' H' d' v' S1' S' ff hh r' p1 p2 => ?_⟩
    exact ⟨v', vs', S1', S2, rfl, r', rl.frame ff hh, p1, p2⟩
  | d :: ds, vs, S, i + 1, d', h, e => by
    obtain ⟨v, vs', S1, S2, rfl, r, rl, q1, q2⟩ := h
    obtain ⟨w, T1, T2, g, r', t1, t2, back⟩ := RL.focus (i := i) rl (by simpa using e)
    refine ⟨w, T1, fun b => S1 b ∨ T2 b, by simpa using g, r', fun b hb => ⟨q2 b (t1 b hb).1, ?_⟩, fun b hb => ?_, fun F' H' d' v' S1' S' ff hh r' p1 p2 => ?_⟩
    · rintro (z | z)
      · exact (q1 b z).2 (t1 b hb).1
      · exact (t1 b hb).2 z
    · rcases hb with z | z
      · exact (q1 b z).1
      · exact q2 b (t2 b z)
    · refine ⟨v, vs'.set i v', S1, fun b => T2 b ∨ S1' b, rfl, r.frame ff fun b hb => hh b (hb.imp id .inl), back F' H' d' v' S1' _ ff (fun b hb => hh b (hb.imp id .inr)) r' (fun b hb => ⟨.inr hb, fun z => (p1 b hb).2 (.inr z)⟩) (fun b hb => .inl hb), fun b hb => ⟨p2 b (.inl hb), ?_⟩, fun b hb => ?_⟩
      · rintro (z | z)
        · exact (q1 b hb).2 (t2 b z)
        · exact (p1 b z).2 (.inl hb)
      · rcases hb with z | z
        · exact p2 b (.inr z)
        · exact (p1 b z).1
end
end Fz

namespace Fz
open PySem L2

section
variable {A : Gm} {F F' : FP} {H H' : Hp}
theorem RO.mono : ∀ {ds : List (Option D)} {vs : List (Option V)} {S T : FP}, RO A F H ds vs S → (∀ b, S b → T b) → RO A F H ds vs T
  | [], _, _, _, h, _ => h
  | none :: ds, vs, S, T, h, st => by
    obtain ⟨v, vs', e, r⟩ := h
    exact ⟨v, vs', e, RO.mono r st⟩
  | some d :: ds, vs, S, T, h, st => by
    obtain ⟨v, vs', S1, S2, e, r, rl, q1, q2⟩ := h
    exact ⟨v, vs', S1, S2, e, r, rl, fun b hb => ⟨st b (q1 b hb).1, (q1 b hb).2⟩, fun b hb => st b (q2 b hb)⟩
theorem RO.frame : ∀ {ds : List (Option D)} {vs : List (Option V)} {S : FP}, RO A F H ds vs S → (∀ b, F b → F' b) → (∀ b, F b ∨ S b → H' b = H b) → RO A F' H' ds vs S
  | [], _, _, h, _, _ => h
  | none :: ds, vs, S, h, ff, hh => by
    obtain ⟨v, vs', e, r⟩ := h
    exact ⟨v, vs', e, RO.frame r ff hh⟩
  | some d :: ds, vs, S, h, ff, hh => by
    obtain ⟨v, vs', S1, S2, e, r, rl, q1, q2⟩ := h
    exact ⟨v, vs', S1, S2, e, R.frame r ff (fun b hb => hh b (hb.imp id (fun z => (q1 b z).1))), RO.frame rl ff (fun b hb => hh b (hb.imp id (q2 b))), q1, q2⟩
theorem RO.length : ∀ {ds : List (Option D)} {vs : List (Option V)} {S : FP}, RO A F H ds vs S → vs.length = ds.length
  | [], _, _, h => by rw [show _ = [] from h]; rfl
  | none :: ds, vs, S, h => by
    obtain ⟨v, vs', rfl, r⟩ := h
    simp [RO.length r]
  | some d :: ds, vs, S, h => by
    obtain ⟨v, vs', S1, S2, rfl, r, rl, q1, q2⟩ := h
    simp [RO.length rl]
theorem RO.get : ∀ {ds : List (Option D)} {vs : List (Option V)} {S : FP} {i : Nat} {d : D}, RO A F H ds vs S → ds[i]? = some (some d) → ∃ v, vs[i]? = some (some v) ∧ R A F H d v S
  | [], _, _, _, _, _, e => by simp at e
  | none :: ds, vs, S, 0, d', h, e => by simp at e
  | none :: ds, vs, S, i + 1, d', h, e => by
    obtain ⟨v, vs', rfl, r⟩ := h
    obtain ⟨w, g, r'⟩ := RO.get (i := i) r (by simpa using e)
    exact ⟨w, by simpa using g, r'⟩
  | some d :: ds, vs, S, 0, d', h, e => by
    obtain ⟨v, vs', S1, S2, rfl, r, rl, q1, q2⟩ := h
    simp at e; subst e
    exact ⟨v, rfl, r.mono fun b hb => (q1 b hb).1⟩
  | some d :: ds, vs, S, i + 1, d', h, e => by
    obtain ⟨v, vs', S1, S2, rfl, r, rl, q1, q2⟩ := h
    obtain ⟨w, g, r'⟩ := RO.get (i := i) rl (by simpa using e)
    exact ⟨w, by simpa using g, r'.mono q2⟩
theorem RO.append : ∀ {ds es : List (Option D)} {vs ws : List (Option V)} {S T U : FP}, RO A F H ds vs S → RO A F H es ws T → (∀ b, S b → U b ∧ ¬ T b) → (∀ b, T b → U b) → RO A F H (ds ++ es) (vs ++ ws) U
  | [], es, vs, ws, S, T, U, h, k, q1, q2 => by
    rw [show vs = [] from h]
    exact k.mono q2
  | none :: ds, es, vs, ws, S, T, U, h, k, q1, q2 => by
    obtain ⟨v, vs', rfl, r⟩ := h
    exact ⟨v, vs' ++ ws, rfl, RO.append r k q1 q2⟩
  | some d :: ds, es, vs, ws, S, T, U, h, k, q1, q2 => by
    obtain ⟨v, vs', S1, S2, rfl, r, rl, p1, p2⟩ := h
    refine ⟨v, vs' ++ ws, S1, fun b => S2 b ∨ T b, rfl, r, RO.append rl k (fun b hb => ⟨.inl hb, (q1 b (p2 b hb)).2⟩) (fun b hb => .inr hb), fun b hb => ⟨(q1 b (p1 b hb).1).1, fun z => z.elim (p1 b hb).2 (q1 b (p1 b hb).1).2⟩, fun b hb => hb.elim (fun z => (q1 b (p2 b z)).1) (q2 b)⟩
theorem RO.split : ∀ {ds es : List (Option D)} {us : List (Option V)} {U : FP}, RO A F H (ds ++ es) us U → ∃ (vs ws : List (Option V)) (S T : FP), us = vs ++ ws ∧ RO A F H ds vs S ∧ RO A F H es ws T ∧ (∀ b, S b → U b ∧ ¬ T b) ∧ ∀ b, T b → U b
  | [], es, us, U, h => ⟨[], us, fun _ => False, U, rfl, rfl, h, fun _ z => z.elim, fun _ z => z⟩
  | none :: ds, es, us, U, h => by
    obtain ⟨v, vs', rfl, rl⟩ := h
    obtain ⟨vs, ws, S, T, rfl, r1, r2, q1, q2⟩ := RO.split rl
    exact ⟨v :: vs, ws, S, T, rfl, ⟨v, vs, rfl, r1⟩, r2, q1, q2⟩
  | some d :: ds, es, us, U, h => by
    obtain ⟨v, vs', S1, S2, rfl, r, rl, p1, p2⟩ := h
    obtain ⟨vs, ws, S, T, rfl, r1, r2, q1, q2⟩ := RO.split rl
    refine ⟨some v :: vs, ws, fun b => S1 b ∨ S b, T, rfl, ⟨v, vs, S1, S, rfl, r, r1, fun b hb => ⟨.inl hb, fun z => (p1 b hb).2 (q1 b z).1⟩, fun b hb => .inr hb⟩, r2, fun b hb => ?_, fun b hb => p2 b (q2 b hb)⟩
    rcases hb with hb | hb
    · exact ⟨(p1 b hb).1, fun z => (p1 b hb).2 (q2 b z)⟩
    · exact ⟨p2 b (q1 b hb).1, (q1 b hb).2⟩
theorem RO.ofL : ∀ {ds : List D} {vs : List V} {S : FP}, RL A F H ds vs S → RO A F H (ds.map some) (vs.map some) S
  | [], _, _, h => by rw [show _ = [] from h]; rfl
  | d :: ds, vs, S, h => by
    obtain ⟨v, vs', S1, S2, rfl, r, rl, q1, q2⟩ := h
    exact ⟨v, vs'.map some, S1, S2, rfl, r, RO.ofL rl, q1, q2⟩
theorem RO.toL : ∀ {ds : List D} {vs : List (Option V)} {S : FP}, RO A F H (ds.map some) vs S → ∃ ws : List V, vs = ws.map some ∧ RL A F H ds ws S
  | [], _, _, h => ⟨[], by rw [show _ = [] from h]; rfl, rfl⟩
  | d :: ds, vs, S, h => by
    obtain ⟨v, vs', S1, S2, rfl, r, rl, q1, q2⟩ := h
    obtain ⟨ws, rfl, rl'⟩ := RO.toL rl
    exact ⟨v :: ws, rfl, v, ws, S1, S2, rfl, r, rl', q1, q2⟩
theorem RO.nones : ∀ (n : Nat) (vs : List (Option V)) (S : FP), vs.length = n → RO A F H (List.replicate n none) vs S
  | 0, vs, S, h => List.eq_nil_of_length_eq_zero h
  | n + 1, [], S, h => by simp at h
  | n + 1, v :: vs, S, h => ⟨v, vs, rfl, RO.nones n vs S (by simpa using h)⟩
/-- a place taken out; put back whatever one likes -/
theorem RO.focus : ∀ {ds : List (Option D)} {vs : List (Option V)} {S : FP} {i : Nat} {d : D}, RO A F H ds vs S → ds[i]? = some (some d) →
    ∃ (v : V) (S1 S2 : FP), vs[i]? = some (some v) ∧ R A F H d v S1 ∧ (∀ b, S1 b → S b ∧ ¬ S2 b) ∧ (∀ b, S2 b → S b) ∧ RO A F H (ds.set i none) vs S2
  | [], _, _, _, _, _, e => by simp at e
  | none :: ds, vs, S, 0, d', h, e => by simp at e
  | none :: ds, vs, S, i + 1, d', h, e => by
    obtain ⟨v, vs', rfl, r⟩ := h
    obtain ⟨w, S1, S2, g, r', q1, q2, back⟩ := RO.focus (i := i) r (by simpa using e)
    exact ⟨w, S1, S2, by simpa using g, r', q1, q2, v, vs', rfl, back⟩
  | some d :: ds, vs, S, 0, d', h, e => by
    obtain ⟨v, vs', S1, S2, rfl, r, rl, q1, q2⟩ := h
    simp at e; subst e
    exact ⟨v, S1, S2, rfl, r, q1, q2, some v, vs', rfl, rl⟩
  | some d :: ds, vs, S, i + 1, d', h, e => by
    obtain ⟨v, vs', S1, S2, rfl, r, rl, q1, q2⟩ := h
    obtain ⟨w, T1, T2, g, r', t1, t2, back⟩ := RO.focus (i := i) rl (by simpa using e)
    refine ⟨w, T1, fun b => S1 b ∨ T2 b, by simpa using g, r', fun b hb => ⟨q2 b (t1 b hb).1, ?_⟩, fun b hb => ?_, v, vs', S1, T2, rfl, r, back, fun b hb => ⟨.inl hb, fun z => (q1 b hb).2 (t2 b z)⟩, fun b hb => .inr hb⟩
    · rintro (z | z)
      · exact (q1 b z).2 (t1 b hb).1
      · exact (t1 b hb).2 z
    · rcases hb with z | z
      · exact (q1 b z).1
      · exact q2 b (t2 b z)
/-- an empty place filled, its value stored -/
theorem RO.put : ∀ {ds : List (Option D)} {vs : List (Option V)} {S S1 U : FP} {i : Nat} {d : D} {v : V}, RO A F H ds vs S → i < ds.length → R A F H d v S1 → (∀ b, S1 b → U b ∧ ¬ S b) → (∀ b, S b → U b) →
    RO A F H (ds.set i (some d)) (vs.set i (some v)) U
  | [], vs, S, S1, U, i, d, v, h, l, r, q1, q2 => by simp at l
  | none :: ds, vs, S, S1, U, 0, d, v, h, l, r, q1, q2 => by
    obtain ⟨w, vs', rfl, rl⟩ := h
    exact ⟨v, vs', S1, S, rfl, r, rl, q1, q2⟩
  | some e :: ds, vs, S, S1, U, 0, d, v, h, l, r, q1, q2 => by
    obtain ⟨w, vs', T1, T2, rfl, r', rl, p1, p2⟩ := h
    exact ⟨v, vs', S1, T2, rfl, r, rl, fun b hb => ⟨(q1 b hb).1, fun z => (q1 b hb).2 (p2 b z)⟩, fun b hb => q2 b (p2 b hb)⟩
  | none :: ds, vs, S, S1, U, i + 1, d, v, h, l, r, q1, q2 => by
    obtain ⟨w, vs', rfl, rl⟩ := h
    exact ⟨w, vs'.set i (some v), rfl, RO.put rl (by simpa using l) r q1 q2⟩
  | some e :: ds, vs, S, S1, U, i + 1, d, v, h, l, r, q1, q2 => by
    obtain ⟨w, vs', T1, T2, rfl, r', rl, p1, p2⟩ := h
    refine ⟨w, vs'.set i (some v), T1, fun b => S1 b ∨ T2 b, rfl, r', RO.put rl (by simpa using l) r (fun b hb => ⟨.inl hb, fun z => (q1 b hb).2 (p2 b z)⟩) (fun b hb => .inr hb), fun b hb => ⟨q2 b (p1 b hb).1, ?_⟩, fun b hb => ?_⟩
    · rintro (z | z)
      · exact (q1 b z).2 (p1 b hb).1
      · exact (p1 b hb).2 z
    · rcases hb with z | z
      · exact (q1 b z).1
      · exact q2 b (p2 b z)
/-- .. where the value stands already -/
theorem RO.fill {ds : List (Option D)} {vs : List (Option V)} {S S1 U : FP} {i : Nat} {d : D} {v : V} (h : RO A F H ds vs S) (e : vs[i]? = some (some v)) (r : R A F H d v S1) (q1 : ∀ b, S1 b → U b ∧ ¬ S b) (q2 : ∀ b, S b → U b) :
    RO A F H (ds.set i (some d)) vs U := by
  have l : i < vs.length := (List.getElem?_eq_some_iff.mp e).1
  have x : vs.set i (some v) = vs := by
    apply List.ext_getElem?
    intro j
    by_cases hj : i = j
    · subst hj
      rw [List.getElem?_set_self l, e]
    · rw [List.getElem?_set_ne hj]
  have := RO.put h (i := i) (d := d) (v := v) (by rw [← h.length]; exact l) r q1 q2
  rwa [x] at this
theorem RO.clear : ∀ {ds : List (Option D)} {vs : List (Option V)} {S : FP} (i : Nat) (v : Option V), RO A F H ds vs S → RO A F H (ds.set i none) (vs.set i v) S
  | [], vs, S, i, v, h => by
    rw [show vs = [] from h]
    rfl
  | none :: ds, vs, S, 0, v, h => by
    obtain ⟨w, vs', rfl, rl⟩ := h
    exact ⟨v, vs', rfl, rl⟩
  | some e :: ds, vs, S, 0, v, h => by
    obtain ⟨w, vs', T1, T2, rfl, r', rl, p1, p2⟩ := h
    exact ⟨v, vs', rfl, rl.mono p2⟩
  | none :: ds, vs, S, i + 1, v, h => by
    obtain ⟨w, vs', rfl, rl⟩ := h
    exact ⟨w, vs'.set i v, rfl, RO.clear i v rl⟩
  | some e :: ds, vs, S, i + 1, v, h => by
    obtain ⟨w, vs', T1, T2, rfl, r', rl, p1, p2⟩ := h
    exact ⟨w, vs'.set i v, T1, T2, rfl, r', RO.clear i v rl, p1, p2⟩
end

/-! ### the ground of a stretch of code, and what stays of it -/
structure Wd (F S : FP) (H : Hp) : Prop where
  fs : ∀ b, F b → ¬ S b
  lv : ∀ b, F b ∨ S b → H b ≠ none
structure Ext (F S : FP) (H : Hp) (F' S' : FP) (H' : Hp) : Prop where
  fr : ∀ b, H b ≠ none → ¬ S b → H' b = H b
  ff : ∀ b, F b → F' b
  fg : ∀ b, F' b → F b ∨ S b ∨ H b = none
  sg : ∀ b, S' b → S b ∨ H b = none
  lv : ∀ b, H b ≠ none → H' b ≠ none
section
variable {F S F1 S1 F2 S2 T U : FP} {H H1 H2 : Hp}
theorem Ext.refl : Ext F S H F S H := ⟨fun _ _ _ => rfl, fun _ z => z, fun _ z => .inl z, fun _ z => .inl z, fun _ z => z⟩
theorem Ext.trans (a : Ext F S H F1 S1 H1) (b : Ext F1 S1 H1 F2 S2 H2) : Ext F S H F2 S2 H2 where
  fr := fun x hx nx => by
    have h1 := a.fr x hx nx
    rw [← h1]
    refine b.fr x (a.lv x hx) fun z => ?_
    rcases a.sg x z with y | y
    · exact nx y
    · exact hx y
  ff := fun x z => b.ff x (a.ff x z)
  fg := fun x z => by
    rcases b.fg x z with y | y | y
    · exact a.fg x y
    · exact .inr (a.sg x y)
    · cases h : H x with
      | none => exact .inr (.inr rfl)
      | some o => exact absurd y (a.lv x (by rw [h]; simp))
  sg := fun x z => by
    rcases b.sg x z with y | y
    · exact a.sg x y
    · cases h : H x with
      | none => exact .inr rfl
      | some o => exact absurd y (a.lv x (by rw [h]; simp))
  lv := fun x z => b.lv x (a.lv x z)
/-- more owned beside it, untouched -/
theorem Ext.beside (a : Ext F S H F1 S1 H1) (q : ∀ b, S b → U b) (t : ∀ b, T b → U b) : Ext F U H F1 (fun b => S1 b ∨ T b) H1 where
  fr := fun x hx nx => a.fr x hx fun z => nx (q x z)
  ff := a.ff
  fg := fun x z => (a.fg x z).imp id (Or.imp (q x) id)
  sg := fun x z => z.elim (fun y => (a.sg x y).imp (q x) id) fun y => .inl (t x y)
  lv := a.lv
theorem Ext.less (a : Ext F S H F1 S1 H1) (q : ∀ b, S2 b → S1 b) : Ext F S H F1 S2 H1 := ⟨a.fr, a.ff, a.fg, fun x z => a.sg x (q x z), a.lv⟩
/-- a new object -/
theorem Ext.new {p : Addr} {o : HO} (h : H p = none) : Ext F S H F (fun b => S b ∨ b = p) (upd H p o) where
  fr := fun b hb _ => upd_ne (fun e => hb (by rw [e]; exact h))
  ff := fun _ z => z
  fg := fun _ z => .inl z
  sg := fun b z => z.imp id fun e => by rw [e]; exact h
  lv := fun b hb => by rw [upd_ne (fun e => hb (by rw [e]; exact h))]; exact hb
theorem Ext.newF {p : Addr} {o : HO} (h : H p = none) : Ext F S H (fun b => F b ∨ b = p) S (upd H p o) where
  fr := fun b hb _ => upd_ne (fun e => hb (by rw [e]; exact h))
  ff := fun _ z => .inl z
  fg := fun b z => z.elim .inl fun e => .inr (.inr (by rw [e]; exact h))
  sg := fun b z => .inl z
  lv := fun b hb => by rw [upd_ne (fun e => hb (by rw [e]; exact h))]; exact hb
theorem Wd.new (w : Wd F S H) {p : Addr} {o : HO} (h : H p = none) : Wd F (fun b => S b ∨ b = p) (upd H p o) where
  fs := fun b z y => y.elim (w.fs b z) fun e => w.lv b (.inl z) (by rw [e]; exact h)
  lv := fun b z => by
    by_cases e : b = p
    · rw [e, upd_same]; simp
    · rw [upd_ne e]
      rcases z with z | z | z
      · exact w.lv b (.inl z)
      · exact w.lv b (.inr z)
      · exact absurd z e
theorem Wd.newF (w : Wd F S H) {p : Addr} {o : HO} (h : H p = none) : Wd (fun b => F b ∨ b = p) S (upd H p o) where
  fs := fun b z y => z.elim (fun z => w.fs b z y) fun e => w.lv b (.inr y) (by rw [e]; exact h)
  lv := fun b z => by
    by_cases e : b = p
    · rw [e, upd_same]; simp
    · rw [upd_ne e]
      rcases z with (z | z) | z
      · exact w.lv b (.inl z)
      · exact absurd z e
      · exact w.lv b (.inr z)
theorem Wd.less (w : Wd F S H) (q : ∀ b, T b → S b) : Wd F T H := ⟨fun b z y => w.fs b z (q b y), fun b z => w.lv b (z.imp id (q b))⟩
/-- what is owned beside it goes on -/
theorem Wd.beside (w : Wd F U H) (a : Ext F S H F1 S1 H1) (w1 : Wd F1 S1 H1) (t : ∀ b, T b → U b ∧ ¬ S b) : Wd F1 (fun b => S1 b ∨ T b) H1 where
  fs := fun b z y => y.elim (w1.fs b z) fun y => by
    rcases a.fg b z with k | k | k
    · exact w.fs b k (t b y).1
    · exact (t b y).2 k
    · exact w.lv b (.inr (t b y).1) k
  lv := fun b z => by
    rcases z with z | z | z
    · exact w1.lv b (.inl z)
    · exact w1.lv b (.inr z)
    · exact a.lv b (w.lv b (.inr (t b z).1))
/-- .. and is disjoint from what came -/
theorem Ext.apart (a : Ext F S H F1 S1 H1) (w : Wd F U H) (t : ∀ b, T b → U b ∧ ¬ S b) : ∀ b, S1 b → ¬ T b := fun b z y => by
  rcases a.sg b z with k | k
  · exact (t b y).2 k
  · exact w.lv b (.inr (t b y).1) k
theorem Ext.same (a : Ext F S H F1 S1 H1) (w : Wd F U H) (t : ∀ b, T b → U b ∧ ¬ S b) (q : ∀ b, S b → U b) : ∀ b, F b ∨ T b → H1 b = H b := fun b z => by
  rcases z with z | z
  · exact a.fr b (w.lv b (.inl z)) fun y => w.fs b z (q b y)
  · exact a.fr b (w.lv b (.inr (t b z).1)) (t b z).2
end
end Fz

namespace Fz
open PySem L2

section
variable {A : Gm} {F F' : FP} {H H' : Hp}
theorem RO.fillMid {X Y : List (Option D)} {VX VY : List (Option V)} {v : V} {d : D} {S S1 U : FP} (h : RO A F H (X ++ none :: Y) (VX ++ some v :: VY) S) (l : X.length = VX.length) (r : R A F H d v S1) (q1 : ∀ b, S1 b → U b ∧ ¬ S b) (q2 : ∀ b, S b → U b) :
    RO A F H (X ++ some d :: Y) (VX ++ some v :: VY) U := by
  obtain ⟨us, ws, T1, T2, q, r1, r2, p1, p2⟩ := h.split
  have hq := List.append_inj q (by rw [← l, r1.length])
  rw [← hq.1] at r1
  rw [← hq.2] at r2
  obtain ⟨w, vs', e, rl⟩ := r2
  injection e with e1 e2
  subst e1 e2
  refine RO.append (T := fun b => S1 b ∨ T2 b) r1 (show RO A F H (some d :: Y) (some v :: VY) _ from ⟨v, VY, S1, T2, rfl, r, rl, fun b hb => ⟨.inl hb, fun z => (q1 b hb).2 (p2 b z)⟩, fun b hb => .inr hb⟩) (fun b hb => ⟨q2 b (p1 b hb).1, fun z => ?_⟩) (fun b hb => hb.elim (fun z => (q1 b z).1) fun z => q2 b (p2 b z))
  rcases z with z | z
  · exact (q1 b z).2 (p1 b hb).1
  · exact (p1 b hb).2 z
theorem RO.takeMid {X Y : List (Option D)} {VX VY : List (Option V)} {v : V} {d : D} {S : FP} (h : RO A F H (X ++ some d :: Y) (VX ++ some v :: VY) S) (l : X.length = VX.length) :
    ∃ S1 S2 : FP, R A F H d v S1 ∧ RO A F H (X ++ Y) (VX ++ VY) S2 ∧ (∀ b, S1 b → S b ∧ ¬ S2 b) ∧ ∀ b, S2 b → S b := by
  obtain ⟨us, ws, T1, T2, q, r1, r2, p1, p2⟩ := h.split
  have hq := List.append_inj q (by rw [← l, r1.length])
  rw [← hq.1] at r1
  rw [← hq.2] at r2
  obtain ⟨w, vs', S1, S2, e, r, rl, q1, q2⟩ := r2
  injection e with e1 e2
  injection e1 with e1
  subst e1 e2
  refine ⟨S1, fun b => T1 b ∨ S2 b, r, RO.append (U := fun b => T1 b ∨ S2 b) r1 rl (fun b hb => ⟨.inl hb, fun z => (p1 b hb).2 (q2 b z)⟩) (fun b hb => .inr hb), fun b hb => ⟨p2 b (q1 b hb).1, ?_⟩, fun b hb => ?_⟩
  · rintro (z | z)
    · exact (p1 b z).2 (q1 b hb).1
    · exact (q1 b hb).2 z
  · rcases hb with z | z
    · exact (p1 b z).1
    · exact p2 b (q2 b z)
end

/-! ### the state of a body -/
structure En where
  F : FP
  S : FP
  H : Hp
  ar : Nat → V
abbrev Env := List (Option D)
/-- ρ: what the slots σ hold; τ: what the values ts that are at hand hold; pr: the slots that nobody stores to -/
def ST (A : Gm) (pr : List Nat) (e : En) (ρ : Env) (σ : St) (τ : List (Option D)) (ts : List (Option V)) (H : Hp) : Prop :=
  ∃ F S, RO A F H (ρ ++ τ) (σ ++ ts) S ∧ ρ.length = σ.length ∧ Wd F S H ∧ Ext e.F e.S e.H F S H ∧ ∀ k ∈ pr, σ[k]? = some (some (e.ar k))
section
variable {A : Gm} {pr : List Nat} {e : En} {ρ : Env} {σ : St} {τ : List (Option D)} {ts : List (Option V)} {H : Hp} {d : D} {v : V} {i : Nat}
theorem ST.len (h : ST A pr e ρ σ τ ts H) : ρ.length = σ.length := let ⟨_, _, _, l, _⟩ := h; l
theorem ST.lenT (h : ST A pr e ρ σ τ ts H) : τ.length = ts.length := by
  obtain ⟨F, S, r, l, _⟩ := h
  have := r.length
  simp [l] at this
  exact this.symm
theorem ST.val (h : ST A pr e ρ σ τ ts H) (hd : ρ[i]? = some (some d)) : ∃ v, σ[i]? = some (some v) := by
  obtain ⟨F, S, r, l, _⟩ := h
  have hi : i < ρ.length := (List.getElem?_eq_some_iff.mp hd).1
  obtain ⟨v, g, _⟩ := r.get (i := i) (d := d) (by rw [List.getElem?_append_left hi]; exact hd)
  exact ⟨v, by rw [List.getElem?_append_left (by omega)] at g; exact g⟩
/-- one more at hand -/
theorem ST.push (h : ST A pr e ρ σ τ ts H) (r : ∀ F, R A F H d v (fun _ => False)) : ST A pr e ρ σ (τ ++ [some d]) (ts ++ [some v]) H := by
  obtain ⟨F, S, ro, l, w, x, p⟩ := h
  refine ⟨F, S, ?_, l, w, x, p⟩
  rw [← List.append_assoc, ← List.append_assoc]
  exact RO.append ro (show RO A F H [some d] [some v] (fun _ => False) from ⟨v, [], fun _ => False, fun _ => False, rfl, r F, rfl, fun _ z => z.elim, fun _ z => z.elim⟩) (fun b hb => ⟨hb, id⟩) (fun _ z => z.elim)
theorem ST.hold (h : ST A pr e ρ σ τ ts H) (v : V) : ST A pr e ρ σ (τ ++ [none]) (ts ++ [some v]) H := by
  obtain ⟨F, S, ro, l, w, x, p⟩ := h
  refine ⟨F, S, ?_, l, w, x, p⟩
  rw [← List.append_assoc, ← List.append_assoc]
  exact RO.append ro (show RO A F H [none] [some v] (fun _ => False) from ⟨some v, [], rfl, rfl⟩) (fun b hb => ⟨hb, id⟩) (fun _ z => z.elim)
theorem ST.pop {x : Option D} {y : Option V} (h : ST A pr e ρ σ (τ ++ [x]) (ts ++ [y]) H) : ST A pr e ρ σ τ ts H := by
  have lt := h.lenT
  obtain ⟨F, S, ro, l, w, ex, p⟩ := h
  rw [← List.append_assoc, ← List.append_assoc] at ro
  obtain ⟨us, ws, S1, S2, q, r1, r2, q1, q2⟩ := ro.split
  have l1 := r1.length
  simp only [List.length_append, List.length_cons, List.length_nil] at l1 lt
  have : us = σ ++ ts ∧ ws = [y] := by
    have := List.append_inj q (by simp; omega)
    exact ⟨this.1.symm, this.2.symm⟩
  rw [this.1] at r1
  exact ⟨F, S, r1.mono fun b hb => (q1 b hb).1, l, w, ex, p⟩
/-- a slot read, frozen -/
theorem ST.load (h : ST A pr e ρ σ τ ts H) (hd : ρ[i]? = some (some d)) (hv : σ[i]? = some (some v)) : ST A pr e (ρ.set i (some (fz d))) σ (τ ++ [some (fz d)]) (ts ++ [some v]) H := by
  obtain ⟨F, S, ro, l, w, x, p⟩ := h
  have hi : i < ρ.length := (List.getElem?_eq_some_iff.mp hd).1
  have hv' : (σ ++ ts)[i]? = some (some v) := by rw [List.getElem?_append_left (by omega)]; exact hv
  obtain ⟨v', S1, S2, g, r, q1, q2, back⟩ := ro.focus (i := i) (d := d) (by rw [List.getElem?_append_left hi]; exact hd)
  rw [hv'] at g
  have : v = v' := by simpa using g
  subst this
  have ff : ∀ b, F b → F b ∨ S1 b := fun b hb => .inl hb
  have rz : R A (fun b => F b ∨ S1 b) H (fz d) v (fun _ => False) := r.fz ff (fun b hb => .inr hb)
  have b1 : RO A (fun b => F b ∨ S1 b) H ((ρ ++ τ).set i none) (σ ++ ts) S2 := back.frame ff (fun _ _ => rfl)
  have b2 := b1.fill (i := i) (U := S2) hv' rz (fun _ z => z.elim) (fun _ z => z)
  rw [List.set_set, List.set_append_left _ _ hi] at b2
  refine ⟨fun b => F b ∨ S1 b, S2, ?_, by simpa using l, ⟨fun b z y => ?_, fun b z => ?_⟩, x.trans ⟨fun _ _ _ => rfl, ff, fun b z => z.elim .inl fun z => .inr (.inl (q1 b z).1), fun b z => .inl (q2 b z), fun _ z => z⟩, p⟩
  · rw [← List.append_assoc, ← List.append_assoc]
    exact RO.append b2 (show RO A _ H [some (fz d)] [some v] (fun _ => False) from ⟨v, [], fun _ => False, fun _ => False, rfl, rz, rfl, fun _ z => z.elim, fun _ z => z.elim⟩) (fun b hb => ⟨hb, id⟩) (fun _ z => z.elim)
  · rcases z with z | z
    · exact w.fs b z (q2 b y)
    · exact (q1 b z).2 y
  · rcases z with (z | z) | z
    · exact w.lv b (.inl z)
    · exact w.lv b (.inr (q1 b z).1)
    · exact w.lv b (.inr (q2 b z))
theorem ST.move (h : ST A pr e ρ σ τ ts H) (hd : ρ[i]? = some (some d)) (hv : σ[i]? = some (some v)) : ST A pr e (ρ.set i none) σ (τ ++ [some d]) (ts ++ [some v]) H := by
  obtain ⟨F, S, ro, l, w, x, p⟩ := h
  have hi : i < ρ.length := (List.getElem?_eq_some_iff.mp hd).1
  have hv' : (σ ++ ts)[i]? = some (some v) := by rw [List.getElem?_append_left (by omega)]; exact hv
  obtain ⟨v', S1, S2, g, r, q1, q2, back⟩ := ro.focus (i := i) (d := d) (by rw [List.getElem?_append_left hi]; exact hd)
  rw [hv'] at g
  have : v = v' := by simpa using g
  subst this
  rw [List.set_append_left _ _ hi] at back
  refine ⟨F, S, ?_, by simpa using l, w, x, p⟩
  rw [← List.append_assoc, ← List.append_assoc]
  exact RO.append back (show RO A F H [some d] [some v] S1 from ⟨v, [], S1, fun _ => False, rfl, r, rfl, fun b hb => ⟨hb, id⟩, fun _ z => z.elim⟩) (fun b hb => ⟨q2 b hb, fun z => (q1 b z).2 hb⟩) (fun b hb => (q1 b hb).1)
theorem ST.store (h : ST A pr e ρ σ (τ ++ [some d]) (ts ++ [some v]) H) (hi : i < ρ.length) (hp : i ∉ pr) : ST A pr e (ρ.set i (some d)) (σ.set i (some v)) τ ts H := by
  have lt := h.lenT
  obtain ⟨F, S, ro, l, w, x, p⟩ := h
  rw [← List.append_assoc, ← List.append_assoc] at ro
  simp only [List.length_append, List.length_cons, List.length_nil] at lt
  obtain ⟨S1, S2, r, back, q1, q2⟩ := ro.takeMid (Y := []) (VY := []) (by simp; omega)
  rw [List.append_nil, List.append_nil] at back
  have b2 := back.put (i := i) (d := d) (v := v) (U := S) (by simp; omega) r q1 q2
  rw [List.set_append_left _ _ hi, List.set_append_left _ _ (by omega)] at b2
  refine ⟨F, S, b2, by simpa using l, w, x, fun k hk => ?_⟩
  rw [List.getElem?_set_ne (fun z => hp (by rw [z]; exact hk))]
  exact p k hk
/-- what is at hand for an operation, alone; then what it left is put back among the rest -/
theorem ST.locl {ds : List D} {vs : List V} (h : ST A pr e ρ σ (τ ++ ds.map some) (ts ++ vs.map some) H) (hl : ds.length = vs.length) :
    ∃ F S, Wd F S H ∧ RL A F H ds vs S ∧ ∀ (F' S' : FP) (H' : Hp) (ds' : List D) (vs' : List V), Ext F S H F' S' H' → Wd F' S' H' → RL A F' H' ds' vs' S' →
      ST A pr e ρ σ (τ ++ ds'.map some) (ts ++ vs'.map some) H' := by
  have lt := h.lenT
  obtain ⟨F, S, ro, l, w, x, p⟩ := h
  rw [← List.append_assoc, ← List.append_assoc] at ro
  obtain ⟨us, ws, T, S1, q, r1, r2, q1, q2⟩ := ro.split
  have l1 := r1.length
  simp only [List.length_append, List.length_map] at l1 lt
  have hq := List.append_inj q (by simp; omega)
  rw [← hq.1] at r1
  rw [← hq.2] at r2
  obtain ⟨vs2, e2, rl⟩ := RO.toL r2
  have e3 : vs2 = vs := (List.map_inj_right (fun a b h => by simpa using h)).mp e2.symm
  subst e3
  refine ⟨F, S1, w.less q2, rl, fun F' S' H' ds' vs' ex w' rl' => ?_⟩
  refine ⟨F', fun b => S' b ∨ T b, ?_, l, w.beside ex w' q1, x.trans (ex.beside q2 (fun b hb => (q1 b hb).1)), p⟩
  rw [← List.append_assoc, ← List.append_assoc]
  exact RO.append (r1.frame ex.ff (ex.same w q1 q2)) (RO.ofL rl') (fun b hb => ⟨.inr hb, fun z => ex.apart w q1 b z hb⟩) (fun b hb => .inl hb)
end

/-! ### results -/
inductive Res (α : Type) where
  | ok (ρ : Env) (a : α)
  | ex (ρ : Env) (c : Nat) (x : D)
  | bad
def Res.bind {α β : Type} (r : Res α) (k : Env → α → Res β) : Res β :=
  match r with
  | .ok ρ a => k ρ a
  | .ex ρ c x => .ex ρ c x
  | .bad => .bad
@[simp] theorem Res.bind_ok {α β : Type} (ρ : Env) (a : α) (k : Env → α → Res β) : (Res.ok ρ a).bind k = k ρ a := rfl
@[simp] theorem Res.bind_ex {α β : Type} (ρ : Env) (c : Nat) (x : D) (k : Env → α → Res β) : (Res.ex ρ c x : Res α).bind k = .ex ρ c x := rfl
@[simp] theorem Res.bind_bad {α β : Type} (k : Env → α → Res β) : (Res.bad : Res α).bind k = .bad := rfl
abbrev EvE := Env → Res D
abbrev EvT := Env → Res Bool
/-- an operation on data: its value, and what its operands are behind it -/
inductive PR where
  | ok (d : D) (ds : List D)
  | ex (c : Nat) (x : D)
  | bad
abbrev Prim := List D → PR
/-- an operand: a slot's value, lent; a value that is made -/
inductive Op where
  | nm (i : Nat)
  | ex (f : EvE)

def SatE (A : Gm) (pr : List Nat) (W : WX) (e : En) (σ : St) (τ : List (Option D)) (ts : List (Option V)) (r : Res D) (Q : VK) : Prop :=
  match r with
  | .ok ρ' d => ∀ v H', ST A pr e ρ' σ (τ ++ [some d]) (ts ++ [some v]) H' → Q v H'
  | .ex ρ' c x => ∀ dd H', ST A pr e ρ' σ (τ ++ [some (.exd x)]) (ts ++ [some (.ref dd)]) H' → W (.ref (A.cl c)) (some dd) σ H'
  | .bad => False
def SatT (A : Gm) (pr : List Nat) (W : WX) (e : En) (σ : St) (τ : List (Option D)) (ts : List (Option V)) (r : Res Bool) (Q : Bool → Hp → Prop) : Prop :=
  match r with
  | .ok ρ' b => ∀ H', ST A pr e ρ' σ τ ts H' → Q b H'
  | .ex ρ' c x => ∀ dd H', ST A pr e ρ' σ (τ ++ [some (.exd x)]) (ts ++ [some (.ref dd)]) H' → W (.ref (A.cl c)) (some dd) σ H'
  | .bad => False
/-- the readings -/
def G (A : Gm) (pr : List Nat) (W : WX) (f : EvE) : TE := fun σ H Q => ∃ e ρ τ ts, ST A pr e ρ σ τ ts H ∧ SatE A pr W e σ τ ts (f ρ) Q
def GT (A : Gm) (pr : List Nat) (W : WX) (f : EvT) : TT := fun σ H Q => ∃ e ρ τ ts, ST A pr e ρ σ τ ts H ∧ SatT A pr W e σ τ ts (f ρ) Q
def GO (A : Gm) (pr : List Nat) (W : WX) : Op → TE
  | .nm i => tVar i
  | .ex f => G A pr W f
/-- what the values of lent slots are -/
def nmOk : List Op → St → List V → Prop
  | [], _, vs => vs = []
  | .nm i :: ops, σ, v :: vs => σ[i]? = some (some v) ∧ nmOk ops σ vs
  | .ex _ :: ops, σ, _ :: vs => nmOk ops σ vs
  | _ :: _, _, [] => False
theorem nmOk.length : ∀ {ops : List Op} {σ : St} {vs : List V}, nmOk ops σ vs → vs.length = ops.length
  | [], _, vs, h => by rw [show vs = [] from h]; rfl
  | .nm i :: ops, σ, v :: vs, h => by simp [nmOk.length h.2]
  | .ex _ :: ops, σ, v :: vs, h => by simp [nmOk.length (show nmOk ops σ vs from h)]
def evO : Op → Env → Res (Option D)
  | .nm i, ρ => match ρ[i]? with
    | some (some _) => .ok ρ none
    | _ => .bad
  | .ex f, ρ => (f ρ).bind fun ρ d => .ok ρ (some d)
def evOps : List Op → Env → Res (List (Option D))
  | [], ρ => .ok ρ []
  | o :: os, ρ => (evO o ρ).bind fun ρ1 d => (evOps os ρ1).bind fun ρ2 ds => .ok ρ2 (d :: ds)
def fill : List Op → Env → List (Option D) → Option (Env × List D)
  | [], ρ, [] => some (ρ, [])
  | .nm i :: ops, ρ, none :: tds => match ρ[i]? with
    | some (some d) => match fill ops (if nw d then ρ else ρ.set i none) tds with
      | some (ρ', ds) => some (ρ', d :: ds)
      | none => none
    | _ => none
  | .ex _ :: ops, ρ, some d :: tds => match fill ops ρ tds with
    | some (ρ', ds) => some (ρ', d :: ds)
    | none => none
  | _, _, _ => none
def unfill : List Op → Env → List D → Env
  | .nm i :: ops, ρ, d :: ds => unfill ops (match ρ[i]? with
    | some none => ρ.set i (some d)
    | _ => ρ) ds
  | .ex _ :: ops, ρ, _ :: ds => unfill ops ρ ds
  | _, ρ, _ => ρ
/-- the operation done -/
def done (ops : List Op) (p : Prim) (ρ : Env) (tds : List (Option D)) : Res D :=
  match fill ops ρ tds with
  | none => .bad
  | some (ρ2, ds) => match p ds with
    | .ok d ds' => .ok (unfill ops ρ2 ds') d
    | .ex c x => .ex ρ2 c x
    | .bad => .bad
def evN (ops : List Op) (p : Prim) : EvE := fun ρ => (evOps ops ρ).bind fun ρ1 tds => done ops p ρ1 tds

/-- an operation's ground: values vs that stand for data; what is to be shown behind it -/
def SatP (A : Gm) (F S : FP) (H : Hp) (vs : List V) (r : PR) (Q : VK) (E : XK) : Prop :=
  match r with
  | .ok d ds' => ∀ v F' S' H', Ext F S H F' S' H' → Wd F' S' H' → RL A F' H' (d :: ds') (v :: vs) S' → Q v H'
  | .ex c x => ∀ dd F' H', Ext F S H F' (fun _ => False) H' → Wd F' (fun _ => False) H' → R A F' H' (.exd x) (.ref dd) (fun _ => False) → E (.ref (A.cl c)) (some dd) H'
  | .bad => False
def Pre (A : Gm) (p : Prim) (vs : List V) (H : Hp) (Q : VK) (E : XK) : Prop :=
  ∃ F S ds, Wd F S H ∧ RL A F H ds vs S ∧ SatP A F S H vs (p ds) Q E

section
variable {A : Gm} {pr : List Nat} {W : WX} {e : En} {ρ ρ' : Env} {σ : St} {τ : List (Option D)} {ts : List (Option V)} {H : Hp} {Q : VK}
theorem fill_cons {o : Op} {ops : List Op} {ρ ρ' : Env} {tds : List (Option D)} {ds : List D} (h : fill (o :: ops) ρ tds = some (ρ', ds)) :
    (∃ i d tds' ds', o = .nm i ∧ tds = none :: tds' ∧ ds = d :: ds' ∧ ρ[i]? = some (some d) ∧ fill ops (if nw d then ρ else ρ.set i none) tds' = some (ρ', ds')) ∨
    (∃ f d tds' ds', o = .ex f ∧ tds = some d :: tds' ∧ ds = d :: ds' ∧ fill ops ρ tds' = some (ρ', ds')) := by
  cases o with
  | nm i =>
    cases tds with
    | nil => simp [fill] at h
    | cons t tds' =>
      cases t with
      | some _ => simp [fill] at h
      | none =>
        unfold fill at h
        split at h
        · rename_i d hd
          split at h
          · rename_i ρ1 ds1 h1
            simp at h
            obtain ⟨rfl, rfl⟩ := h
            exact .inl ⟨i, d, tds', ds1, rfl, rfl, rfl, hd, h1⟩
          · cases h
        · cases h
  | ex f =>
    cases tds with
    | nil => simp [fill] at h
    | cons t tds' =>
      cases t with
      | none => simp [fill] at h
      | some d =>
        unfold fill at h
        split at h
        · rename_i ρ1 ds1 h1
          simp at h
          obtain ⟨rfl, rfl⟩ := h
          exact .inr ⟨f, d, tds', ds1, rfl, rfl, rfl, h1⟩
        · cases h
theorem fill_len {ops : List Op} {ρ ρ' : Env} {tds : List (Option D)} {ds : List D} (h : fill ops ρ tds = some (ρ', ds)) : ds.length = ops.length ∧ ρ'.length = ρ.length ∧ tds.length = ops.length := by
  induction ops generalizing ρ tds ds with
  | nil =>
    cases tds with
    | nil => simp [fill] at h; obtain ⟨rfl, rfl⟩ := h; exact ⟨rfl, rfl, rfl⟩
    | cons t tds => simp [fill] at h
  | cons o ops ih =>
    rcases fill_cons h with ⟨i, d, tds', ds', rfl, rfl, rfl, hd, h1⟩ | ⟨f, d, tds', ds', rfl, rfl, rfl, h1⟩
    · obtain ⟨a, b, c⟩ := ih h1
      refine ⟨by simp [a], ?_, by simp [c]⟩
      rw [b]
      split <;> simp
    · obtain ⟨a, b, c⟩ := ih h1
      exact ⟨by simp [a], b, by simp [c]⟩
/-- one lent slot's data laid at its place -/
theorem ST.fill1 {tds : List (Option D)} {vs : List (Option V)} {i : Nat} {d : D} {v : V} (st : ST A pr e ρ σ (τ ++ none :: tds) (ts ++ some v :: vs) H) (lt : τ.length = ts.length) (n1 : σ[i]? = some (some v)) (hd : ρ[i]? = some (some d)) :
    ST A pr e (if nw d then ρ else ρ.set i none) σ ((τ ++ [some d]) ++ tds) ((ts ++ [some v]) ++ vs) H := by
  obtain ⟨F, S, ro, l, w, x, p⟩ := st
  have hi : i < ρ.length := (List.getElem?_eq_some_iff.mp hd).1
  have hv' : (σ ++ (ts ++ some v :: vs))[i]? = some (some v) := by rw [List.getElem?_append_left (by omega)]; exact n1
  have hd' : (ρ ++ (τ ++ none :: tds))[i]? = some (some d) := by rw [List.getElem?_append_left hi]; exact hd
  have ll : (ρ ++ τ).length = (σ ++ ts).length := by rw [List.length_append, List.length_append, l, lt]
  have e1 : ∀ (ρ : Env) (x : Option D), ρ ++ (τ ++ x :: tds) = (ρ ++ τ) ++ x :: tds := fun ρ x => (List.append_assoc _ _ _).symm
  have e2 : σ ++ (ts ++ some v :: vs) = (σ ++ ts) ++ some v :: vs := (List.append_assoc _ _ _).symm
  have e3 : ∀ (x : Option D), (τ ++ [x]) ++ tds = τ ++ x :: tds := fun x => by rw [List.append_assoc]; rfl
  have e4 : (ts ++ [some v]) ++ vs = ts ++ some v :: vs := by rw [List.append_assoc]; rfl
  rw [e3, e4]
  by_cases hn : nw d = true
  · rw [if_pos hn]
    obtain ⟨v', g, r⟩ := ro.get hd'
    rw [hv'] at g
    have : v = v' := by simpa using g
    subst this
    have r0 : R A F H d v (fun _ => False) := R.none hn r
    rw [e1, e2] at ro
    have := ro.fillMid (U := S) ll r0 (fun _ z => z.elim) (fun _ z => z)
    rw [← e1, ← e2] at this
    exact ⟨F, S, this, l, w, x, p⟩
  · rw [if_neg hn]
    obtain ⟨v', S1, S2, g, r, q1, q2, back⟩ := ro.focus hd'
    rw [hv'] at g
    have : v = v' := by simpa using g
    subst this
    rw [List.set_append_left _ _ hi, e1, e2] at back
    have := back.fillMid (U := S) (by rw [List.length_append, List.length_set, ← List.length_append]; exact ll) r q1 q2
    rw [← e1, ← e2] at this
    exact ⟨F, S, this, by rw [List.length_set]; exact l, w, x, p⟩
theorem ST.filled {ops : List Op} {tds : List (Option D)} {ds : List D} {vs : List V} (st : ST A pr e ρ σ (τ ++ tds) (ts ++ vs.map some) H) (lt : τ.length = ts.length) (nk : nmOk ops σ vs) (h : fill ops ρ tds = some (ρ', ds)) :
    ST A pr e ρ' σ (τ ++ ds.map some) (ts ++ vs.map some) H := by
  induction ops generalizing ρ tds ds vs τ ts with
  | nil =>
    cases tds with
    | nil => simp [fill] at h; obtain ⟨rfl, rfl⟩ := h; exact st
    | cons t tds => simp [fill] at h
  | cons o ops ih =>
    rcases fill_cons h with ⟨i, d, tds', ds', rfl, rfl, rfl, hd, h1⟩ | ⟨f, d, tds', ds', rfl, rfl, rfl, h1⟩
    · cases vs with
      | nil => exact nk.elim
      | cons v vs =>
        have s1 := ST.fill1 st lt nk.1 hd
        have s2 := ih s1 (by rw [List.length_append, List.length_append, lt]; rfl) nk.2 h1
        rw [List.append_assoc, List.append_assoc] at s2
        exact s2
    · cases vs with
      | nil => exact nk.elim
      | cons v vs =>
        have s2 := ih (τ := τ ++ [some d]) (ts := ts ++ [some v]) (by rw [List.append_assoc, List.append_assoc]; exact st) (by rw [List.length_append, List.length_append, lt]; rfl) (show nmOk ops σ vs from nk) h1
        rw [List.append_assoc, List.append_assoc] at s2
        exact s2
/-- one value put back, or dropped -/
theorem ST.take1 {tds : List (Option D)} {vs : List (Option V)} {d : D} {v : V} (st : ST A pr e ρ σ (τ ++ some d :: tds) (ts ++ some v :: vs) H) (lt : τ.length = ts.length) : ST A pr e ρ σ (τ ++ tds) (ts ++ vs) H := by
  obtain ⟨F, S, ro, l, w, x, p⟩ := st
  have ll : (ρ ++ τ).length = (σ ++ ts).length := by rw [List.length_append, List.length_append, l, lt]
  rw [← List.append_assoc, ← List.append_assoc] at ro
  obtain ⟨S1, S2, r, back, q1, q2⟩ := ro.takeMid ll
  rw [List.append_assoc, List.append_assoc] at back
  exact ⟨F, S2, back, l, w.less q2, x.less q2, p⟩
theorem ST.back1 {tds : List (Option D)} {vs : List (Option V)} {i : Nat} {d : D} {v : V} (st : ST A pr e ρ σ (τ ++ some d :: tds) (ts ++ some v :: vs) H) (lt : τ.length = ts.length) (n1 : σ[i]? = some (some v)) (hi : i < ρ.length) : ST A pr e (ρ.set i (some d)) σ (τ ++ tds) (ts ++ vs) H := by
  obtain ⟨F, S, ro, l, w, x, p⟩ := st
  have ll : (ρ ++ τ).length = (σ ++ ts).length := by rw [List.length_append, List.length_append, l, lt]
  rw [← List.append_assoc, ← List.append_assoc] at ro
  obtain ⟨S1, S2, r, back, q1, q2⟩ := ro.takeMid ll
  have b2 := back.fill (i := i) (d := d) (v := v) (U := S) (by rw [List.append_assoc, List.getElem?_append_left (by omega)]; exact n1) r q1 q2
  rw [List.append_assoc, List.append_assoc, List.set_append_left _ _ hi] at b2
  exact ⟨F, S, b2, by rw [List.length_set]; exact l, w, x, p⟩
theorem ST.unfilled {ops : List Op} {ds : List D} {vs : List V} (st : ST A pr e ρ σ (τ ++ ds.map some) (ts ++ vs.map some) H) (lt : τ.length = ts.length) (nk : nmOk ops σ vs) (l : ds.length = vs.length) :
    ST A pr e (unfill ops ρ ds) σ τ ts H := by
  induction ops generalizing ρ ds vs with
  | nil =>
    have : vs = [] := nk
    subst this
    have : ds = [] := List.eq_nil_of_length_eq_zero (by simpa using l)
    subst this
    rw [List.map_nil, List.append_nil, List.map_nil, List.append_nil] at st
    exact st
  | cons o ops ih =>
    cases vs with
    | nil => cases o <;> exact nk.elim
    | cons v vs =>
      cases ds with
      | nil => simp at l
      | cons d ds =>
        have l' : ds.length = vs.length := by simpa using l
        cases o with
        | nm i =>
          show ST A pr e (unfill ops (match ρ[i]? with | some none => ρ.set i (some d) | _ => ρ) ds) σ τ ts H
          split
          · rename_i hn
            exact ih (ST.back1 st lt nk.1 (List.getElem?_eq_some_iff.mp hn).1) nk.2 l'
          · exact ih (ST.take1 st lt) nk.2 l'
        | ex f => exact ih (ST.take1 st lt) (show nmOk ops σ vs from nk) l'

/-- THE END of an operation with operands: its own ground -/
theorem done_pre {ops : List Op} {p : Prim} {tds : List (Option D)} {vs : List V} (st : ST A pr e ρ σ (τ ++ tds) (ts ++ vs.map some) H) (lt : τ.length = ts.length) (nk : nmOk ops σ vs) (h : SatE A pr W e σ τ ts (done ops p ρ tds) Q) :
    Pre A p vs H Q (fun cls d H' => W cls d σ H') := by
  unfold done at h
  split at h
  · exact h.elim
  · rename_i ρ2 ds hf
    have s1 := st.filled lt nk hf
    have ld : ds.length = vs.length := by rw [(fill_len hf).1, nmOk.length nk]
    obtain ⟨F, S, w, rl, back⟩ := s1.locl ld
    refine ⟨F, S, ds, w, rl, ?_⟩
    split at h
    · rename_i d ds' hp
      rw [hp]
      intro v F' S' H' ex w' rl'
      have s2 := back F' S' H' (d :: ds') (v :: vs) ex w' rl'
      refine h v H' ?_
      have l2 : ds'.length = vs.length := by have := rl'.length; simpa using this.symm
      have s3 : ST A pr e ρ2 σ ((τ ++ [some d]) ++ ds'.map some) ((ts ++ [some v]) ++ vs.map some) H' := by
        rw [List.append_assoc, List.append_assoc]
        exact s2
      exact s3.unfilled (by rw [List.length_append, List.length_append, lt]; rfl) nk l2
    · rename_i c x hp
      rw [hp]
      intro dd F' H' ex w' r'
      have s2 := back F' (fun _ => False) H' [.exd x] [.ref dd] ex w' (RL.one r')
      exact h dd H' s2
    · exact h.elim
/-- an operand -/
theorem op_step {o : Op} {K : V → Hp → Prop} (st : ST A pr e ρ σ τ ts H) {k : Env → Option D → Res D} (h : SatE A pr W e σ τ ts ((evO o ρ).bind k) Q)
    {τ' : List (Option D)} {ts' : List (Option V)} (st' : ST A pr e ρ σ τ' ts' H)
    (hk : ∀ ρ1 od v H1, evO o ρ = .ok ρ1 od → ST A pr e ρ1 σ (τ' ++ [od]) (ts' ++ [some v]) H1 → (∀ i, o = .nm i → σ[i]? = some (some v)) → K v H1)
    (hx : ∀ ρ' c x, evO o ρ = .ex ρ' c x → ∀ dd H', ST A pr e ρ' σ (τ' ++ [some (.exd x)]) (ts' ++ [some (.ref dd)]) H' → W (.ref (A.cl c)) (some dd) σ H') : GO A pr W o σ H K := by
  cases o with
  | nm i =>
    by_cases hd : ∃ d, ρ[i]? = some (some d)
    · obtain ⟨d, hd⟩ := hd
      obtain ⟨v, hv⟩ := st.val hd
      have eo : evO (.nm i) ρ = .ok ρ none := by simp [evO, hd]
      exact ⟨v, hv, hk ρ none v H eo (st'.hold v) (fun j hj => by cases hj; exact hv)⟩
    · have eo : evO (.nm i) ρ = .bad := by
        show (match ρ[i]? with | some (some _) => Res.ok ρ none | _ => Res.bad) = _
        split
        · rename_i d q
          exact absurd ⟨d, q⟩ hd
        · rfl
      rw [eo] at h
      exact h.elim
  | ex f =>
    refine ⟨e, ρ, τ', ts', st', ?_⟩
    cases hf : f ρ with
    | ok ρ1 d =>
      intro v H1 s1
      exact hk ρ1 (some d) v H1 (by show (f ρ).bind _ = _; rw [hf]; rfl) s1 (fun j hj => by cases hj)
    | ex ρ1 c x =>
      exact hx ρ1 c x (by show (f ρ).bind _ = _; rw [hf]; rfl)
    | bad =>
      have : (evO (.ex f) ρ).bind k = .bad := by show ((f ρ).bind _).bind _ = _; rw [hf]; rfl
      rw [this] at h
      exact h.elim
end
end Fz

namespace Fz
open PySem L2

section
variable {X : Cx}
theorem PE_imp {e : Expr} {t t' : TE} (h : PE X e t) (k : ∀ σ H Q, t' σ H Q → t σ H Q) : PE X e t' := ⟨fun pins s σ H Q I q => h.run pins s σ H Q I (k σ H Q q)⟩
theorem PT_imp {e : Expr} {t t' : TT} (h : PT X e t) (k : ∀ σ H Q, t' σ H Q → t σ H Q) : PT X e t' := ⟨fun pins s σ H Q I q => h.run pins s σ H Q I (k σ H Q q)⟩
theorem PW_imp {e : Expr} {t t' : TT} (h : PW X e t) (k : ∀ σ H Q, t' σ H Q → t σ H Q) : PW X e t' := ⟨fun wh pins s σ H Q I q => h.run wh pins s σ H Q I (k σ H Q q)⟩
theorem PA_imp {e : List Expr} {t t' : TA} (h : PA X e t) (k : ∀ σ H Q, t' σ H Q → t σ H Q) : PA X e t' := ⟨fun pos pins s σ H Q I q => h.run pos pins s σ H Q I (k σ H Q q)⟩
theorem PS_imp {e : Stmt} {t t' : TS} (h : PS X e t) (k : ∀ D σ H, t' D σ H → t D σ H) : PS X e t' := ⟨fun pins s σ H D I q => h.run pins s σ H D I (k D σ H q)⟩
theorem PSs_imp {e : List Stmt} {t t' : TS} (h : PSs X e t) (k : ∀ D σ H, t' D σ H → t D σ H) : PSs X e t' := ⟨fun pins s σ H D I q => h.run pins s σ H D I (k D σ H q)⟩
end

theorem Res.bind_assoc {α β γ : Type} (r : Res α) (f : Env → α → Res β) (g : Env → β → Res γ) : (r.bind f).bind g = r.bind fun ρ a => (f ρ a).bind g := by
  cases r <;> rfl

section
variable {A : Gm} {pr : List Nat} {W : WX} {e : En} {ρ ρ' : Env} {σ : St} {τ : List (Option D)} {ts : List (Option V)} {H : Hp} {Q : VK}
/-- anything at hand dropped -/
theorem ST.drop {tds : List (Option D)} {vs : List (Option V)} {d : Option D} {v : Option V} (st : ST A pr e ρ σ (τ ++ d :: tds) (ts ++ v :: vs) H) (lt : τ.length = ts.length) : ST A pr e ρ σ (τ ++ tds) (ts ++ vs) H := by
  obtain ⟨F, S, ro, l, w, x, p⟩ := st
  have ll : (ρ ++ τ).length = (σ ++ ts).length := by rw [List.length_append, List.length_append, l, lt]
  rw [← List.append_assoc, ← List.append_assoc] at ro
  obtain ⟨us, ws, T1, T2, q, r1, r2, p1, p2⟩ := ro.split
  have hq := List.append_inj q (by rw [← ll, r1.length])
  rw [← hq.1] at r1
  rw [← hq.2] at r2
  have r3 : RO A F H tds vs T2 := by
    cases d with
    | none =>
      obtain ⟨w, vs', e, rl⟩ := r2
      injection e with e1 e2
      subst e1 e2
      exact rl
    | some d =>
      obtain ⟨w, vs', S1, S2, e, r, rl, q1, q2⟩ := r2
      injection e with e1 e2
      subst e1 e2
      exact rl.mono q2
  refine ⟨F, S, ?_, l, w, x, p⟩
  rw [← List.append_assoc, ← List.append_assoc]
  exact RO.append r1 r3 p1 p2

/-- one operand after another -/
theorem op_next {α : Type} {o : Op} {K : V → Hp → Prop} {k : Env → Option D → Res α} {ok : Env → α → Prop} {τ' : List (Option D)} {ts' : List (Option V)} (st : ST A pr e ρ σ τ' ts' H)
    (hb : (evO o ρ).bind k ≠ .bad)
    (hx : ∀ ρ' c x, (evO o ρ).bind k = .ex ρ' c x → ∀ dd H', ST A pr e ρ' σ (τ' ++ [some (.exd x)]) (ts' ++ [some (.ref dd)]) H' → W (.ref (A.cl c)) (some dd) σ H')
    (hk : ∀ ρ1 od v H1, evO o ρ = .ok ρ1 od → ST A pr e ρ1 σ (τ' ++ [od]) (ts' ++ [some v]) H1 → (∀ i, o = .nm i → σ[i]? = some (some v)) → K v H1) : GO A pr W o σ H K := by
  cases o with
  | nm i =>
    by_cases hd : ∃ d, ρ[i]? = some (some d)
    · obtain ⟨d, hd⟩ := hd
      obtain ⟨v, hv⟩ := st.val hd
      have eo : evO (.nm i) ρ = .ok ρ none := by simp [evO, hd]
      exact ⟨v, hv, hk ρ none v H eo (st.hold v) (fun j hj => by cases hj; exact hv)⟩
    · have eo : evO (.nm i) ρ = .bad := by
        show (match ρ[i]? with | some (some _) => Res.ok ρ none | _ => Res.bad) = _
        split
        · rename_i d q
          exact absurd ⟨d, q⟩ hd
        · rfl
      rw [eo] at hb
      exact (hb rfl).elim
  | ex f =>
    refine ⟨e, ρ, τ', ts', st, ?_⟩
    have eo : evO (.ex f) ρ = (f ρ).bind fun ρ d => .ok ρ (some d) := rfl
    cases hf : f ρ with
    | ok ρ1 d =>
      intro v H1 s1
      exact hk ρ1 (some d) v H1 (by rw [eo, hf]; rfl) s1 (fun j hj => by cases hj)
    | ex ρ1 c x => exact hx ρ1 c x (by rw [eo, hf]; rfl)
    | bad => exact (hb (by rw [eo, hf]; rfl)).elim

def SatA (A : Gm) (pr : List Nat) (W : WX) (e : En) (ops : List Op) (σ : St) (τ : List (Option D)) (ts : List (Option V)) (r : Res (List (Option D))) (K : List V → Hp → Prop) : Prop :=
  match r with
  | .ok ρ' tds => ∀ vs H', ST A pr e ρ' σ (τ ++ tds) (ts ++ vs.map some) H' → nmOk ops σ vs → K vs H'
  | .ex ρ' c x => ∀ dd H', ST A pr e ρ' σ (τ ++ [some (.exd x)]) (ts ++ [some (.ref dd)]) H' → W (.ref (A.cl c)) (some dd) σ H'
  | .bad => False
def GA (A : Gm) (pr : List Nat) (W : WX) (ops : List Op) : TA := fun σ H K => ∃ e ρ τ ts, ST A pr e ρ σ τ ts H ∧ SatA A pr W e ops σ τ ts (evOps ops ρ) K

theorem ga_of_step {o : Op} {ops : List Op} {K : List V → Hp → Prop} (h : GA A pr W (o :: ops) σ H K) : tCons (GO A pr W o) (GA A pr W ops) σ H K := by
  obtain ⟨e, ρ, τ, ts, st, h⟩ := h
  have lt := st.lenT
  change SatA A pr W e (o :: ops) σ τ ts ((evO o ρ).bind fun ρ1 d => (evOps ops ρ1).bind fun ρ2 ds => .ok ρ2 (d :: ds)) K at h
  refine op_next (k := fun ρ1 d => (evOps ops ρ1).bind fun ρ2 ds => .ok ρ2 (d :: ds)) (ok := fun _ _ => True) st (fun q => by rw [q] at h; exact h) (fun ρ' c x q => by rw [q] at h; exact h) (fun ρ1 od v H1 eo s1 nm => ?_)
  rw [eo] at h
  refine ⟨e, ρ1, τ ++ [od], ts ++ [some v], s1, ?_⟩
  simp only [Res.bind_ok] at h
  cases hr : evOps ops ρ1 with
  | ok ρ2 ds =>
    rw [hr] at h
    intro vs H' s2 nk
    refine h (v :: vs) H' ?_ ?_
    · rw [List.append_assoc, List.append_assoc] at s2
      exact s2
    · cases o with
      | nm i => exact ⟨nm i rfl, nk⟩
      | ex f => exact nk
  | ex ρ2 c x =>
    rw [hr] at h
    intro dd H' s2
    rw [List.append_assoc, List.append_assoc] at s2
    exact h dd H' (s2.drop lt)
  | bad =>
    rw [hr] at h
    exact h
theorem ga_of_nil {K : List V → Hp → Prop} (h : GA A pr W [] σ H K) : tNil σ H K := by
  obtain ⟨e, ρ, τ, ts, st, h⟩ := h
  exact h [] H (by simpa using st) rfl
/-- an operation with operands, from its arguments -/
theorem g_args {ops : List Op} {p : Prim} (h : G A pr W (evN ops p) σ H Q) : GA A pr W ops σ H fun vs H1 => Pre A p vs H1 Q (fun cls d H' => W cls d σ H') := by
  obtain ⟨e, ρ, τ, ts, st, h⟩ := h
  have lt := st.lenT
  refine ⟨e, ρ, τ, ts, st, ?_⟩
  unfold evN at h
  cases hr : evOps ops ρ with
  | ok ρ1 tds =>
    rw [hr] at h
    intro vs H' s1 nk
    exact done_pre s1 lt nk h
  | ex ρ1 c x =>
    rw [hr] at h
    exact h
  | bad =>
    rw [hr] at h
    exact h
theorem g_args1 {a : Op} {p : Prim} (h : G A pr W (evN [a] p) σ H Q) : GO A pr W a σ H fun x H1 => Pre A p [x] H1 Q (fun cls d H' => W cls d σ H') := by
  have h1 := ga_of_step (g_args h)
  unfold tCons at h1
  have : ∀ {t : TE} {K K' : V → Hp → Prop}, True := trivial
  exact (by
    cases a with
    | nm i =>
      obtain ⟨v, hv, q⟩ := h1
      exact ⟨v, hv, ga_of_nil q⟩
    | ex f =>
      obtain ⟨e, ρ, τ, ts, st, h⟩ := h1
      refine ⟨e, ρ, τ, ts, st, ?_⟩
      cases hr : f ρ with
      | ok ρ1 d => rw [hr] at h; exact fun v H' s => ga_of_nil (h v H' s)
      | ex ρ1 c x => rw [hr] at h; exact h
      | bad => rw [hr] at h; exact h)
/-- readings are monotone -/
theorem G.mono {f : EvE} {Q' : VK} (h : G A pr W f σ H Q) (k : ∀ v H', Q v H' → Q' v H') : G A pr W f σ H Q' := by
  obtain ⟨e, ρ, τ, ts, st, h⟩ := h
  refine ⟨e, ρ, τ, ts, st, ?_⟩
  cases hr : f ρ with
  | ok ρ1 d => rw [hr] at h; exact fun v H' s => k v H' (h v H' s)
  | ex ρ1 c x => rw [hr] at h; exact h
  | bad => rw [hr] at h; exact h
theorem GO.mono {o : Op} {Q' : VK} (h : GO A pr W o σ H Q) (k : ∀ v H', Q v H' → Q' v H') : GO A pr W o σ H Q' := by
  cases o with
  | nm i => obtain ⟨v, hv, q⟩ := h; exact ⟨v, hv, k v H q⟩
  | ex f => exact G.mono h k
theorem g_args2 {a b : Op} {p : Prim} (h : G A pr W (evN [a, b] p) σ H Q) : GO A pr W a σ H fun x H1 => GO A pr W b σ H1 fun y H2 => Pre A p [x, y] H2 Q (fun cls d H' => W cls d σ H') :=
  GO.mono (ga_of_step (g_args h)) fun x H1 h1 => GO.mono (ga_of_step h1) fun y H2 h2 => ga_of_nil h2
theorem g_args3 {a b c : Op} {p : Prim} (h : G A pr W (evN [a, b, c] p) σ H Q) : GO A pr W a σ H fun x H1 => GO A pr W b σ H1 fun y H2 => GO A pr W c σ H2 fun z H3 => Pre A p [x, y, z] H3 Q (fun cls d H' => W cls d σ H') :=
  GO.mono (ga_of_step (g_args h)) fun x H1 h1 => GO.mono (ga_of_step h1) fun y H2 h2 => GO.mono (ga_of_step h2) fun z H3 h3 => ga_of_nil h3
end

/-! ### the judgements -/
abbrev GE (X : Cx) (A : Gm) (pr : List Nat) (W : WX) (e : Expr) (f : EvE) : Prop := PE X e (G A pr W f)
abbrev GB (X : Cx) (A : Gm) (pr : List Nat) (W : WX) (e : Expr) (f : EvT) : Prop := PT X e (GT A pr W f)
abbrev GP (X : Cx) (A : Gm) (pr : List Nat) (W : WX) (e : Expr) (o : Op) : Prop := PE X e (GO A pr W o)
abbrev GL (X : Cx) (A : Gm) (pr : List Nat) (W : WX) (es : List Expr) (ops : List Op) : Prop := PA X es (GA A pr W ops)

def evK (d : D) : EvE := fun ρ => .ok ρ d
/-- a slot read for good: what it holds is frozen -/
def evVar (i : Nat) : EvE := fun ρ => match ρ[i]? with
  | some (some d) => if nw d then .ok ρ d else .ok (ρ.set i (some (fz d))) (fz d)
  | _ => .bad
/-- a slot's value taken out of it -/
def evMove (i : Nat) : EvE := fun ρ => match ρ[i]? with
  | some (some d) => .ok (ρ.set i none) d
  | _ => .bad
/-- truth of a value -/
def truD : D → Option Bool
  | .non => some false
  | .bl b => some b
  | .int i => some (i != 0)
  | .str y => if y.length ≤ 100000 then some ((y.length : Int) != 0) else none
  | .tup xs => some (!xs.isEmpty)
  | .lst _ xs => some (!xs.isEmpty)
  | _ => none
def evTru (o : Op) : EvT := fun ρ => ((evN [o] fun ds => match ds with | [d] => (match truD d with | some b => .ok (.bl b) [d] | none => .bad) | _ => .bad) ρ).bind fun ρ1 d => match d with | .bl b => .ok ρ1 b | _ => .bad
def tvB (f : EvE) : EvT := fun ρ => (f ρ).bind fun ρ1 d => match d with | .bl b => .ok ρ1 b | _ => .bad
def tvAnd (f g : EvT) : EvT := fun ρ => (f ρ).bind fun ρ1 b => if b then g ρ1 else .ok ρ1 false
def tvOr (f g : EvT) : EvT := fun ρ => (f ρ).bind fun ρ1 b => if b then .ok ρ1 true else g ρ1
def tvNot (f : EvT) : EvT := fun ρ => (f ρ).bind fun ρ1 b => .ok ρ1 (!b)
def evIf (c : EvT) (f g : EvE) : EvE := fun ρ => (c ρ).bind fun ρ1 b => if b then f ρ1 else g ρ1
/-- and, or as values (bools) -/
def evAnd (f g : EvE) : EvE := fun ρ => (f ρ).bind fun ρ1 d => match d with | .bl b => if b then g ρ1 else .ok ρ1 (.bl false) | _ => .bad
def evOr (f g : EvE) : EvE := fun ρ => (f ρ).bind fun ρ1 d => match d with | .bl b => if b then .ok ρ1 (.bl true) else g ρ1 | _ => .bad

section
variable {X : Cx} {A : Gm} {pr : List Nat} {W : WX} {pos : Pos} {ea eb : Expr} {f g : EvE} {c c' : EvT} {i : Nat} {x : Str}
theorem gp_nm (hN : X.N[i]? = some x) (hv : Vis X.env.scope x) (hd : (x == ("__debug__" : Str)) = false := by decide) (hcd : (x == ("__classdict__" : Str)) = false := by decide) : GP X A pr W (.Name x pos) (.nm i) := pe_var hN hv hd hcd
theorem ge_var (hN : X.N[i]? = some x) (hv : Vis X.env.scope x) (hd : (x == ("__debug__" : Str)) = false := by decide) (hcd : (x == ("__classdict__" : Str)) = false := by decide) : GE X A pr W (.Name x pos) (evVar i) := by
  refine PE_imp (pe_var (i := i) hN hv hd hcd) fun σ H Q h => ?_
  obtain ⟨e, ρ, τ, ts, st, h⟩ := h
  unfold evVar at h
  split at h
  · rename_i d hd
    obtain ⟨v, hv⟩ := st.val hd
    refine ⟨v, hv, ?_⟩
    have s1 := st.load hd hv
    split at h
    · rename_i hn
      rw [fz_nw hn] at s1
      have : ρ.set i (some d) = ρ := by
        apply List.ext_getElem?
        intro j
        by_cases hj : i = j
        · subst hj; rw [List.getElem?_set_self (List.getElem?_eq_some_iff.mp hd).1, hd]
        · rw [List.getElem?_set_ne hj]
      rw [this] at s1
      exact h v H s1
    · exact h v H s1
  · exact h.elim
theorem ge_move (hN : X.N[i]? = some x) (hv : Vis X.env.scope x) (hd : (x == ("__debug__" : Str)) = false := by decide) (hcd : (x == ("__classdict__" : Str)) = false := by decide) : GE X A pr W (.Name x pos) (evMove i) := by
  refine PE_imp (pe_var (i := i) hN hv hd hcd) fun σ H Q h => ?_
  obtain ⟨e, ρ, τ, ts, st, h⟩ := h
  unfold evMove at h
  split at h
  · rename_i d hd
    obtain ⟨v, hv⟩ := st.val hd
    exact ⟨v, hv, h v H (st.move hd hv)⟩
  · exact h.elim
theorem G.const {v : V} {d : D} (hr : ∀ F H, R A F H d v (fun _ => False)) {σ : St} {H : Hp} {Q : VK} (h : G A pr W (evK d) σ H Q) : Q v H := by
  obtain ⟨e, ρ, τ, ts, st, h⟩ := h
  exact h v H (st.push fun F => hr F H)
theorem ge_int {k : Int} {j : Nat} : GE X A pr W (.Constant (.int k) j pos) (evK (.int k)) := PE_imp pe_int fun σ H Q h => G.const (v := .int k) (d := .int k) (fun _ _ => rfl) h
theorem ge_bl {b : Bool} {j : Nat} : GE X A pr W (.Constant (.bool b) j pos) (evK (.bl b)) := PE_imp pe_bl fun σ H Q h => G.const (v := .bl b) (d := .bl b) (fun _ _ => rfl) h
theorem ge_non {j : Nat} : GE X A pr W (.Constant .none j pos) (evK .non) := PE_imp pe_non fun σ H Q h => G.const (v := .non) (d := .non) (fun _ _ => rfl) h
theorem ge_str {z : Str} {j : Nat} : GE X A pr W (.Constant (.str z) j pos) (evK (.str z)) := PE_imp pe_str fun σ H Q h => G.const (v := .str z) (d := .str z) (fun _ _ => rfl) h
theorem gp_ex (h : GE X A pr W ea f) : GP X A pr W ea (.ex f) := h
theorem gl_nil : GL X A pr W [] [] := PA_imp pa_nil fun σ H K h => ga_of_nil h
theorem gl_cons {es : List Expr} {o : Op} {ops : List Op} (h : GP X A pr W ea o) (hr : GL X A pr W es ops) (hs : starEach (ea :: es) X.env = (false, eval ea X.env) :: starEach es X.env := by rfl) : GL X A pr W (ea :: es) (o :: ops) :=
  PA_imp (pa_cons h hr hs) fun σ H K h => ga_of_step h
/-- an operator -/
theorem ge_op {op : Operator} {a b : Op} {p : Prim} {r : R2} (ho : OpR X (binaryOp op) r) (hp : ∀ x y H Q E, Pre A p [x, y] H Q E → r x y H Q) (ha : GP X A pr W ea a) (hb : GP X A pr W eb b) : GE X A pr W (.BinOp ea op eb pos) (evN [a, b] p) :=
  PE_imp (pe_op ho ha hb) fun σ H Q h => GO.mono (g_args2 h) fun x H1 h1 => GO.mono h1 fun y H2 h2 => hp x y H2 Q _ h2
theorem ge_un {op : UnaryOp} {a : Op} {p : Prim} {r : V → Hp → VK → Prop} (ho : UnR X (unaryOp op) r) (hp : ∀ x H Q E, Pre A p [x] H Q E → r x H Q) (ha : GP X A pr W ea a) : GE X A pr W (.UnaryOp op ea pos) (evN [a] p) :=
  PE_imp (pe_un ho ha) fun σ H Q h => GO.mono (g_args1 h) fun x H1 h1 => hp x H1 Q _ h1
theorem ge_cmp {op : CmpOp} {a b : Op} {p : Prim} {r : R2} (ho : OpR X (compareOp op) r) (hp : ∀ x y H Q E, Pre A p [x, y] H Q E → r x y H Q) (ha : GP X A pr W ea a) (hb : GP X A pr W eb b) (hm : behindInMarks op eb = false) : GE X A pr W (.Compare ea [op] [eb] pos) (evN [a, b] p) :=
  PE_imp (pe_cmpR ho ha hb hm) fun σ H Q h => GO.mono (g_args2 h) fun x H1 h1 => GO.mono h1 fun y H2 h2 => hp x y H2 Q _ h2
/-- tests -/
theorem GT.toE {f : EvE} {σ : St} {H : Hp} {Q : Bool → Hp → Prop} (h : GT A pr W (tvB f) σ H Q) : G A pr W f σ H fun x H' => ∃ k, x = .bl k ∧ Q k H' := by
  obtain ⟨e, ρ, τ, ts, st, h⟩ := h
  refine ⟨e, ρ, τ, ts, st, ?_⟩
  unfold tvB at h
  cases hr : f ρ with
  | ok ρ1 d =>
    rw [hr] at h
    intro v H' s1
    cases d with
    | bl b =>
      have lt := s1.lenT
      have hv : v = .bl b := by
        obtain ⟨F, S, ro, l, _⟩ := id s1
        simp at lt
        rw [← List.append_assoc, ← List.append_assoc] at ro
        obtain ⟨S1, S2, r, _⟩ := ro.takeMid (Y := []) (VY := []) (by simp; omega)
        exact r
      exact ⟨b, hv, h H' s1.pop⟩
    | non => exact h.elim
    | int _ => exact h.elim
    | str _ => exact h.elim
    | tup _ => exact h.elim
    | lst _ _ => exact h.elim
    | dct _ _ _ => exact h.elim
    | ins _ _ _ _ => exact h.elim
    | exd _ => exact h.elim
    | err _ _ => exact h.elim
    | any => exact h.elim
    | scr _ => exact h.elim
  | ex ρ1 c x => rw [hr] at h; exact h
  | bad => rw [hr] at h; exact h
theorem gb_cmp {op : CmpOp} {a b : Op} {p : Prim} {r : R2} (ho : OpR X (compareOp op) r) (hp : ∀ x y H Q E, Pre A p [x, y] H Q E → r x y H Q) (ha : GP X A pr W ea a) (hb : GP X A pr W eb b) (hm : behindInMarks op eb = false) : GB X A pr W (.Compare ea [op] [eb] pos) (tvB (evN [a, b] p)) :=
  PT_imp (pt_cmpR ho ha hb hm) fun σ H Q h => GO.mono (g_args2 (GT.toE h)) fun x H1 h1 => GO.mono h1 fun y H2 h2 => hp x y H2 _ _ h2
/-- a value that is a bool, as a test -/
theorem gb_val (h : GE X A pr W ea f) (he : ∀ whole, isTrue ea X.env whole = (do let v ← whole; standAt ea.pos; holding [v] (truthy v)) := by intro _; rfl) : GB X A pr W ea (tvB f) :=
  PT_imp (pt_val h he) fun σ H Q h => GT.toE h
theorem GT.mono {f : EvT} {σ : St} {H : Hp} {Q Q' : Bool → Hp → Prop} (h : GT A pr W f σ H Q) (k : ∀ v H', Q v H' → Q' v H') : GT A pr W f σ H Q' := by
  obtain ⟨e, ρ, τ, ts, st, h⟩ := h
  refine ⟨e, ρ, τ, ts, st, ?_⟩
  cases hr : f ρ with
  | ok ρ1 d => rw [hr] at h; exact fun H' s => k _ H' (h H' s)
  | ex ρ1 c x => rw [hr] at h; exact h
  | bad => rw [hr] at h; exact h
theorem pt_nott {t : TT} (ha : PT X ea t) : PT X (.UnaryOp .Not ea pos) (tNot t) := pt_not ha
theorem gb_not (h : GB X A pr W ea c) : GB X A pr W (.UnaryOp .Not ea pos) (tvNot c) := by
  refine PT_imp (pt_not h) fun σ H Q h => ?_
  obtain ⟨e, ρ, τ, ts, st, h⟩ := h
  refine ⟨e, ρ, τ, ts, st, ?_⟩
  unfold tvNot at h
  cases hr : c ρ with
  | ok ρ1 d => rw [hr] at h; exact h
  | ex ρ1 c x => rw [hr] at h; exact h
  | bad => rw [hr] at h; exact h
theorem GT.two {σ : St} {H : Hp} {Q : Bool → Hp → Prop} {k : Env → Bool → Res Bool} (h : GT A pr W (fun ρ => (c ρ).bind k) σ H Q) {K : Bool → St → Hp → Prop}
    (hk : ∀ e ρ1 τ ts b H1, ST A pr e ρ1 σ τ ts H1 → SatT A pr W e σ τ ts (k ρ1 b) Q → K b σ H1) : GT A pr W c σ H (fun b H1 => K b σ H1) := by
  obtain ⟨e, ρ, τ, ts, st, h⟩ := h
  refine ⟨e, ρ, τ, ts, st, ?_⟩
  cases hr : c ρ with
  | ok ρ1 d =>
    simp only [hr, Res.bind_ok] at h
    exact fun H' s => hk e ρ1 τ ts d H' s h
  | ex ρ1 c x => simp only [hr, Res.bind_ex] at h; exact h
  | bad => simp only [hr, Res.bind_bad] at h; exact h
theorem gw_and {rest : List Expr} (ha : GB X A pr W ea c) (hb : PW X (.BoolOp .And (eb :: rest) pos) (GT A pr W c')) : PW X (.BoolOp .And (ea :: eb :: rest) pos) (GT A pr W (tvAnd c c')) := by
  refine PW_imp (pw_and ha hb) fun σ H Q h => ?_
  refine GT.two (K := fun b σ H1 => if b = true then GT A pr W c' σ H1 Q else Q false H1) h fun e ρ1 τ ts b H1 s1 q => ?_
  cases b with
  | true => exact ⟨e, ρ1, τ, ts, s1, q⟩
  | false => exact q H1 s1
theorem gw_or {rest : List Expr} (ha : GB X A pr W ea c) (hb : PW X (.BoolOp .Or (eb :: rest) pos) (GT A pr W c')) : PW X (.BoolOp .Or (ea :: eb :: rest) pos) (GT A pr W (tvOr c c')) := by
  refine PW_imp (pw_or ha hb) fun σ H Q h => ?_
  refine GT.two (K := fun b σ H1 => if b = true then Q true H1 else GT A pr W c' σ H1 Q) h fun e ρ1 τ ts b H1 s1 q => ?_
  cases b with
  | false => exact ⟨e, ρ1, τ, ts, s1, q⟩
  | true => exact q H1 s1
theorem gw_and1 (ha : GB X A pr W ea c) : PW X (.BoolOp .And [ea] pos) (GT A pr W c) := pw_and1 ha
theorem gw_or1 (ha : GB X A pr W ea c) : PW X (.BoolOp .Or [ea] pos) (GT A pr W c) := pw_or1 ha
theorem gb_w {t : TT} (h : PW X ea t) : PT X ea t := h.pt
/-- a if t else b -/
theorem ge_if {ec : Expr} (hc : GB X A pr W ec c) (ha : GE X A pr W ea f) (hb : GE X A pr W eb g) : GE X A pr W (.IfExp ec ea eb pos) (evIf c f g) := by
  refine PE_imp (pe_ifExp hc ha hb) fun σ H Q h => ?_
  obtain ⟨e, ρ, τ, ts, st, h⟩ := h
  refine ⟨e, ρ, τ, ts, st, ?_⟩
  unfold evIf at h
  cases hr : c ρ with
  | ok ρ1 d =>
    simp only [hr, Res.bind_ok] at h
    intro H' s
    cases d with
    | true => exact ⟨e, ρ1, τ, ts, s, h⟩
    | false => exact ⟨e, ρ1, τ, ts, s, h⟩
  | ex ρ1 c x => simp only [hr, Res.bind_ex] at h; exact h
  | bad => simp only [hr, Res.bind_bad] at h; exact h
/-- what a value at hand is -/
theorem ST.top {e : En} {ρ : Env} {σ : St} {τ : List (Option D)} {ts : List (Option V)} {H : Hp} {d : D} {v : V} (s : ST A pr e ρ σ (τ ++ [some d]) (ts ++ [some v]) H) : ∃ F S, R A F H d v S := by
  have lt := s.lenT
  obtain ⟨F, S, ro, l, _⟩ := s
  simp at lt
  rw [← List.append_assoc, ← List.append_assoc] at ro
  obtain ⟨S1, S2, r, _⟩ := ro.takeMid (Y := []) (VY := []) (by simp; omega)
  exact ⟨F, S1, r⟩
theorem ge_and {rest : List Expr} (ha : GE X A pr W ea f) (hb : GE X A pr W (.BoolOp .And (eb :: rest) pos) g) : GE X A pr W (.BoolOp .And (ea :: eb :: rest) pos) (evAnd f g) := by
  refine PE_imp (pe_and ha hb) fun σ H Q h => ?_
  obtain ⟨e, ρ, τ, ts, st, h⟩ := h
  refine ⟨e, ρ, τ, ts, st, ?_⟩
  unfold evAnd at h
  cases hr : f ρ with
  | ok ρ1 d =>
    simp only [hr, Res.bind_ok] at h
    intro v H' s
    cases d with
    | bl b =>
      obtain ⟨F, S, r⟩ := s.top
      refine ⟨b, r, ?_⟩
      cases b with
      | true => exact ⟨e, ρ1, τ, ts, s.pop, h⟩
      | false => exact h (.bl false) H' (s.pop.push fun F => rfl)
    | non => exact h.elim
    | int _ => exact h.elim
    | str _ => exact h.elim
    | tup _ => exact h.elim
    | lst _ _ => exact h.elim
    | dct _ _ _ => exact h.elim
    | ins _ _ _ _ => exact h.elim
    | exd _ => exact h.elim
    | err _ _ => exact h.elim
    | any => exact h.elim
    | scr _ => exact h.elim
  | ex ρ1 c x => simp only [hr, Res.bind_ex] at h; exact h
  | bad => simp only [hr, Res.bind_bad] at h; exact h
theorem ge_or {rest : List Expr} (ha : GE X A pr W ea f) (hb : GE X A pr W (.BoolOp .Or (eb :: rest) pos) g) : GE X A pr W (.BoolOp .Or (ea :: eb :: rest) pos) (evOr f g) := by
  refine PE_imp (pe_or ha hb) fun σ H Q h => ?_
  obtain ⟨e, ρ, τ, ts, st, h⟩ := h
  refine ⟨e, ρ, τ, ts, st, ?_⟩
  unfold evOr at h
  cases hr : f ρ with
  | ok ρ1 d =>
    simp only [hr, Res.bind_ok] at h
    intro v H' s
    cases d with
    | bl b =>
      obtain ⟨F, S, r⟩ := s.top
      refine ⟨b, r, ?_⟩
      cases b with
      | false => exact ⟨e, ρ1, τ, ts, s.pop, h⟩
      | true => exact h (.bl true) H' (s.pop.push fun F => rfl)
    | non => exact h.elim
    | int _ => exact h.elim
    | str _ => exact h.elim
    | tup _ => exact h.elim
    | lst _ _ => exact h.elim
    | dct _ _ _ => exact h.elim
    | ins _ _ _ _ => exact h.elim
    | exd _ => exact h.elim
    | err _ _ => exact h.elim
    | any => exact h.elim
    | scr _ => exact h.elim
  | ex ρ1 c x => simp only [hr, Res.bind_ex] at h; exact h
  | bad => simp only [hr, Res.bind_bad] at h; exact h
theorem ge_one {op : PySem.BoolOp} (h : GE X A pr W ea f) : GE X A pr W (.BoolOp op [ea] pos) f := pe_one h
end
end Fz

namespace Fz
open PySem L2

/-! ### statements -/
inductive Fl where
  | nx
  | ct
  | rt (d : D)
abbrev SM := Env → Res Fl
def SatS (A : Gm) (pr : List Nat) (W : WX) (e : En) (r : Res Fl) (D : Ends) : Prop :=
  match r with
  | .ok ρ' .nx => ∀ σ' H', ST A pr e ρ' σ' [] [] H' → D.nx σ' H'
  | .ok ρ' .ct => ∀ σ' H', ST A pr e ρ' σ' [] [] H' → D.ct σ' H'
  | .ok ρ' (.rt d) => ∀ v σ' H', ST A pr e ρ' σ' [some d] [some v] H' → D.rt v H'
  | .ex ρ' c x => ∀ dd σ' H', ST A pr e ρ' σ' [some (.exd x)] [some (.ref dd)] H' → W (.ref (A.cl c)) (some dd) σ' H'
  | .bad => False
def GS (A : Gm) (pr : List Nat) (W : WX) (s : SM) : TS := fun D σ H => ∃ e ρ, ST A pr e ρ σ [] [] H ∧ SatS A pr W e (s ρ) D
abbrev GQ (X : Cx) (A : Gm) (pr : List Nat) (W : WX) (st : Stmt) (s : SM) : Prop := PS X st (GS A pr W s)
abbrev GQs (X : Cx) (A : Gm) (pr : List Nat) (W : WX) (st : List Stmt) (s : SM) : Prop := PSs X st (GS A pr W s)

def sNx : SM := fun ρ => .ok ρ .nx
def sCt : SM := fun ρ => .ok ρ .ct
def sSeq (s t : SM) : SM := fun ρ => (s ρ).bind fun ρ1 f => match f with
  | .nx => t ρ1
  | f => .ok ρ1 f
def sSet (i : Nat) (f : EvE) : SM := fun ρ => (f ρ).bind fun ρ1 d => if i < ρ1.length then .ok (ρ1.set i (some d)) .nx else .bad
def sDrop (f : EvE) : SM := fun ρ => (f ρ).bind fun ρ1 _ => .ok ρ1 .nx
def sRet (f : EvE) : SM := fun ρ => (f ρ).bind fun ρ1 d => .ok ρ1 (.rt d)
def sRetN : SM := fun ρ => .ok ρ (.rt .non)
def sIf (c : EvT) (s t : SM) : SM := fun ρ => (c ρ).bind fun ρ1 b => if b then s ρ1 else t ρ1
/-- names stored one after another -/
def setAll : List Nat → List D → Env → Option Env
  | [], [], ρ => some ρ
  | i :: is, d :: ds, ρ => if i < ρ.length then setAll is ds (ρ.set i (some d)) else none
  | _, _, _ => none
theorem setAll_cons {i : Nat} {is : List Nat} {d : D} {ds : List D} {ρ : Env} : setAll (i :: is) (d :: ds) ρ = if i < ρ.length then setAll is ds (ρ.set i (some d)) else none := rfl
theorem setAll_len : ∀ {is : List Nat} {ds : List D} {ρ ρ2 : Env}, setAll is ds ρ = some ρ2 → ds.length = is.length
  | [], [], _, _, _ => rfl
  | [], _ :: _, _, _, h => by simp [setAll] at h
  | _ :: _, [], _, _, h => by simp [setAll] at h
  | i :: is, d :: ds, ρ, ρ2, h => by
    rw [setAll_cons] at h
    split at h
    · simp [setAll_len h]
    · cases h
/-- a, b, .. = a tuple -/
def sTup (is : List Nat) (f : EvE) : SM := fun ρ => (f ρ).bind fun ρ1 d => match d with
  | .tup ds => match setAll is ds ρ1 with
    | some ρ2 => .ok ρ2 .nx
    | none => .bad
  | _ => .bad

section
variable {A : Gm} {pr : List Nat} {W : WX} {e : En} {ρ ρ' : Env} {σ : St} {τ : List (Option D)} {ts : List (Option V)} {H : Hp} {Q : VK}
theorem ST.storeMid {tds : List (Option D)} {tvs : List (Option V)} {d : D} {v : V} {i : Nat} (st : ST A pr e ρ σ (τ ++ some d :: tds) (ts ++ some v :: tvs) H) (lt : τ.length = ts.length) (hi : i < ρ.length) (hp : i ∉ pr) :
    ST A pr e (ρ.set i (some d)) (σ.set i (some v)) (τ ++ tds) (ts ++ tvs) H := by
  obtain ⟨F, S, ro, l, w, x, p⟩ := st
  have ll : (ρ ++ τ).length = (σ ++ ts).length := by rw [List.length_append, List.length_append, l, lt]
  rw [← List.append_assoc, ← List.append_assoc] at ro
  obtain ⟨S1, S2, r, back, q1, q2⟩ := ro.takeMid ll
  have b2 := back.put (i := i) (d := d) (v := v) (U := S) (by simp; omega) r q1 q2
  rw [List.append_assoc, List.append_assoc, List.set_append_left _ _ hi, List.set_append_left _ _ (by omega)] at b2
  refine ⟨F, S, b2, by simpa using l, w, x, fun k hk => ?_⟩
  rw [List.getElem?_set_ne (fun z => hp (by rw [z]; exact hk))]
  exact p k hk
/-- a tuple at hand: its items -/
theorem ST.untup {tds : List (Option D)} {tvs : List (Option V)} {ds : List D} {v : V} (st : ST A pr e ρ σ (τ ++ some (.tup ds) :: tds) (ts ++ some v :: tvs) H) (lt : τ.length = ts.length) :
    ∃ a vs, v = .ref a ∧ H a = some (.tup vs) ∧ vs.length = ds.length ∧ ST A pr e ρ σ (τ ++ (ds.map some ++ tds)) (ts ++ (vs.map some ++ tvs)) H := by
  obtain ⟨F, S, ro, l, w, x, p⟩ := st
  have ll : (ρ ++ τ).length = (σ ++ ts).length := by rw [List.length_append, List.length_append, l, lt]
  rw [← List.append_assoc, ← List.append_assoc] at ro
  obtain ⟨us, ws, T1, T2, q, r1, r2, p1, p2⟩ := ro.split
  have hq := List.append_inj q (by rw [← ll, r1.length])
  rw [← hq.1] at r1
  rw [← hq.2] at r2
  obtain ⟨w', vs', S1, S2, e', r, rl, q1, q2⟩ := r2
  injection e' with e1 e2
  injection e1 with e1
  subst e1 e2
  obtain ⟨a, vs, ea, fa, rd, rr⟩ := r
  refine ⟨a, vs, ea, rd, rr.length, F, S, ?_, l, w, x, p⟩
  rw [← List.append_assoc ρ, ← List.append_assoc σ]
  exact RO.append r1 (RO.append (RO.ofL rr) rl q1 q2) p1 p2
theorem ST.top2 {d : D} {v : V} (s : ST A pr e ρ σ (τ ++ [some d]) (ts ++ [some v]) H) : ∃ F S, R A F H d v S := s.top
end

section
variable {X : Cx} {A : Gm} {pr : List Nat} {W : WX} {pos : Pos} {ee : Expr} {f : EvE} {c : EvT} {i : Nat} {x : Str} {s t : SM} {st : Stmt} {rest : List Stmt}
theorem gs_pass : GQ X A pr W (.Pass pos) sNx := PS_imp ps_pass fun D σ H h => by
  obtain ⟨e, ρ, st, h⟩ := h
  exact h σ H st
theorem gs_cont : GQ X A pr W (.Continue pos) sCt := PS_imp ps_continue fun D σ H h => by
  obtain ⟨e, ρ, st, h⟩ := h
  exact h σ H st
theorem gss_nil : GQs X A pr W [] sNx := PSs_imp pss_nil fun D σ H h => by
  obtain ⟨e, ρ, st, h⟩ := h
  exact h σ H st
theorem gss_one (h : GQ X A pr W st s) : GQs X A pr W [st] s := pss_one h
theorem gss_cons (h : GQ X A pr W st s) (hr : GQs X A pr W rest t) : GQs X A pr W (st :: rest) (sSeq s t) := PSs_imp (pss_cons h hr) fun D σ H q => by
  obtain ⟨e, ρ, st, q⟩ := q
  refine ⟨e, ρ, st, ?_⟩
  unfold sSeq at q
  cases hr : s ρ with
  | ok ρ1 fl =>
    simp only [hr, Res.bind_ok] at q
    cases fl with
    | nx => exact fun σ' H' s1 => ⟨e, ρ1, s1, q⟩
    | ct => exact q
    | rt d => exact q
  | ex ρ1 c x => simp only [hr, Res.bind_ex] at q; exact q
  | bad => simp only [hr, Res.bind_bad] at q; exact q
/-- what a statement's expression leaves -/
theorem GS.expr {k : Env → D → Res Fl} {D : Ends} {σ : St} {H : Hp} (h : GS A pr W (fun ρ => (f ρ).bind k) D σ H) {K : VK} (hk : ∀ e ρ1 d v H', f (ρ1) = f ρ1 → ST A pr e ρ1 σ [some d] [some v] H' → SatS A pr W e (k ρ1 d) D → K v H') : G A pr W f σ H K := by
  obtain ⟨e, ρ, st, h⟩ := h
  refine ⟨e, ρ, [], [], st, ?_⟩
  cases hr : f ρ with
  | ok ρ1 d =>
    simp only [hr, Res.bind_ok] at h
    exact fun v H' s1 => hk e ρ1 d v H' rfl s1 h
  | ex ρ1 c x => simp only [hr, Res.bind_ex] at h; exact fun dd H' s1 => h dd σ H' s1
  | bad => simp only [hr, Res.bind_bad] at h; exact h
theorem gs_set {pos' : Pos} (hN : X.N.Nodup) (hi : X.N[i]? = some x) (hx : Loc X.env.scope x) (he : GE X A pr W ee f) (hp : i ∉ pr) (hs : swapsWith ee (some (.Name x pos')) pos.line X.env = pure false := by rfl)
    (hf : X.fn x = true ∨ X.env.scope.names.lookup x = some .local := by first | exact .inl rfl | exact .inr rfl | assumption) : GQ X A pr W (.Assign [.Name x pos'] ee pos) (sSet i f) :=
  PS_imp (ps_set hN hi hx he hs hf) fun D σ H h => GS.expr h fun e ρ1 d v H' _ s1 q => by
    split at q
    · rename_i hl
      exact q _ H' (s1.store (τ := []) (ts := []) hl hp)
    · exact q.elim
theorem gs_drop (he : GE X A pr W ee f) (hs : swapsWith ee none pos.line X.env = pure false := by rfl) : GQ X A pr W (.Expr ee pos) (sDrop f) :=
  PS_imp (ps_expr he hs) fun D σ H h => GS.expr h fun e ρ1 d v H' _ s1 q => q σ H' (s1.pop (τ := []) (ts := []))
theorem gs_ret (he : GE X A pr W ee f) : GQ X A pr W (.Return (some ee) pos) (sRet f) :=
  PS_imp (ps_ret he) fun D σ H h => GS.expr h fun e ρ1 d v H' _ s1 q => q v σ H' s1
theorem gs_retN : GQ X A pr W (.Return none pos) sRetN := PS_imp ps_retN fun D σ H h => by
  obtain ⟨e, ρ, st, h⟩ := h
  exact h .non σ H (st.push (τ := []) (ts := []) fun F => rfl)
theorem gs_if {ec : Expr} {a b : List Stmt} (hc : GB X A pr W ec c) (ha : GQs X A pr W a s) (hb : GQs X A pr W b t) : GQ X A pr W (.If ec a b pos) (sIf c s t) :=
  PS_imp (ps_if hc ha hb) fun D σ H h => by
    obtain ⟨e, ρ, st, h⟩ := h
    refine ⟨e, ρ, [], [], st, ?_⟩
    unfold sIf at h
    cases hr : c ρ with
    | ok ρ1 b =>
      simp only [hr, Res.bind_ok] at h
      intro H' s1
      cases b with
      | true => exact ⟨e, ρ1, s1, h⟩
      | false => exact ⟨e, ρ1, s1, h⟩
    | ex ρ1 c x => simp only [hr, Res.bind_ex] at h; exact fun dd H' s1 => h dd σ H' s1
    | bad => simp only [hr, Res.bind_bad] at h; exact h

/-! ### targets -/
/-- names, by their slots -/
structure PNs (X : Cx) (ts : List Expr) (is : List Nat) (t : TGs) : Prop where
  pg : PGs X ts t
  eq : t = is.foldr (fun i u => gCons (gName i) u) gNil
theorem pns_nil : PNs X [] [] gNil := ⟨pgs_nil, rfl⟩
theorem pns_cons {es : List Expr} {is : List Nat} {u : TGs} {pos' : Pos} (hN : X.N.Nodup) (hi : X.N[i]? = some x) (hx : Loc X.env.scope x) (h2 : PNs X es is u)
    (hf : X.fn x = true ∨ X.env.scope.names.lookup x = some .local := by first | exact .inl rfl | exact .inr rfl | assumption)
    (hs : (assignEach (.Name x pos' :: es) X.env).map (·.2) = assign (.Name x pos') X.env :: (assignEach es X.env).map (·.2) := by rfl) : PNs X (.Name x pos' :: es) (i :: is) (gCons (gName i) u) :=
  ⟨pgs_cons (pg_name hN hi hx hf) h2.pg hs, by rw [h2.eq]; rfl⟩
def isTG (is : List Nat) : TGs := is.foldr (fun i u => gCons (gName i) u) gNil
/-- the stores of several names -/
theorem isTG_ok {e : En} : ∀ {is : List Nat} {ds : List D} {vs : List V} {ρ ρ2 : Env} {σ : St} {τ : List (Option D)} {ts : List (Option V)} {H : Hp} {K : St → Hp → Prop}, ST A pr e ρ σ (ds.map some ++ τ) (vs.map some ++ ts) H → vs.length = ds.length → (∀ i ∈ is, i ∉ pr) →
    setAll is ds ρ = some ρ2 → (∀ σ2, ST A pr e ρ2 σ2 τ ts H → K σ2 H) → isTG is vs σ H K
  | [], [], vs, ρ, ρ2, σ, τ, ts, H, K, st, l, np, hs, k => by
    have : vs = [] := List.eq_nil_of_length_eq_zero (by simpa using l)
    subst this
    simp [setAll] at hs
    subst hs
    exact ⟨rfl, k σ (by simpa using st)⟩
  | [], _ :: _, vs, ρ, ρ2, σ, τ, ts, H, K, st, l, np, hs, k => by simp [setAll] at hs
  | i :: is, [], vs, ρ, ρ2, σ, τ, ts, H, K, st, l, np, hs, k => by simp [setAll] at hs
  | i :: is, d :: ds, vs, ρ, ρ2, σ, τ, ts, H, K, st, l, np, hs, k => by
    cases vs with
    | nil => simp at l
    | cons v vs =>
      rw [setAll_cons] at hs
      split at hs
      · rename_i hi
        have s1 := ST.storeMid (τ := []) (ts := []) (i := i) st rfl hi (np i List.mem_cons_self)
        exact ⟨v, vs, rfl, isTG_ok s1 (by simpa using l) (fun j hj => np j (List.mem_cons_of_mem _ hj)) hs k⟩
      · cases hs
theorem gs_tup {is : List Nat} {es : List Expr} {u : TGs} {k : Nat} {tpos : Pos} (hc : X.calm = true) (h : PNs X es is u) (he : GE X A pr W ee f) (np : ∀ i ∈ is, i ∉ pr)
    (hn : (assignEach es X.env).length = is.length := by rfl) (hst : (assignEach es X.env).findIdx? (·.1) = none := by rfl)
    (hs : swapsWithSole [.Tuple es k tpos] ee pos.line X.env = pure false := by rfl) (hw : swappedStores [.Tuple es k tpos] ee X.env = pure none := by rfl)
    (h1 : (assignEach [.Tuple es k tpos] X.env).map (·.2) = [assign (.Tuple es k tpos) X.env] := by rfl) : GQ X A pr W (.Assign [.Tuple es k tpos] ee pos) (sTup is f) :=
  PS_imp (ps_asg he (pg_tup hc h.pg hn hst) hs hw h1) fun D σ H q => GS.expr q fun e ρ1 d v H' _ s1 q => by
    cases d with
    | tup ds =>
      dsimp only at q
      split at q
      · rename_i ρ2 hs2
        obtain ⟨a, vs, rfl, rd, lv, s2⟩ := ST.untup (τ := []) (ts := []) (tds := []) (tvs := []) s1 rfl
        have hl : ds.length = is.length := setAll_len hs2
        refine ⟨a, vs, rfl, .of rd, by omega, ?_⟩
        rw [h.eq]
        exact isTG_ok (τ := []) (ts := []) s2 lv np hs2 fun σ2 s3 => q σ2 H' s3
      · exact q.elim
    | non => exact q.elim
    | bl _ => exact q.elim
    | int _ => exact q.elim
    | str _ => exact q.elim
    | lst _ _ => exact q.elim
    | dct _ _ _ => exact q.elim
    | ins _ _ _ _ => exact q.elim
    | exd _ => exact q.elim
    | err _ _ => exact q.elim
    | any => exact q.elim
    | scr _ => exact q.elim

/-! ### a stretch of its own -/
theorem ST.sub {e : En} {ρ : Env} {σ : St} {τ : List (Option D)} {ts : List (Option V)} {H : Hp} (st : ST A pr e ρ σ τ ts H) :
    ∃ F S, RO A F H (ρ ++ τ) (σ ++ ts) S ∧ Wd F S H ∧ ST A pr ⟨F, S, H, e.ar⟩ ρ σ τ ts H ∧ ∀ {ρ' σ' τ' ts' H'}, ST A pr ⟨F, S, H, e.ar⟩ ρ' σ' τ' ts' H' → ST A pr e ρ' σ' τ' ts' H' := by
  obtain ⟨F, S, ro, l, w, x, p⟩ := st
  refine ⟨F, S, ro, w, ⟨F, S, ro, l, w, Ext.refl, p⟩, fun {ρ' σ' τ' ts' H'} h => ?_⟩
  obtain ⟨F2, S2, ro2, l2, w2, x2, p2⟩ := h
  exact ⟨F2, S2, ro2, l2, w2, x.trans x2, p2⟩
/-- what was frozen at the stretch's beginning stands -/
theorem ST.kp {e : En} {ρ : Env} {σ : St} {τ : List (Option D)} {ts : List (Option V)} {H : Hp} (we : Wd e.F e.S e.H) (st : ST A pr e ρ σ τ ts H) : ∀ b, e.F b → H b = e.H b := by
  obtain ⟨F, S, ro, l, w, x, p⟩ := st
  exact fun b hb => x.fr b (we.lv b (.inl hb)) (we.fs b hb)
theorem ST.recall {e : En} {ρ : Env} {σ : St} {τ : List (Option D)} {ts : List (Option V)} {H : Hp} {d : D} {v : V} (we : Wd e.F e.S e.H) (st : ST A pr e ρ σ τ ts H) (r : R A e.F e.H d v (fun _ => False)) : ST A pr e ρ σ (τ ++ [some d]) (ts ++ [some v]) H := by
  have k := st.kp we
  obtain ⟨F, S, ro, l, w, x, p⟩ := st
  have r2 : R A F H d v (fun _ => False) := r.frame x.ff (fun b hb => hb.elim (k b) fun z => z.elim)
  refine ⟨F, S, ?_, l, w, x, p⟩
  rw [← List.append_assoc, ← List.append_assoc]
  exact RO.append ro (show RO A F H [some d] [some v] (fun _ => False) from ⟨v, [], fun _ => False, fun _ => False, rfl, r2, rfl, fun _ z => z.elim, fun _ z => z.elim⟩) (fun b hb => ⟨hb, id⟩) (fun _ z => z.elim)

/-! ### what is walked -/
structure Src (A : Gm) (J : It) (e : En) (ds : List D) : Prop where
  go : ∀ i H, i < ds.length → (∀ b, e.F b → H b = e.H b) → J.go i H
  stop : ∀ H, (∀ b, e.F b → H b = e.H b) → J.stop ds.length H
  yld : ∀ i H x H' pr ρ σ τ ts, i < ds.length → J.yld i H x H' → ST A pr e ρ σ τ ts H → ∃ d, ds[i]? = some d ∧ ST A pr e ρ σ (τ ++ [some d]) (ts ++ [some x]) H'
abbrev EvI := Env → Res (List D)
def SatI (A : Gm) (pr : List Nat) (W : WX) (e : En) (σ : St) (τ : List (Option D)) (ts : List (Option V)) (r : Res (List D)) (Rr : It → Hp → Prop) : Prop :=
  match r with
  | .ok ρ' ds => ∀ e1 J H', Wd e1.F e1.S e1.H → ST A pr e1 ρ' σ τ ts H' → (∀ {ρ'' σ'' τ'' ts'' H''}, ST A pr e1 ρ'' σ'' τ'' ts'' H'' → ST A pr e ρ'' σ'' τ'' ts'' H'') → Src A J e1 ds → Rr J H'
  | .ex ρ' c x => ∀ dd H', ST A pr e ρ' σ (τ ++ [some (.exd x)]) (ts ++ [some (.ref dd)]) H' → W (.ref (A.cl c)) (some dd) σ H'
  | .bad => False
def GI (A : Gm) (pr : List Nat) (W : WX) (f : EvI) : TI := fun σ H Rr => ∃ e ρ τ ts, ST A pr e ρ σ τ ts H ∧ SatI A pr W e σ τ ts (f ρ) Rr
abbrev GW (X : Cx) (A : Gm) (pr : List Nat) (W : WX) (tg iter : Expr) (f : EvI) : Prop := PI X tg iter (GI A pr W f)
theorem PI_imp {tg iter : Expr} {t t' : TI} (h : PI X tg iter t) (k : ∀ σ H Q, t' σ H Q → t σ H Q) : PI X tg iter t' := ⟨fun pins s σ H Q I q => h.run pins s σ H Q I (k σ H Q q)⟩

/-! ### for -/
/-- how an item is stored -/
inductive Tgt where
  | nm (i : Nat)
  | tup (is : List Nat)
def Tgt.set : Tgt → D → Env → Option Env
  | .nm i, d, ρ => if i < ρ.length then some (ρ.set i (some d)) else none
  | .tup is, .tup ds, ρ => setAll is ds ρ
  | .tup _, _, _ => none
def Tgt.all (t : Tgt) (p : Nat → Prop) : Prop := match t with
  | .nm i => p i
  | .tup is => ∀ i ∈ is, p i
def Tgt.tg (K : PySem.W.Frag) : Tgt → TG
  | .nm i => gName i
  | .tup is => gTup K is.length (isTG is)
abbrev GTg (X : Cx) (e : Expr) (t : Tgt) : Prop := PG X e (t.tg X.K)
theorem gt_nm {pos' : Pos} (hN : X.N.Nodup) (hi : X.N[i]? = some x) (hx : Loc X.env.scope x) (hf : X.fn x = true ∨ X.env.scope.names.lookup x = some .local := by first | exact .inl rfl | exact .inr rfl | assumption) : GTg X (.Name x pos') (.nm i) := pg_name hN hi hx hf
theorem gt_tup {is : List Nat} {es : List Expr} {u : TGs} {k : Nat} (hc : X.calm = true) (h : PNs X es is u) (hn : (assignEach es X.env).length = is.length := by rfl) (hst : (assignEach es X.env).findIdx? (·.1) = none := by rfl) : GTg X (.Tuple es k pos) (.tup is) := by
  have := pg_tup (pos := pos) (k := k) hc h.pg hn hst
  rw [h.eq] at this
  exact this
theorem Tgt.ok {K : PySem.W.Frag} {t : Tgt} {e : En} {ρ ρ2 : Env} {σ : St} {τ : List (Option D)} {ts : List (Option V)} {H : Hp} {d : D} {v : V} {Kt : St → Hp → Prop} (st : ST A pr e ρ σ (some d :: τ) (some v :: ts) H) (np : t.all (fun i => i ∉ pr)) (hs : t.set d ρ = some ρ2)
    (k : ∀ σ2, ST A pr e ρ2 σ2 τ ts H → Kt σ2 H) : t.tg K v σ H Kt := by
  cases t with
  | nm i =>
    change (if i < ρ.length then some (ρ.set i (some d)) else none) = some ρ2 at hs
    split at hs
    · rename_i hi
      cases hs
      exact k _ (ST.storeMid (τ := []) (ts := []) st rfl hi np)
    · cases hs
  | tup is =>
    cases d with
    | tup ds =>
      obtain ⟨a, vs, rfl, rd, lv, s2⟩ := ST.untup (τ := []) (ts := []) st rfl
      refine ⟨a, vs, rfl, .of rd, by have := setAll_len hs; omega, ?_⟩
      exact isTG_ok s2 lv np hs k
    | non => cases hs
    | bl _ => cases hs
    | int _ => cases hs
    | str _ => cases hs
    | lst _ _ => cases hs
    | dct _ _ _ => cases hs
    | ins _ _ _ _ => cases hs
    | exd _ => cases hs
    | err _ _ => cases hs
    | any => cases hs
    | scr _ => cases hs
def forD (t : Tgt) (body : SM) : List D → SM
  | [], ρ => .ok ρ .nx
  | d :: ds, ρ => match t.set d ρ with
    | none => .bad
    | some ρ1 => (body ρ1).bind fun ρ2 fl => match fl with
      | .rt d => .ok ρ2 (.rt d)
      | _ => forD t body ds ρ2
def sFor (src : EvI) (t : Tgt) (body : SM) : SM := fun ρ => (src ρ).bind fun ρ1 ds => forD t body ds ρ1
theorem SatS.of {e e1 : En} {r : Res Fl} {D : Ends} (b : ∀ {ρ'' σ'' τ'' ts'' H''}, ST A pr e1 ρ'' σ'' τ'' ts'' H'' → ST A pr e ρ'' σ'' τ'' ts'' H'') (h : SatS A pr W e r D) : SatS A pr W e1 r D := by
  cases r with
  | ok ρ fl =>
    cases fl with
    | nx => exact fun σ' H' s => h σ' H' (b s)
    | ct => exact fun σ' H' s => h σ' H' (b s)
    | rt d => exact fun v σ' H' s => h v σ' H' (b s)
  | ex ρ c x => exact fun dd σ' H' s => h dd σ' H' (b s)
  | bad => exact h
theorem gs_for {tg iter : Expr} {body : List Stmt} {src : EvI} {tt : Tgt} (hp : PassesOwn (model X.prog X.w) X.A X.env X.xe) (hc : X.calm = true) (hi : GW X A pr W tg iter src) (hg : GTg X tg tt) (hb : GQs X A pr W body s) (np : tt.all (fun i => i ∉ pr))
    (hs : ∀ x, foldedSetIterable iter X.env x = pure x := by intro _; rfl) : GQ X A pr W (.For tg iter body [] pos) (sFor src tt s) :=
  PS_imp (ps_for hp hc hi hg hb hs) fun D σ H h => by
    obtain ⟨e, ρ, st, h⟩ := h
    refine ⟨e, ρ, [], [], st, ?_⟩
    unfold sFor at h
    cases hr : src ρ with
    | ok ρ1 ds =>
      simp only [hr, Res.bind_ok] at h
      intro e1 J H1 w1 s1 back sc
      refine ⟨fun i m σ H => m = ds.length - i ∧ i ≤ ds.length ∧ ∃ ρ, ST A pr e1 ρ σ [] [] H ∧ SatS A pr W e (forD tt s (ds.drop i) ρ) D, ⟨ds.length, by simp, Nat.zero_le _, ρ1, s1, by simpa using h⟩, ?_⟩
      rintro i m σ H ⟨rfl, hi, ρ2, s2, q⟩
      by_cases hlt : i < ds.length
      · refine .inr ⟨sc.go i H hlt (s2.kp w1), fun σ' H' => ∃ ρ, ST A pr e1 ρ σ' [] [] H' ∧ SatS A pr W e (forD tt s (ds.drop (i + 1)) ρ) D, fun σ' H' z => ⟨ds.length - (i + 1), by omega, rfl, hlt, z⟩, fun x H' y => ?_⟩
        obtain ⟨d, hd, s3⟩ := sc.yld i H x H' pr ρ2 σ [] [] hlt y s2
        have ed : ds.drop i = d :: ds.drop (i + 1) := by
          rw [List.drop_eq_getElem_cons hlt]
          have : ds[i] = d := by rw [List.getElem?_eq_getElem hlt] at hd; exact Option.some.inj hd
          rw [this]
        rw [ed] at q
        unfold forD at q
        cases ht : tt.set d ρ2 with
        | none => rw [ht] at q; exact q.elim
        | some ρ3 =>
          rw [ht] at q
          refine Tgt.ok s3 np ht fun σ2 s4 => ⟨e1, ρ3, s4, ?_⟩
          dsimp only at q
          cases hb : s ρ3 with
          | ok ρ4 fl =>
            simp only [hb, Res.bind_ok] at q
            cases fl with
            | nx => exact fun σ' H' s5 => ⟨ρ4, s5, q⟩
            | ct => exact fun σ' H' s5 => ⟨ρ4, s5, q⟩
            | rt d => exact fun v σ' H' s5 => q v σ' H' (back s5)
          | ex ρ4 c x => simp only [hb, Res.bind_ex] at q; exact fun dd σ' H' s5 => q dd σ' H' (back s5)
          | bad => simp only [hb, Res.bind_bad] at q; exact q
      · have ei : i = ds.length := by omega
        subst ei
        rw [List.drop_length] at q
        exact .inl ⟨sc.stop H (s2.kp w1), q σ H (back s2)⟩
    | ex ρ1 c x => simp only [hr, Res.bind_ex] at h; exact fun dd H' s1 => h dd σ H' s1
    | bad => simp only [hr, Res.bind_bad] at h; exact h

/-! ### while -/
def wIt (c : EvT) (body : SM) : Nat → Env → Option (Res Fl)
  | 0, _ => none
  | n + 1, ρ => match c ρ with
    | .ok ρ1 true => match body ρ1 with
      | .ok ρ2 (.rt d) => some (.ok ρ2 (.rt d))
      | .ok ρ2 _ => wIt c body n ρ2
      | .ex ρ2 c x => some (.ex ρ2 c x)
      | .bad => some .bad
    | .ok ρ1 false => some (.ok ρ1 .nx)
    | .ex ρ2 c x => some (.ex ρ2 c x)
    | .bad => some .bad
open Classical in
noncomputable def sWhile (c : EvT) (body : SM) : SM := fun ρ => if h : ∃ n r, wIt c body n ρ = some r then (Classical.choose_spec h).choose else .bad
theorem wIt_mono {c : EvT} {body : SM} : ∀ {n m : Nat} {ρ : Env} {r : Res Fl}, wIt c body n ρ = some r → n ≤ m → wIt c body m ρ = some r
  | 0, m, ρ, r, h, l => by simp [wIt] at h
  | n + 1, 0, ρ, r, h, l => by omega
  | n + 1, m + 1, ρ, r, h, l => by
    unfold wIt at h ⊢
    split at h
    · split at h
      · exact h
      · exact wIt_mono h (by omega)
      · exact h
      · exact h
    · exact h
    · exact h
    · exact h
theorem sWhile_of {c : EvT} {body : SM} {n : Nat} {ρ : Env} {r : Res Fl} (h : wIt c body n ρ = some r) : sWhile c body ρ = r := by
  have ex : ∃ n r, wIt c body n ρ = some r := ⟨n, r, h⟩
  unfold sWhile
  rw [dif_pos ex]
  have h2 := (Classical.choose_spec ex).choose_spec
  have a := wIt_mono h (Nat.le_max_left n (Classical.choose ex))
  have b := wIt_mono h2 (Nat.le_max_right n (Classical.choose ex))
  rw [a] at b
  exact (Option.some.inj b).symm
/-- one turn -/
theorem sWhile_eq (c : EvT) (body : SM) (ρ : Env) : sWhile c body ρ = (c ρ).bind fun ρ1 b => if b then (body ρ1).bind fun ρ2 fl => match fl with | .rt d => .ok ρ2 (.rt d) | _ => sWhile c body ρ2 else .ok ρ1 .nx := by
  by_cases ex : ∃ n r, wIt c body n ρ = some r
  · obtain ⟨n, r, h⟩ := ex
    rw [sWhile_of h]
    cases n with
    | zero => simp [wIt] at h
    | succ n =>
      unfold wIt at h
      cases hc : c ρ with
      | ok ρ1 b =>
        rw [hc] at h
        cases b with
        | true =>
          dsimp only at h
          cases hb : body ρ1 with
          | ok ρ2 fl =>
            rw [hb] at h
            cases fl with
            | rt d => cases h; simp [hb]
            | nx => simp [hb]; rw [sWhile_of h]
            | ct => simp [hb]; rw [sWhile_of h]
          | ex ρ2 c x => rw [hb] at h; cases h; simp [hb]
          | bad => rw [hb] at h; cases h; simp [hb]
        | false => cases h; simp
      | ex ρ2 c x => rw [hc] at h; cases h; simp
      | bad => rw [hc] at h; cases h; simp
  · have e1 : sWhile c body ρ = .bad := by unfold sWhile; rw [dif_neg ex]
    rw [e1]
    cases hc : c ρ with
    | ok ρ1 b =>
      cases b with
      | true =>
        cases hb : body ρ1 with
        | ok ρ2 fl =>
          cases fl with
          | rt d => exact absurd ⟨1, _, by unfold wIt; rw [hc]; dsimp only; rw [hb]⟩ ex
          | nx =>
            have : ¬ ∃ n r, wIt c body n ρ2 = some r := fun ⟨n, r, h⟩ => ex ⟨n + 1, r, by unfold wIt; rw [hc]; dsimp only; rw [hb]; exact h⟩
            simp [hb]; unfold sWhile; rw [dif_neg this]
          | ct =>
            have : ¬ ∃ n r, wIt c body n ρ2 = some r := fun ⟨n, r, h⟩ => ex ⟨n + 1, r, by unfold wIt; rw [hc]; dsimp only; rw [hb]; exact h⟩
            simp [hb]; unfold sWhile; rw [dif_neg this]
        | ex ρ2 c x => exact absurd ⟨1, _, by unfold wIt; rw [hc]; dsimp only; rw [hb]⟩ ex
        | bad => simp [hb]
      | false => exact absurd ⟨1, _, by unfold wIt; rw [hc]⟩ ex
    | ex ρ2 c x => exact absurd ⟨1, _, by unfold wIt; rw [hc]⟩ ex
    | bad => simp
theorem gs_while {ec : Expr} {body : List Stmt} (hp : PassesOwn (model X.prog X.w) X.A X.env X.xe) (hc : GB X A pr W ec c) (hb : GQs X A pr W body s) : GQ X A pr W (.While ec body [] pos) (sWhile c s) :=
  PS_imp (ps_while hp hc hb) fun D σ H h => by
    obtain ⟨e, ρ, st, h⟩ := h
    have ex : ∃ n r, wIt c s n ρ = some r := by
      by_cases ex : ∃ n r, wIt c s n ρ = some r
      · exact ex
      · unfold sWhile at h
        rw [dif_neg ex] at h
        exact h.elim
    obtain ⟨n, r, hn⟩ := ex
    rw [sWhile_of hn] at h
    refine ⟨fun m σ H => ∃ ρ r, ST A pr e ρ σ [] [] H ∧ wIt c s m ρ = some r ∧ SatS A pr W e r D, ⟨n, ρ, r, st, hn, h⟩, ?_⟩
    rintro m σ H ⟨ρ, r, st, hm, q⟩
    cases m with
    | zero => simp [wIt] at hm
    | succ m =>
      unfold wIt at hm
      refine ⟨e, ρ, [], [], st, ?_⟩
      cases hc : c ρ with
      | ok ρ1 b =>
        rw [hc] at hm
        intro H' s1
        cases b with
        | true =>
          rw [if_pos rfl]
          refine ⟨fun σ' H' => ∃ ρ r, ST A pr e ρ σ' [] [] H' ∧ wIt c s m ρ = some r ∧ SatS A pr W e r D, fun σ' H' z => ⟨m, Nat.lt_succ_self m, z⟩, e, ρ1, s1, ?_⟩
          dsimp only at hm
          cases hb : s ρ1 with
          | ok ρ2 fl =>
            rw [hb] at hm
            cases fl with
            | rt d => cases hm; exact q
            | nx => exact fun σ' H' s2 => ⟨ρ2, r, s2, hm, q⟩
            | ct => exact fun σ' H' s2 => ⟨ρ2, r, s2, hm, q⟩
          | ex ρ2 c x => rw [hb] at hm; cases hm; exact q
          | bad => rw [hb] at hm; cases hm; exact q
        | false =>
          cases hm
          rw [if_neg Bool.false_ne_true]
          exact q σ H' s1
      | ex ρ2 c x => rw [hc] at hm; cases hm; exact fun dd H' s1 => q dd σ H' s1
      | bad => rw [hc] at hm; cases hm; exact q
end
end Fz

namespace Fz
open PySem L2

/-! ### a def -/
def msk (pr : List Nat) : Nat → List D → List D
  | _, [] => []
  | k, d :: ds => (if pr.contains k then d else fz d) :: msk pr (k + 1) ds
def bck (pr : List Nat) (ρ : Env) : Nat → List D → Option (List D)
  | _, [] => some []
  | k, d :: ds => match bck pr ρ (k + 1) ds with
    | none => none
    | some ds' => if pr.contains k then (match ρ[k]? with
      | some (some d') => some (d' :: ds')
      | _ => none) else some (d :: ds')
def mkFn (n np : Nat) (pr : List Nat) (body : SM) : Prim := fun ds =>
  match body ((msk pr 0 ds).map some ++ List.replicate (n - np) none) with
  | .ok ρ (.rt d) => match bck pr ρ 0 (msk pr 0 ds) with
    | some ds' => .ok d ds'
    | none => .bad
  | .ok ρ .nx => match bck pr ρ 0 (msk pr 0 ds) with
    | some ds' => .ok .non ds'
    | none => .bad
  | .ok _ .ct => .bad
  | .ex _ c x => .ex c x
  | .bad => .bad
/-- what such a def promises -/
def spF (A : Gm) (np : Nat) (p : Prim) : Sp := fun vs H Q E => vs.length = np ∧ Pre A p vs H Q E

section
variable {A : Gm} {pr : List Nat} {W : WX} {F F' : FP} {H H' : Hp}
theorem msk_len : ∀ {ds : List D} {k : Nat}, (msk pr k ds).length = ds.length
  | [], _ => rfl
  | d :: ds, k => by simp [msk, msk_len]
theorem msk_ok : ∀ {ds : List D} {vs : List V} {S : FP} {k : Nat}, RL A F H ds vs S → (∀ b, F b → ¬ S b) →
    ∃ F1 S1 : FP, RL A F1 H (msk pr k ds) vs S1 ∧ (∀ b, F b → F1 b) ∧ (∀ b, F1 b → F b ∨ S b) ∧ (∀ b, S1 b → S b) ∧ (∀ b, F1 b → ¬ S1 b)
  | [], vs, S, k, h, fs => ⟨F, fun _ => False, h, fun _ z => z, fun _ z => .inl z, fun _ z => z.elim, fun _ _ z => z⟩
  | d :: ds, vs, S, k, h, fs => by
    obtain ⟨v, vs', T1, T2, rfl, r, rl, q1, q2⟩ := h
    obtain ⟨F1, S1, rl1, a1, a2, a3, a4⟩ := msk_ok (k := k + 1) rl (fun b hb z => fs b hb (q2 b z))
    show ∃ F1 S1 : FP, RL A F1 H ((if pr.contains k then d else fz d) :: msk pr (k + 1) ds) (v :: vs') S1 ∧ _
    split
    · refine ⟨F1, fun b => T1 b ∨ S1 b, ⟨v, vs', T1, S1, rfl, r.frame a1 (fun _ _ => rfl), rl1, fun b hb => ⟨.inl hb, fun z => (q1 b hb).2 (a3 b z)⟩, fun b hb => .inr hb⟩, a1, fun b hb => (a2 b hb).imp id (q2 b), fun b hb => hb.elim (fun z => (q1 b z).1) (fun z => q2 b (a3 b z)), fun b hb z => ?_⟩
      rcases z with z | z
      · rcases a2 b hb with y | y
        · exact fs b y (q1 b z).1
        · exact (q1 b z).2 y
      · exact a4 b hb z
    · refine ⟨fun b => F1 b ∨ T1 b, S1, ⟨v, vs', fun _ => False, S1, rfl, r.fz (fun b hb => .inl (a1 b hb)) (fun b hb => .inr hb), rl1.frame (fun b hb => .inl hb) (fun _ _ => rfl), fun _ z => z.elim, fun b hb => hb⟩, fun b hb => .inl (a1 b hb), fun b hb => ?_, fun b hb => q2 b (a3 b hb), fun b hb z => ?_⟩
      · rcases hb with y | y
        · exact (a2 b y).imp id (q2 b)
        · exact .inr (q1 b y).1
      · rcases hb with y | y
        · exact a4 b y z
        · exact (q1 b y).2 (a3 b z)
theorem msk_get : ∀ {ds : List D} {k j : Nat} {d : D}, (msk pr k ds)[j]? = some d → pr.contains (k + j) = false → nw d = true
  | [], _, _, _, h, _ => by simp [msk] at h
  | d :: ds, k, 0, d', h, hn => by
    simp only [msk, List.getElem?_cons_zero, Option.some.injEq] at h
    have hn' : pr.contains k = false := hn
    rw [hn'] at h
    subst h
    exact nw_fz d
  | d :: ds, k, j + 1, d', h, hn => by
    simp only [msk, List.getElem?_cons_succ] at h
    exact msk_get h (by rw [show k + 1 + j = k + (j + 1) by omega]; exact hn)
/-- the parameters' values behind the body -/
theorem bck_ok {σ : St} {ρ0 : Env} : ∀ {ds ds' : List D} {vs : List V} {k : Nat} {ρ : Env} {S : FP}, RO A F H ρ σ S → (∀ j, k ≤ j → ρ[j]? = ρ0[j]?) → vs.length = ds.length →
    (∀ j v, pr.contains (k + j) = true → vs[j]? = some v → σ[k + j]? = some (some v)) → (∀ j d v, pr.contains (k + j) = false → ds[j]? = some d → vs[j]? = some v → R A F H d v (fun _ => False)) → bck pr ρ0 k ds = some ds' →
    ∃ S1 : FP, RL A F H ds' vs S1 ∧ ∀ b, S1 b → S b
  | [], ds', vs, k, ρ, S, ro, hr, l, h1, h2, h => by
    simp [bck] at h
    subst h
    exact ⟨fun _ => False, List.eq_nil_of_length_eq_zero (by simpa using l), fun _ z => z.elim⟩
  | d :: ds, ds', [], k, ρ, S, ro, hr, l, h1, h2, h => by simp at l
  | d :: ds, ds', v :: vs, k, ρ, S, ro, hr, l, h1, h2, h => by
    unfold bck at h
    split at h
    · cases h
    · rename_i ds2 hb
      have l' : vs.length = ds.length := by simpa using l
      have h1' : ∀ j w, pr.contains (k + 1 + j) = true → vs[j]? = some w → σ[k + 1 + j]? = some (some w) := fun j w a b => by
        have := h1 (j + 1) w (by rw [show k + (j + 1) = k + 1 + j by omega]; exact a) (by simpa using b)
        rwa [show k + (j + 1) = k + 1 + j by omega] at this
      have h2' : ∀ j d w, pr.contains (k + 1 + j) = false → ds[j]? = some d → vs[j]? = some w → R A F H d w (fun _ => False) := fun j d w a b c =>
        h2 (j + 1) d w (by rw [show k + (j + 1) = k + 1 + j by omega]; exact a) (by simpa using b) (by simpa using c)
      split at h
      · rename_i hp
        split at h
        · rename_i d' hd
          cases h
          have hd' : ρ[k]? = some (some d') := by rw [hr k (Nat.le_refl _)]; exact hd
          obtain ⟨v', T1, T2, g, r, q1, q2, back⟩ := ro.focus hd'
          have hv := h1 0 v (by simpa using hp) rfl
          rw [Nat.add_zero] at hv
          rw [hv] at g
          have : v = v' := by simpa using g
          subst this
          obtain ⟨S1, rl, q⟩ := bck_ok (k := k + 1) back (fun j hj => by rw [List.getElem?_set_ne (by omega)]; exact hr j (by omega)) l' h1' h2' hb
          exact ⟨fun b => T1 b ∨ S1 b, ⟨v, vs, T1, S1, rfl, r, rl, fun b hb => ⟨.inl hb, fun z => (q1 b hb).2 (q b z)⟩, fun b hb => .inr hb⟩, fun b hb => hb.elim (fun z => (q1 b z).1) (fun z => q2 b (q b z))⟩
        · cases h
      · rename_i hp
        cases h
        obtain ⟨S1, rl, q⟩ := bck_ok (k := k + 1) ro (fun j hj => hr j (by omega)) l' h1' h2' hb
        have r := h2 0 d v (by simpa using hp) rfl rfl
        exact ⟨S1, ⟨v, vs, fun _ => False, S1, rfl, r, rl, fun _ z => z.elim, fun b hb => hb⟩, q⟩
end

section
variable {P : Program} {w : World} {K : PySem.W.Frag} {mg : Str → Option Value} {base : Heap} {A : Gm}
/-- the frozen parameters still stand -/
theorem fn_end {pr : List Nat} {F S F1 S1 : FP} {H H' : Hp} {ds : List D} {vs : List V} {ρ' : Env} {σ' : St} {d : D} {v : V} {np : Nat} {ar : Nat → V} (hnp : vs.length = np) (hl : ds.length = np) (hpr : ∀ k ∈ pr, k < np)
    (har : ∀ k x, vs[k]? = some x → ar k = x) (w1 : Wd F1 S1 H) (rl1 : RL A F1 H (msk pr 0 ds) vs S1) (x1 : Ext F S H F1 S1 H) (s : ST A pr ⟨F1, S1, H, ar⟩ ρ' σ' [some d] [some v] H') {ds' : List D} (hb : bck pr ρ' 0 (msk pr 0 ds) = some ds') :
    ∃ F' S', Ext F S H F' S' H' ∧ Wd F' S' H' ∧ RL A F' H' (d :: ds') (v :: vs) S' := by
  obtain ⟨F', S', ro, l, w', xt, p⟩ := s
  obtain ⟨T1, T2, r, back, q1, q2⟩ := ro.takeMid (Y := []) (VY := []) l
  rw [List.append_nil, List.append_nil] at back
  obtain ⟨U1, rl, q⟩ := bck_ok (pr := pr) (vs := vs) (ρ0 := ρ') back (fun _ _ => rfl) (by rw [msk_len]; omega) (fun j x hj hx => by
    rw [Nat.zero_add]
    have hk : j ∈ pr := by simpa using hj
    have := p j hk
    rw [this]
    show some (some (ar j)) = _
    rw [har j x hx]) (fun j dd x hj hd hx => by
    obtain ⟨x', hx', rr⟩ := rl1.get hd
    rw [hx] at hx'
    cases hx'
    have n := msk_get hd (by simpa using hj)
    exact (R.none n rr).frame xt.ff (fun b hb => hb.elim (fun z => xt.fr b (w1.lv b (.inl z)) (w1.fs b z)) fun z => z.elim)) hb
  exact ⟨F', S', x1.trans xt, w', v, vs, T1, U1, rfl, r, rl, fun b hb => ⟨(q1 b hb).1, fun z => (q1 b hb).2 (q b z)⟩, fun b hb => q2 b (q b hb)⟩
theorem fn_ok {x qual : Str} {st : Stmt} {f : Addr} {fd : FuncData} {N ps : List Str} {k n np : Nat} {pr : List Nat} {s : SM} (Fd : Fun K x qual st f fd) (Sc : FnScope N ps (defScope st)) (hN : N.length = n) (hp : ps.length = np) (hpr : ∀ k ∈ pr, k < np)
    (hb : ∀ (cdv : Value) (A' : Around) (outer : List PySem.Env) (sh : Shared) (H : Hp) (E : XK), Room k (A'.deeper (PyProof.Rows.envOfC qual (defScope st) sh.heap.objs.size f cdv)) →
      GQs (cxOf (L2.CX P w) P w K mg base N qual (defScope st) f cdv A' outer sh H E) A pr (fun cls d _ H' => E cls d H') (defBody st) s) : FnOk P w K mg base (L2.CX P w) (k + 1) f fd ps (spF A np (mkFn n np pr s)) := by
  refine Fd.okX Sc (fun vs H Q E h => ?_) (fun cdv A' outer sh H vs Q E hr h => ⟨_, hb cdv A' outer sh H E hr, ?_⟩)
  · rw [hp]; exact h.1
  · obtain ⟨hnp, F, S, ds, wd, rl, sat⟩ := h
    have hl : ds.length = np := by rw [← hnp, rl.length]
    obtain ⟨F1, S1, rl1, a1, a2, a3, a4⟩ := msk_ok (pr := pr) (k := 0) rl wd.fs
    have w1 : Wd F1 S1 H := ⟨a4, fun b z => wd.lv b (z.elim (a2 b) (fun z => .inr (a3 b z)))⟩
    have x1 : Ext F S H F1 S1 H := ⟨fun _ _ _ => rfl, a1, fun b z => (a2 b z).imp id .inl, fun b z => .inl (a3 b z), fun _ z => z⟩
    have har : ∀ k x, vs[k]? = some x → (fun k => vs.getD k .non) k = x := fun k x hx => by simp [hx]
    have ro : RO A F1 H ((msk pr 0 ds).map some ++ List.replicate (n - np) none) (L2.start N vs) S1 := by
      unfold L2.start
      rw [hN, hnp]
      exact RO.append (RO.ofL rl1) (RO.nones (n - np) _ (fun _ => False) (by simp)) (fun b hb => ⟨hb, id⟩) (fun _ z => z.elim)
    refine ⟨⟨F1, S1, H, fun k => vs.getD k .non⟩, (msk pr 0 ds).map some ++ List.replicate (n - np) none, ⟨F1, S1, by rw [List.append_nil, List.append_nil]; exact ro, ro.length.symm, w1, Ext.refl, fun k hk => ?_⟩, ?_⟩
    · have hk' : k < vs.length := by rw [hnp]; exact hpr k hk
      unfold L2.start
      rw [List.getElem?_append_left (by simpa using hk')]
      simp [hk']
    · unfold mkFn at sat
      cases hbo : s ((msk pr 0 ds).map some ++ List.replicate (n - np) none) with
      | ok ρ fl =>
        rw [hbo] at sat
        cases fl with
        | nx =>
          intro σ' H' s1
          dsimp only at sat
          cases hbk : bck pr ρ 0 (msk pr 0 ds) with
          | none => rw [hbk] at sat; exact sat.elim
          | some ds' =>
            rw [hbk] at sat
            obtain ⟨F', S', x2, w2, r2⟩ := fn_end hnp hl hpr har w1 rl1 x1 (d := .non) (v := .non) (by simpa using s1.push (d := .non) (v := .non) fun F => rfl) hbk
            exact sat .non F' S' H' x2 w2 r2
        | ct => exact sat.elim
        | rt d =>
          intro v σ' H' s1
          dsimp only at sat
          cases hbk : bck pr ρ 0 (msk pr 0 ds) with
          | none => rw [hbk] at sat; exact sat.elim
          | some ds' =>
            rw [hbk] at sat
            obtain ⟨F', S', x2, w2, r2⟩ := fn_end hnp hl hpr har w1 rl1 x1 s1 hbk
            exact sat v F' S' H' x2 w2 r2
      | ex ρ c x =>
        rw [hbo] at sat
        intro dd σ' H' s1
        obtain ⟨F', S', ro', l', w', x', p'⟩ := s1
        obtain ⟨T1, T2, r, back, q1, q2⟩ := ro'.takeMid (Y := []) (VY := []) l'
        refine sat dd F' H' ((x1.trans x').less fun _ z => z.elim) (w'.less fun _ z => z.elim) ?_
        exact r
      | bad =>
        rw [hbo] at sat
        exact sat.elim
end

/-! ### calls -/
section
variable {A : Gm} {pr : List Nat} {W : WX} {σ : St} {H : Hp} {Q : VK}
theorem g_argsL {ops : List Op} {p : Prim} (h : G A pr W (evN ops p) σ H Q) : GA A pr W ops σ H fun vs H1 => spF A ops.length p vs H1 Q (fun cls d H' => W cls d σ H') := by
  obtain ⟨e, ρ, τ, ts, st, h⟩ := h
  have lt := st.lenT
  refine ⟨e, ρ, τ, ts, st, ?_⟩
  unfold evN at h
  cases hr : evOps ops ρ with
  | ok ρ1 tds =>
    rw [hr] at h
    intro vs H' s1 nk
    exact ⟨nmOk.length nk, done_pre s1 lt nk h⟩
  | ex ρ1 c x =>
    rw [hr] at h
    exact h
  | bad =>
    rw [hr] at h
    exact h
end
end Fz

namespace Fz
open PySem L2

section
variable {A : Gm} {F S T U : FP} {H : Hp} {Q : VK} {E : XK} {p : Prim} {x y z : V} {vs : List V} {ds : List D} {d : D} {v : V}
theorem Pre.un (h : Pre A p [x] H Q E) : ∃ F S d, Wd F S H ∧ R A F H d x S ∧ SatP A F S H [x] (p [d]) Q E := by
  obtain ⟨F, S, ds, w, rl, q⟩ := h
  have l := rl.length
  match ds, l with
  | [d], _ =>
    obtain ⟨v, e, r⟩ := rl.un
    cases e
    exact ⟨F, S, d, w, r, q⟩
theorem Pre.bi (h : Pre A p [x, y] H Q E) : ∃ (F S : FP) (d e : D) (S1 S2 : FP), Wd F S H ∧ R A F H d x S1 ∧ R A F H e y S2 ∧ (∀ b, S1 b → S b ∧ ¬ S2 b) ∧ (∀ b, S2 b → S b) ∧ SatP A F S H [x, y] (p [d, e]) Q E := by
  obtain ⟨F, S, ds, w, rl, q⟩ := h
  have l := rl.length
  match ds, l with
  | [d, e], _ =>
    obtain ⟨v, w', S1, S2, e', r1, r2, q1, q2⟩ := rl.un2
    cases e'
    exact ⟨F, S, d, e, S1, S2, w, r1, r2, q1, q2, q⟩
theorem Pre.tri (h : Pre A p [x, y, z] H Q E) : ∃ (F S : FP) (d e f : D) (S1 S2 S3 : FP), Wd F S H ∧ R A F H d x S1 ∧ R A F H e y S2 ∧ R A F H f z S3 ∧ (∀ b, S1 b → S b ∧ ¬ S2 b ∧ ¬ S3 b) ∧ (∀ b, S2 b → S b ∧ ¬ S3 b) ∧ (∀ b, S3 b → S b) ∧ SatP A F S H [x, y, z] (p [d, e, f]) Q E := by
  obtain ⟨F, S, ds, w, rl, q⟩ := h
  have l := rl.length
  match ds, l with
  | [d, e, f], _ =>
    obtain ⟨v, vs', S1, T, e', r1, rl2, q1, q2⟩ := rl
    cases e'
    obtain ⟨v2, w', S2, S3, e', r2, r3, q3, q4⟩ := rl2.un2
    cases e'
    exact ⟨F, S, d, e, f, S1, S2, S3, w, r1, r2, r3, fun b hb => ⟨(q1 b hb).1, fun z => (q1 b hb).2 (q3 b z).1, fun z => (q1 b hb).2 (q4 b z)⟩, fun b hb => ⟨q2 b (q3 b hb).1, (q3 b hb).2⟩, fun b hb => q2 b (q4 b hb), q⟩
/-- the value is made of nothing new, the operands stay -/
theorem SatP.same (w : Wd F S H) (rl : RL A F H ds vs S) (h : SatP A F S H vs (.ok d ds) Q E) (r : R A F H d v (fun _ => False)) : Q v H :=
  h v F S H Ext.refl w ⟨v, vs, fun _ => False, S, rfl, r, rl, fun _ z => z.elim, fun b z => z⟩
theorem RL.one' (r : R A F H d x S) : RL A F H [d] [x] S := RL.one r
/-- a new list of what is frozen -/
theorem SatP.newL {es : List D} {us : List V} (w : Wd F S H) (rl : RL A F H ds vs S) (h : SatP A F S H vs (.ok (.lst true es) ds) Q E) (r : RL A F H es us (fun _ => False)) {p : Addr} (hp : H p = none) : Q (.ref p) (upd H p (.lst us)) := by
  have ch : ∀ b, F b ∨ S b → upd H p (.lst us) b = H b := fun b z => upd_ne (fun e => w.lv b z (by rw [e]; exact hp))
  exact h (.ref p) F (fun b => S b ∨ b = p) _ (Ext.new hp) (w.new hp) ⟨.ref p, vs, fun b => b = p, S, rfl, ⟨p, us, fun _ => False, rfl, rfl, upd_same, r.frame (fun _ z => z) (fun b z => z.elim (fun z => ch b (.inl z)) fun z => z.elim), fun _ z => z.elim⟩, rl.frame (fun _ z => z) ch, fun b hb => ⟨.inr hb, fun z => w.lv b (.inr z) (by rw [hb]; exact hp)⟩, fun b z => .inl z⟩
theorem SatP.newT {es : List D} {us : List V} (w : Wd F S H) (rl : RL A F H ds vs S) (h : SatP A F S H vs (.ok (.tup es) ds) Q E) (r : RL A F H es us (fun _ => False)) {p : Addr} (hp : H p = none) : Q (.ref p) (upd H p (.tup us)) := by
  have ch : ∀ b, F b ∨ S b → upd H p (.tup us) b = H b := fun b z => upd_ne (fun e => w.lv b z (by rw [e]; exact hp))
  exact h (.ref p) (fun b => F b ∨ b = p) S _ (Ext.newF hp) (w.newF hp) ⟨.ref p, vs, fun _ => False, S, rfl, ⟨p, us, rfl, .inr rfl, upd_same, r.frame (fun _ z => .inl z) (fun b z => z.elim (fun z => ch b (.inl z)) fun z => z.elim)⟩, rl.frame (fun _ z => .inl z) ch, fun b hb => hb.elim, fun b z => z⟩
theorem RL.anys : ∀ {vs : List V} {ds : List D}, vs.length = ds.length → RL A F H (ds.map fun _ => D.any) vs (fun _ => False)
  | [], [], _ => rfl
  | v :: vs, d :: ds, h => ⟨v, vs, fun _ => False, fun _ => False, rfl, trivial, RL.anys (by simpa using h), fun _ z => z.elim, fun _ z => z.elim⟩
/-- a new list, a new tuple that takes the operands over -/
theorem SatP.takeL (w : Wd F S H) (rl : RL A F H ds vs S) (h : SatP A F S H vs (.ok (.lst true ds) (ds.map fun _ => D.any)) Q E) {p : Addr} (hp : H p = none) : Q (.ref p) (upd H p (.lst vs)) := by
  have ch : ∀ b, F b ∨ S b → upd H p (.lst vs) b = H b := fun b z => upd_ne (fun e => w.lv b z (by rw [e]; exact hp))
  exact h (.ref p) F (fun b => S b ∨ b = p) _ (Ext.new hp) (w.new hp) ⟨.ref p, vs, fun b => S b ∨ b = p, fun _ => False, rfl, ⟨p, vs, S, rfl, .inr rfl, upd_same, rl.frame (fun _ z => z) ch, fun b z => ⟨.inl z, fun e => w.lv b (.inr z) (by rw [e]; exact hp)⟩⟩, RL.anys rl.length, fun b hb => ⟨hb, fun z => z⟩, fun b z => z.elim⟩
theorem SatP.takeT (w : Wd F S H) (rl : RL A F H ds vs S) (h : SatP A F S H vs (.ok (.tup ds) (ds.map fun _ => D.any)) Q E) {p : Addr} (hp : H p = none) : Q (.ref p) (upd H p (.tup vs)) := by
  have ch : ∀ b, F b ∨ S b → upd H p (.tup vs) b = H b := fun b z => upd_ne (fun e => w.lv b z (by rw [e]; exact hp))
  exact h (.ref p) (fun b => F b ∨ b = p) S _ (Ext.newF hp) (w.newF hp) ⟨.ref p, vs, S, fun _ => False, rfl, ⟨p, vs, rfl, .inr rfl, upd_same, rl.frame (fun _ z => .inl z) ch⟩, RL.anys rl.length, fun b hb => ⟨hb, fun z => z⟩, fun b z => z.elim⟩
/-- what a list, a tuple is -/
theorem R.lst_sq {K : PySem.W.Frag} {o : Bool} (r : R A F H (.lst o ds) x S) : ∃ a vs, x = .ref a ∧ SqL K H a vs ∧ RL A F H ds vs S := by
  cases o with
  | true =>
    obtain ⟨a, vs, S', e, f, g, rl, q⟩ := r
    exact ⟨a, vs, e, .of g, rl.mono fun b hb => (q b hb).1⟩
  | false =>
    obtain ⟨a, vs, e, f, g, rl⟩ := r
    exact ⟨a, vs, e, .of g, rl.mono fun b hb => hb.elim⟩
theorem R.lst_at {o : Bool} (r : R A F H (.lst o ds) x S) : ∃ a vs, x = .ref a ∧ H a = some (.lst vs) ∧ RL A F H ds vs S := by
  cases o with
  | true =>
    obtain ⟨a, vs, S', e, f, g, rl, q⟩ := r
    exact ⟨a, vs, e, g, rl.mono fun b hb => (q b hb).1⟩
  | false =>
    obtain ⟨a, vs, e, f, g, rl⟩ := r
    exact ⟨a, vs, e, g, rl.mono fun b hb => hb.elim⟩
theorem R.scr_sq {ns : List Int} (r : R A F H (.scr ns) x S) : ∃ a, x = .ref a ∧ SqL A.K H a (ns.map V.int) := by
  obtain ⟨a, e, h⟩ := r
  exact ⟨a, e, h.imp And.right id⟩
theorem R.tup_sq {K : PySem.W.Frag} (r : R A F H (.tup ds) x S) : ∃ a vs, x = .ref a ∧ SqT K H a vs ∧ RL A F H ds vs S := by
  obtain ⟨a, vs, e, f, g, rl⟩ := r
  exact ⟨a, vs, e, .of g, rl⟩
theorem RL.ints : ∀ {ns : List Int} {vs : List V} {S : FP}, RL A F H (ns.map D.int) vs S → vs = ns.map V.int
  | [], _, _, h => h
  | n :: ns, vs, S, h => by
    obtain ⟨v, vs', S1, S2, rfl, r, rl, _⟩ := h
    rw [show v = .int n from r, RL.ints rl]
    rfl
theorem RL.ofInts : ∀ {ns : List Int} {S : FP}, RL A F H (ns.map D.int) (ns.map V.int) S
  | [], S => rfl
  | n :: ns, S => ⟨.int n, ns.map V.int, fun _ => False, fun _ => False, rfl, rfl, RL.ofInts, fun _ z => z.elim, fun _ z => z.elim⟩
theorem RL.bls : ∀ {ns : List Bool} {vs : List V} {S : FP}, RL A F H (ns.map D.bl) vs S → vs = ns.map V.bl
  | [], _, _, h => h
  | n :: ns, vs, S, h => by
    obtain ⟨v, vs', S1, S2, rfl, r, rl, _⟩ := h
    rw [show v = .bl n from r, RL.bls rl]
    rfl
end

/-! ### ints -/
/-- not too great -/
def BIG : Nat := 2 ^ 200000
def Sm (i : Int) : Prop := i.natAbs < BIG
def BIGD : Nat := 2 ^ 8000
def SmD (i : Int) : Prop := i.natAbs < BIGD
noncomputable instance : DecidablePred Sm := fun i => Classical.propDecidable _
noncomputable instance : DecidablePred SmD := fun i => Classical.propDecidable _
/-- two ints in, a value out -/
def pI2 (C : Int → Int → Prop) [∀ i j, Decidable (C i j)] (g : Int → Int → D) : Prim := fun ds => match ds with
  | [.int i, .int j] => if C i j then .ok (g i j) [.int i, .int j] else .bad
  | _ => .bad
theorem SatP.nobad {A : Gm} {F S : FP} {H : Hp} {vs : List V} {Q : VK} {E : XK} (h : SatP A F S H vs .bad Q E) : False := h
theorem pI2_ok {A : Gm} {C : Int → Int → Prop} [∀ i j, Decidable (C i j)] {g : Int → Int → D} {gv : Int → Int → V} {x y : V} {H : Hp} {Q : VK} {E : XK} (h : Pre A (pI2 C g) [x, y] H Q E) (hg : ∀ F H i j, R A F H (g i j) (gv i j) (fun _ => False)) :
    ∃ i j, x = .int i ∧ y = .int j ∧ C i j ∧ Q (gv i j) H := by
  obtain ⟨F, S, d, e, S1, S2, w, r1, r2, q1, q2, q⟩ := h.bi
  unfold pI2 at q
  split at q
  · rename_i i j he
    injection he with e1 e2
    injection e2 with e2 e3
    subst e1 e2
    split at q
    · rename_i hc
      exact ⟨i, j, r1, r2, hc, SatP.same w (RL.two r1 r2 q1 q2) q (hg F H i j)⟩
    · exact q.elim
  · exact q.elim
noncomputable def pAdd : Prim := pI2 (fun _ _ => True) fun i j => .int (i + j)
noncomputable def pSub : Prim := pI2 (fun _ _ => True) fun i j => .int (i - j)
noncomputable def pMul : Prim := pI2 (fun i j => Sm i ∧ Sm j) fun i j => .int (i * j)
noncomputable def pDiv : Prim := pI2 (fun _ j => 0 < j ∧ SmD j) fun i j => .int (i / j)
noncomputable def pMod : Prim := pI2 (fun _ j => 0 < j) fun i j => .int (i % j)
noncomputable def pPow : Prim := pI2 (fun i j => (0 ≤ j ∧ j ≤ 1000) ∧ SmD i) fun i j => .int (i ^ j.toNat)
noncomputable def pLt : Prim := pI2 (fun _ _ => True) fun i j => .bl (decide (i < j))
noncomputable def pLe : Prim := pI2 (fun _ _ => True) fun i j => .bl (decide (i ≤ j))
noncomputable def pGt : Prim := pI2 (fun _ _ => True) fun i j => .bl (decide (j < i))
noncomputable def pGe : Prim := pI2 (fun _ _ => True) fun i j => .bl (decide (j ≤ i))
section
variable {A : Gm} {x y : V} {H : Hp} {Q : VK} {E : XK} {X : Cx}
theorem log2_of {i : Nat} {n : Nat} (hn : 0 < n) (h : i < 2 ^ n) : i.log2 < n := by
  by_cases h0 : i = 0
  · subst h0; simpa using hn
  · exact (Nat.log2_lt h0).mpr h
theorem CMulW_of {i j : Int} (h : Sm i ∧ Sm j) : CMulW i j := by
  have h1 : i.natAbs.log2 < 200000 := log2_of (by decide) h.1
  have h2 : j.natAbs.log2 < 200000 := log2_of (by decide) h.2
  unfold CMulW
  omega
theorem CDivW_of {i j : Int} (h : 0 < j ∧ SmD j) : CDivW i j := ⟨h.1, Nat.lt_trans (log2_of (by decide) (show j.natAbs < 2 ^ 8000 from h.2)) (by decide)⟩
theorem ok_add : Pre A pAdd [x, y] H Q E → rI0 (fun i j => .int (i + j)) x y H Q := fun h => by
  obtain ⟨i, j, e1, e2, _, q⟩ := pI2_ok (gv := fun i j => .int (i + j)) h (fun _ _ _ _ => rfl)
  exact ⟨i, j, e1, e2, q⟩
theorem ok_sub : Pre A pSub [x, y] H Q E → rI0 (fun i j => .int (i - j)) x y H Q := fun h => by
  obtain ⟨i, j, e1, e2, _, q⟩ := pI2_ok (gv := fun i j => .int (i - j)) h (fun _ _ _ _ => rfl)
  exact ⟨i, j, e1, e2, q⟩
theorem ok_mul : Pre A pMul [x, y] H Q E → rI CMulW (fun i j => .int (i * j)) x y H Q := fun h => by
  obtain ⟨i, j, e1, e2, c, q⟩ := pI2_ok (gv := fun i j => .int (i * j)) h (fun _ _ _ _ => rfl)
  exact ⟨i, j, e1, e2, CMulW_of c, q⟩
theorem ok_div : Pre A pDiv [x, y] H Q E → rI CDivW (fun i j => .int (i / j)) x y H Q := fun h => by
  obtain ⟨i, j, e1, e2, c, q⟩ := pI2_ok (gv := fun i j => .int (i / j)) h (fun _ _ _ _ => rfl)
  exact ⟨i, j, e1, e2, CDivW_of c, q⟩
theorem ok_mod : Pre A pMod [x, y] H Q E → rI (fun _ j => 0 < j) (fun i j => .int (i % j)) x y H Q := fun h => by
  obtain ⟨i, j, e1, e2, c, q⟩ := pI2_ok (gv := fun i j => .int (i % j)) h (fun _ _ _ _ => rfl)
  exact ⟨i, j, e1, e2, c, q⟩
def CPowW (i j : Int) : Prop := 0 ≤ j ∧ (Builtin.Int.intBits i : Int) * j ≤ 2 ^ 27
theorem op_powW : OpR X (binaryOp .Pow) (rI CPowW fun i j => .int (i ^ j.toNat)) := opI fun i j _ _ _ _ _ hc q => PyProof.Rows.pow_int hc.1 hc.2 q
theorem ok_pow : Pre A pPow [x, y] H Q E → rI CPowW (fun i j => .int (i ^ j.toNat)) x y H Q := fun h => by
  obtain ⟨i, j, e1, e2, c, q⟩ := pI2_ok (gv := fun i j => .int (i ^ j.toNat)) h (fun _ _ _ _ => rfl)
  refine ⟨i, j, e1, e2, ⟨c.1.1, ?_⟩, q⟩
  have h1 : i.natAbs.log2 < 8000 := log2_of (by decide) (show i.natAbs < 2 ^ 8000 from c.2)
  have b : Builtin.Int.intBits i ≤ 8000 := by
    unfold Builtin.Int.intBits
    split <;> omega
  have b2 : (Builtin.Int.intBits i : Int) * j ≤ 8000 * 1000 := Int.mul_le_mul (by omega) c.1.2 c.1.1 (by decide)
  exact Int.le_trans b2 (by decide)
theorem ok_lt : Pre A pLt [x, y] H Q E → rI0 (fun i j => .bl (decide (i < j))) x y H Q := fun h => by
  obtain ⟨i, j, e1, e2, _, q⟩ := pI2_ok (gv := fun i j => .bl (decide (i < j))) h (fun _ _ _ _ => rfl)
  exact ⟨i, j, e1, e2, q⟩
theorem ok_le : Pre A pLe [x, y] H Q E → rI0 (fun i j => .bl (decide (i ≤ j))) x y H Q := fun h => by
  obtain ⟨i, j, e1, e2, _, q⟩ := pI2_ok (gv := fun i j => .bl (decide (i ≤ j))) h (fun _ _ _ _ => rfl)
  exact ⟨i, j, e1, e2, q⟩
theorem ok_gt : Pre A pGt [x, y] H Q E → rI0 (fun i j => .bl (decide (j < i))) x y H Q := fun h => by
  obtain ⟨i, j, e1, e2, _, q⟩ := pI2_ok (gv := fun i j => .bl (decide (j < i))) h (fun _ _ _ _ => rfl)
  exact ⟨i, j, e1, e2, q⟩
theorem ok_ge : Pre A pGe [x, y] H Q E → rI0 (fun i j => .bl (decide (j ≤ i))) x y H Q := fun h => by
  obtain ⟨i, j, e1, e2, _, q⟩ := pI2_ok (gv := fun i j => .bl (decide (j ≤ i))) h (fun _ _ _ _ => rfl)
  exact ⟨i, j, e1, e2, q⟩
end
/-- - i -/
def pNeg : Prim := fun ds => match ds with
  | [.int i] => .ok (.int (-i)) [.int i]
  | _ => .bad
section
variable {A : Gm} {x y : V} {H : Hp} {Q : VK} {E : XK} {X : Cx}
theorem ok_neg : Pre A pNeg [x] H Q E → rU (fun i => .int (-i)) x H Q := fun h => by
  obtain ⟨F, S, d, w, r, q⟩ := h.un
  unfold pNeg at q
  split at q
  · rename_i i he
    injection he with e1 e2
    subst e1
    exact ⟨i, r, SatP.same w (RL.one r) q rfl⟩
  · exact q.elim
end

/-! ### + of texts, of lists, of tuples -/
def pAddS : Prim := fun ds => match ds with
  | [.str a, .str b] => if a.length + b.length ≤ 1000000 then .ok (.str (a ++ b)) [.str a, .str b] else .bad
  | _ => .bad
def pCat : Prim := fun ds => match ds with
  | [.lst o xs, .lst o' ys] => if nwL xs && nwL ys && decide (xs.length + ys.length ≤ 1000000) then .ok (.lst true (xs ++ ys)) [.lst o xs, .lst o' ys] else .bad
  | _ => .bad
def pCatT : Prim := fun ds => match ds with
  | [.tup xs, .tup ys] => if nwL xs && nwL ys && decide (xs.length + ys.length ≤ 1000000) then .ok (.tup (xs ++ ys)) [.tup xs, .tup ys] else .bad
  | _ => .bad
theorem line6 : (1000000 : Nat) ≤ sizeLine := by decide
section
variable {A : Gm} {x y : V} {H : Hp} {Q : VK} {E : XK} {X : Cx}
theorem ok_addS : Pre A pAddS [x, y] H Q E → (∃ i j, x = .str i ∧ y = .str j ∧ i.length + j.length ≤ sizeLine ∧ Q (.str (i ++ j)) H) := fun h => by
  obtain ⟨F, S, d, e, S1, S2, w, r1, r2, q1, q2, q⟩ := h.bi
  unfold pAddS at q
  split at q
  · rename_i a b he
    injection he with e1 e2
    injection e2 with e2 e3
    subst e1 e2
    split at q
    · rename_i hl
      exact ⟨a, b, r1, r2, Nat.le_trans hl line6, SatP.same w (RL.two r1 r2 q1 q2) q rfl⟩
    · exact q.elim
  · exact q.elim
theorem ok_cat : Pre A pCat [x, y] H Q E → rCat x y H Q := fun h => by
  obtain ⟨F, S, d, e, S1, S2, w, r1, r2, q1, q2, q⟩ := h.bi
  unfold pCat at q
  split at q
  · rename_i o xs o' ys he
    injection he with e1 e2
    injection e2 with e2 e3
    subst e1 e2
    split at q
    · rename_i hc
      simp only [Bool.and_eq_true, decide_eq_true_eq] at hc
      obtain ⟨a, vs, e1, sq1, rl1⟩ := r1.lst_at
      obtain ⟨b, ws, e2, sq2, rl2⟩ := r2.lst_at
      refine ⟨a, b, vs, ws, e1, e2, sq1, sq2, by rw [rl1.length, rl2.length]; exact Nat.le_trans hc.2 line6, fun p hp => ?_⟩
      exact SatP.newL w (RL.two r1 r2 q1 q2) q (RL.append (S := fun _ => False) (T := fun _ => False) (RL.none hc.1.1 rl1) (RL.none hc.1.2 rl2) (fun _ z => z.elim) (fun _ z => z.elim)) hp
    · exact q.elim
  · exact q.elim
theorem RL.nil_of {A : Gm} {F S : FP} {ds : List D} {vs : List V} (rl : RL A F H ds vs S) (h : vs = []) : ds = [] := by
  have := rl.length
  rw [h] at this
  exact List.eq_nil_of_length_eq_zero this.symm
theorem ok_catT {K : PySem.W.Frag} : Pre A pCatT [x, y] H Q E → rCatA K x y H Q := fun h => by
  obtain ⟨F, S, d, e, S1, S2, w, r1, r2, q1, q2, q⟩ := h.bi
  unfold pCatT at q
  split at q
  · rename_i xs ys he
    injection he with e1 e2
    injection e2 with e2 e3
    subst e1 e2
    split at q
    · rename_i hc
      simp only [Bool.and_eq_true, decide_eq_true_eq] at hc
      obtain ⟨a, vs, e1, sq1, rl1⟩ := r1.tup_sq (K := K)
      obtain ⟨b, ws, e2, sq2, rl2⟩ := r2.tup_sq (K := K)
      have n1 : nw (.tup xs) = true := hc.1.1
      have n2 : nw (.tup ys) = true := hc.1.2
      refine ⟨a, b, vs, ws, e1, e2, sq1, sq2, by rw [rl1.length, rl2.length]; exact Nat.le_trans hc.2 line6, fun z => ?_, fun z z2 => ?_, fun z z2 p hp => ?_⟩
      · have := rl1.nil_of z
        subst this
        rw [← e2]
        exact SatP.same w (RL.two r1 r2 q1 q2) q (by rw [List.nil_append]; exact R.none n2 r2)
      · have := rl2.nil_of z2
        subst this
        rw [← e1]
        exact SatP.same w (RL.two r1 r2 q1 q2) q (by rw [List.append_nil]; exact R.none n1 r1)
      · exact SatP.newT w (RL.two r1 r2 q1 q2) q (RL.append (S := fun _ => False) (T := fun _ => False) (RL.none hc.1.1 rl1) (RL.none hc.1.2 rl2) (fun _ z => z.elim) (fun _ z => z.elim)) hp
    · exact q.elim
  · exact q.elim
end
end Fz

namespace Fz
open PySem L2

/-! ### data as data -/
mutual
def py : D → PyData
  | .bl b => .bool b
  | .int i => .int i
  | .str x => .str x
  | .tup xs => .tuple (pyL xs)
  | .lst _ xs => .list (pyL xs)
  | _ => .none
def pyL : List D → List PyData
  | [] => []
  | d :: ds => py d :: pyL ds
end
mutual
def pyOk : D → Bool
  | .non => true
  | .bl _ => true
  | .int _ => true
  | .str x => PyData.strOk x
  | .tup xs => pyOkL xs
  | .lst _ xs => pyOkL xs
  | _ => false
def pyOkL : List D → Bool
  | [] => true
  | d :: ds => pyOk d && pyOkL ds
end
mutual
def dep : D → Nat
  | .tup xs => depL xs + 1
  | .lst _ xs => depL xs + 1
  | _ => 0
def depL : List D → Nat
  | [] => 0
  | d :: ds => max (dep d) (depL ds)
end
mutual
/-- == of data -/
def eqD : D → D → Bool
  | .non, .non => true
  | .bl a, .bl b => a == b
  | .bl a, .int j => (if a then 1 else 0) == j
  | .int i, .bl b => i == (if b then 1 else 0)
  | .int i, .int j => i == j
  | .str x, .str y => x == y
  | .tup xs, .tup ys => eqDL xs ys
  | .lst _ xs, .lst _ ys => eqDL xs ys
  | _, _ => false
def eqDL : List D → List D → Bool
  | [], [] => true
  | x :: xs, y :: ys => eqD x y && eqDL xs ys
  | _, _ => false
end
section
variable {A : Gm} {F S : FP} {H : Hp} {K : PySem.W.Frag}
mutual
theorem eqv_py : ∀ {a b : D}, pyOk a = true → pyOk b = true → PyData.eqv (py a) (py b) = eqD a b
  | a, b, ha, hb => by
    cases a <;> cases b <;> first
      | rfl
      | (exfalso; exact Bool.false_ne_true ha)
      | (exfalso; exact Bool.false_ne_true hb)
      | exact eqv_pyL ha hb
      | skip
theorem eqv_pyL : ∀ {a b : List D}, pyOkL a = true → pyOkL b = true → PyData.eqvAll (pyL a) (pyL b) = eqDL a b
  | [], [], _, _ => rfl
  | [], _ :: _, _, _ => rfl
  | _ :: _, [], _, _ => rfl
  | x :: xs, y :: ys, ha, hb => by
    have ha' : (pyOk x && pyOkL xs) = true := ha
    have hb' : (pyOk y && pyOkL ys) = true := hb
    simp only [Bool.and_eq_true] at ha' hb'
    show (PyData.eqv (py x) (py y) && PyData.eqvAll (pyL xs) (pyL ys)) = (eqD x y && eqDL xs ys)
    rw [eqv_py ha'.1 hb'.1, eqv_pyL ha'.2 hb'.2]
end
mutual
theorem canLay_py : ∀ {a : D}, pyOk a = true → PyData.canLay0 (py a) = true
  | .non, _ => rfl
  | .bl _, _ => rfl
  | .int _, _ => rfl
  | .str x, h => by
    show PyData.canLay0 (.str x) = true
    simp only [PyData.canLay0]
    exact h
  | .tup xs, h => by
    show PyData.canLay0 (.tuple (pyL xs)) = true
    simpa [PyData.canLay0] using canLay_pyL h
  | .lst _ xs, h => by
    show PyData.canLay0 (.list (pyL xs)) = true
    simpa [PyData.canLay0] using canLay_pyL h
  | .dct _ _ _, h => (Bool.false_ne_true h).elim
  | .ins _ _ _ _, h => (Bool.false_ne_true h).elim
  | .exd _, h => (Bool.false_ne_true h).elim
  | .err _ _, h => (Bool.false_ne_true h).elim
  | .any, h => (Bool.false_ne_true h).elim
  | .scr _, h => (Bool.false_ne_true h).elim
theorem canLay_pyL : ∀ {a : List D}, pyOkL a = true → PyData.canLayAll0 (pyL a) = true
  | [], _ => rfl
  | x :: xs, h => by
    have h' : (pyOk x && pyOkL xs) = true := h
    simp only [Bool.and_eq_true] at h'
    show PyData.canLayAll0 (py x :: pyL xs) = true
    simp only [PyData.canLayAll0, Bool.and_eq_true]
    exact ⟨canLay_py h'.1, canLay_pyL h'.2⟩
end
mutual
theorem dep_py : ∀ (a : D), PyData.depth (py a) ≤ dep a + 1
  | .tup xs => by
    show PyData.depth (.tuple (pyL xs)) ≤ depL xs + 1 + 1
    have := dep_pyL xs
    simp only [PyData.depth]
    omega
  | .lst _ xs => by
    show PyData.depth (.list (pyL xs)) ≤ depL xs + 1 + 1
    have := dep_pyL xs
    simp only [PyData.depth]
    omega
  | .non => by show PyData.depth .none ≤ _; simp [PyData.depth]
  | .bl b => by show PyData.depth (.bool b) ≤ _; simp [PyData.depth]
  | .int b => by show PyData.depth (.int b) ≤ _; simp [PyData.depth]
  | .str b => by show PyData.depth (.str b) ≤ _; simp [PyData.depth]
  | .dct _ _ _ => by show PyData.depth .none ≤ _; simp [PyData.depth]
  | .ins _ _ _ _ => by show PyData.depth .none ≤ _; simp [PyData.depth]
  | .exd _ => by show PyData.depth .none ≤ _; simp [PyData.depth]
  | .err _ _ => by show PyData.depth .none ≤ _; simp [PyData.depth]
  | .any => by show PyData.depth .none ≤ _; simp [PyData.depth]
  | .scr _ => by show PyData.depth .none ≤ _; simp [PyData.depth]
theorem dep_pyL : ∀ (a : List D), PyData.depthAll (pyL a) ≤ depL a + 1
  | [] => by show PyData.depthAll [] ≤ _; simp [PyData.depthAll]
  | x :: xs => by
    show PyData.depthAll (py x :: pyL xs) ≤ max (dep x) (depL xs) + 1
    have h1 := dep_py x
    have h2 := dep_pyL xs
    simp only [PyData.depthAll]
    omega
end
theorem shaped_py {a : D} (h : pyOk a = true) (hd : dep a ≤ 60) : SeqAt.shaped (py a) = true := by
  unfold SeqAt.shaped
  rw [canLay_py h, Bool.true_and]
  have := dep_py a
  exact decide_eq_true (by omega)
mutual
theorem R.dp : ∀ {a : D} {v : V} {S : FP}, pyOk a = true → R A F H a v S → Dp K H v (py a)
  | .non, _, _, _, r => by rw [show _ = V.non from r]; exact .non
  | .bl b, _, _, _, r => by rw [show _ = V.bl b from r]; exact .bl b
  | .int b, _, _, _, r => by rw [show _ = V.int b from r]; exact .int b
  | .str b, _, _, _, r => by rw [show _ = V.str b from r]; exact .str b
  | .tup xs, v, S, h, r => by
    obtain ⟨a, vs, rfl, f, g, rl⟩ := r
    exact .tup (.of g) (RL.dp h rl)
  | .lst true xs, v, S, h, r => by
    obtain ⟨a, vs, S', rfl, f, g, rl, q⟩ := r
    exact .lst (.of g) (RL.dp h rl)
  | .lst false xs, v, S, h, r => by
    obtain ⟨a, vs, rfl, f, g, rl⟩ := r
    exact .lst (.of g) (RL.dp h rl)
  | .dct _ _ _, _, _, h, _ => (Bool.false_ne_true h).elim
  | .ins _ _ _ _, _, _, h, _ => (Bool.false_ne_true h).elim
  | .exd _, _, _, h, _ => (Bool.false_ne_true h).elim
  | .any, _, _, h, _ => (Bool.false_ne_true h).elim
  | .scr _, _, _, h, _ => (Bool.false_ne_true h).elim
theorem RL.dp : ∀ {a : List D} {v : List V} {S : FP}, pyOkL a = true → RL A F H a v S → DpAll K H v (pyL a)
  | [], v, S, h, r => by rw [show v = [] from r]; exact .nil
  | x :: xs, v, S, h, r => by
    have h' : (pyOk x && pyOkL xs) = true := h
    simp only [Bool.and_eq_true] at h'
    obtain ⟨w, vs, S1, S2, rfl, r, rl, _⟩ := r
    exact .cons (R.dp h'.1 r) (RL.dp h'.2 rl)
end
end
/-- scalars -/
def scl : D → Option V
  | .non => some .non
  | .bl b => some (.bl b)
  | .int i => some (.int i)
  | .str x => some (.str x)
  | _ => none
theorem R.scl {A : Gm} {F S : FP} {H : Hp} {d : D} {v w : V} (h : scl d = some w) (r : R A F H d v S) : v = w := by
  cases d <;> simp [Fz.scl] at h <;> (subst h; exact r)
def eqA (a b : D) : Option Bool :=
  match scl a, scl b with
  | some v, some w => if scal v w then some (decide (v = w)) else none
  | _, _ => if (pyOk a && pyOk b) && (decide (dep a ≤ 60) && decide (dep b ≤ 60)) then some (eqD a b) else none
theorem eqA_cases {a b : D} {k : Bool} (h : eqA a b = some k) : (∃ v w, scl a = some v ∧ scl b = some w ∧ scal v w = true ∧ k = decide (v = w)) ∨ (pyOk a = true ∧ pyOk b = true ∧ dep a ≤ 60 ∧ dep b ≤ 60 ∧ k = eqD a b) := by
  unfold eqA at h
  split at h
  · rename_i v w h1 h2
    split at h
    · rename_i hs
      cases h
      exact .inl ⟨v, w, h1, h2, hs, rfl⟩
    · cases h
  · split at h
    · rename_i hc
      simp only [Bool.and_eq_true, decide_eq_true_eq] at hc
      cases h
      exact .inr ⟨hc.1.1, hc.1.2, hc.2.1, hc.2.2, rfl⟩
    · cases h
def pEq : Prim := fun ds => match ds with
  | [a, b] => match eqA a b with
    | some k => .ok (.bl k) [a, b]
    | none => .bad
  | _ => .bad
def pNe : Prim := fun ds => match ds with
  | [a, b] => match eqA a b with
    | some k => .ok (.bl (!k)) [a, b]
    | none => .bad
  | _ => .bad
/-- is None -/
def pIsN : Prim := fun ds => match ds with
  | [.non, .non] => .ok (.bl true) [.non, .non]
  | [.any, .non] => .bad
  | [a, .non] => .ok (.bl false) [a, .non]
  | _ => .bad
def pNotN : Prim := fun ds => match ds with
  | [.non, .non] => .ok (.bl false) [.non, .non]
  | [.any, .non] => .bad
  | [a, .non] => .ok (.bl true) [a, .non]
  | _ => .bad
section
variable {A : Gm} {x y : V} {H : Hp} {Q : VK} {E : XK} {X : Cx} {K : PySem.W.Frag}
theorem ok_eq : Pre A pEq [x, y] H Q E → (rEq x y H Q ∨ rEqD K x y H Q) := fun h => by
  obtain ⟨F, S, d, e, S1, S2, w, r1, r2, q1, q2, q⟩ := h.bi
  change SatP A F S H [x, y] (match eqA d e with | some k => .ok (.bl k) [d, e] | none => .bad) Q E at q
  have rl : RL A F H [d, e] [x, y] S := RL.two r1 r2 q1 q2
  cases hk : eqA d e with
  | none => rw [hk] at q; exact q.elim
  | some k =>
    rw [hk] at q
    dsimp only at q
    rcases eqA_cases hk with ⟨v, u, h1, h2, hs, rfl⟩ | ⟨o1, o2, d1, d2, rfl⟩
    · have e1 := R.scl h1 r1
      have e2 := R.scl h2 r2
      subst e1 e2
      exact .inl ⟨hs, SatP.same w rl q rfl⟩
    · refine .inr ⟨py d, py e, r1.dp o1, r2.dp o2, shaped_py o1 d1, shaped_py o2 d2, ?_⟩
      rw [eqv_py o1 o2]
      exact SatP.same w rl q rfl
theorem ok_ne : Pre A pNe [x, y] H Q E → (rNe x y H Q ∨ rNeD K x y H Q) := fun h => by
  obtain ⟨F, S, d, e, S1, S2, w, r1, r2, q1, q2, q⟩ := h.bi
  change SatP A F S H [x, y] (match eqA d e with | some k => .ok (.bl (!k)) [d, e] | none => .bad) Q E at q
  have rl : RL A F H [d, e] [x, y] S := RL.two r1 r2 q1 q2
  cases hk : eqA d e with
  | none => rw [hk] at q; exact q.elim
  | some k =>
    rw [hk] at q
    dsimp only at q
    rcases eqA_cases hk with ⟨v, u, h1, h2, hs, rfl⟩ | ⟨o1, o2, d1, d2, rfl⟩
    · have e1 := R.scl h1 r1
      have e2 := R.scl h2 r2
      subst e1 e2
      exact .inl ⟨hs, SatP.same w rl q rfl⟩
    · refine .inr ⟨py d, py e, r1.dp o1, r2.dp o2, shaped_py o1 d1, shaped_py o2 d2, ?_⟩
      rw [eqv_py o1 o2]
      exact SatP.same w rl q rfl
theorem op_eqX (hu : X.A.units + 64 < cLine) : OpR X (compareOp .Eq) (fun x y H Q => rEq x y H Q ∨ rEqD X.K x y H Q) := op_eq.or (op_eqD hu)
theorem op_neX (hu : X.A.units + 64 < cLine) : OpR X (compareOp .NotEq) (fun x y H Q => rNe x y H Q ∨ rNeD X.K x y H Q) := op_ne.or (op_neD hu)
theorem R.notNone {A : Gm} {F S : FP} {H : Hp} {d : D} {v : V} (r : R A F H d v S) (h1 : d ≠ .non) (h2 : d ≠ .any) : v ≠ .non := by
  cases d with
  | non => exact absurd rfl h1
  | any => exact absurd rfl h2
  | bl _ => rw [show v = _ from r]; simp
  | int _ => rw [show v = _ from r]; simp
  | str _ => rw [show v = _ from r]; simp
  | tup _ => obtain ⟨a, vs, e, _⟩ := r; rw [e]; simp
  | lst o _ =>
    cases o with
    | true => obtain ⟨a, vs, S, e, _⟩ := r; rw [e]; simp
    | false => obtain ⟨a, vs, e, _⟩ := r; rw [e]; simp
  | dct o _ _ =>
    cases o with
    | true => obtain ⟨a, vs, S, e, _⟩ := r; rw [e]; simp
    | false => obtain ⟨a, vs, e, _⟩ := r; rw [e]; simp
  | ins o _ _ _ =>
    cases o with
    | true => obtain ⟨a, dx, vs, S, e, _⟩ := r; rw [e]; simp
    | false => obtain ⟨a, dx, vs, e, _⟩ := r; rw [e]; simp
  | exd _ => obtain ⟨a, w, e, _⟩ := r; rw [e]; simp
  | err _ _ => obtain ⟨a, dd, w, e, _⟩ := r; rw [e]; simp
  | scr _ => obtain ⟨a, e, _⟩ := r; rw [e]; simp
theorem ok_isN : Pre A pIsN [x, y] H Q E → (y = .non ∧ Q (.bl (decide (x = .non))) H) := fun h => by
  obtain ⟨F, S, d, e, S1, S2, w, r1, r2, q1, q2, q⟩ := h.bi
  have rl : RL A F H [d, e] [x, y] S := RL.two r1 r2 q1 q2
  unfold pIsN at q
  split at q
  · rename_i he
    injection he with e1 e2
    injection e2 with e2 e3
    subst e1 e2
    refine ⟨r2, ?_⟩
    rw [show decide (x = .non) = true from decide_eq_true r1]
    exact SatP.same w rl q rfl
  · exact q.elim
  · rename_i a n1 n2 he
    injection he with e1 e2
    injection e2 with e2 e3
    subst e1 e2
    refine ⟨r2, ?_⟩
    rw [show decide (x = .non) = false from decide_eq_false (r1.notNone (fun z => by subst z; exact n1 rfl) (fun z => by subst z; exact n2 rfl))]
    exact SatP.same w rl q rfl
  · exact q.elim
theorem ok_notN : Pre A pNotN [x, y] H Q E → (y = .non ∧ Q (.bl (!decide (x = .non))) H) := fun h => by
  obtain ⟨F, S, d, e, S1, S2, w, r1, r2, q1, q2, q⟩ := h.bi
  have rl : RL A F H [d, e] [x, y] S := RL.two r1 r2 q1 q2
  unfold pNotN at q
  split at q
  · rename_i he
    injection he with e1 e2
    injection e2 with e2 e3
    subst e1 e2
    refine ⟨r2, ?_⟩
    rw [show decide (x = .non) = true from decide_eq_true r1]
    exact SatP.same w rl q rfl
  · exact q.elim
  · rename_i a n1 n2 he
    injection he with e1 e2
    injection e2 with e2 e3
    subst e1 e2
    refine ⟨r2, ?_⟩
    rw [show decide (x = .non) = false from decide_eq_false (r1.notNone (fun z => by subst z; exact n1 rfl) (fun z => by subst z; exact n2 rfl))]
    exact SatP.same w rl q rfl
  · exact q.elim
end

/-! ### in -/
/-- flat items -/
def sclL : List D → Option (List V)
  | [] => some []
  | d :: ds => match scl d, sclL ds with
    | some v, some vs => some (v :: vs)
    | _, _ => none
def inA (a : D) (xs : List D) : Option Bool :=
  match scl a, sclL xs with
  | some v, some vs => some (inV v vs)
  | _, _ => none
/-- a in a list, a tuple of flat items -/
def pIn (neg : Bool) : Prim := fun ds => match ds with
  | [a, .lst o xs] => match inA a xs with
    | some k => .ok (.bl (if neg then !k else k)) [a, .lst o xs]
    | none => .bad
  | [a, .tup xs] => match inA a xs with
    | some k => .ok (.bl (if neg then !k else k)) [a, .tup xs]
    | none => .bad
  | _ => .bad
section
variable {A : Gm} {x y : V} {H : Hp} {Q : VK} {E : XK} {X : Cx} {K : PySem.W.Frag}
theorem RL.sclL {A : Gm} {F : FP} : ∀ {ds : List D} {vs ws : List V} {S : FP}, sclL ds = some ws → RL A F H ds vs S → vs = ws
  | [], vs, ws, S, h, r => by
    rw [show vs = [] from r]
    simp [Fz.sclL] at h
    exact h.symm
  | d :: ds, vs, ws, S, h, r => by
    obtain ⟨v, vs', S1, S2, rfl, r, rl, _⟩ := r
    unfold Fz.sclL at h
    split at h
    · rename_i w ws' h1 h2
      cases h
      rw [R.scl h1 r, RL.sclL h2 rl]
    · cases h
theorem flat_scl {d : D} {v : V} (h : scl d = some v) : flatV v = true := by
  cases d <;> simp [scl] at h <;> (subst h; rfl)
theorem flat_sclL : ∀ {ds : List D} {vs : List V}, Fz.sclL ds = some vs → vs.all flatV = true
  | [], vs, h => by simp [Fz.sclL] at h; subst h; rfl
  | d :: ds, vs, h => by
    unfold Fz.sclL at h
    split at h
    · rename_i w ws' h1 h2
      cases h
      rw [List.all_cons, flat_scl h1, flat_sclL h2]; rfl
    · cases h
theorem ok_in {neg : Bool} : Pre A (pIn neg) [x, y] H Q E → rIn K neg x y H Q := fun h => by
  obtain ⟨F, S, d, e, S1, S2, w, r1, r2, q1, q2, q⟩ := h.bi
  have rl : RL A F H [d, e] [x, y] S := RL.two r1 r2 q1 q2
  unfold pIn at q
  split at q
  · rename_i a o xs he
    injection he with e1 e2
    injection e2 with e2 e3
    subst e1 e2
    unfold inA at q
    split at q
    · rename_i k hk
      split at hk
      · rename_i v vs h1 h2
        cases hk
        obtain ⟨p, ws, e, sq, rr⟩ := r2.lst_sq (K := K)
        have e1 := R.scl h1 r1
        have e2 := RL.sclL h2 rr
        subst e1 e2
        refine ⟨p, ws, e, .inl sq, flat_scl h1, flat_sclL h2, ?_⟩
        exact SatP.same w rl q (by cases neg <;> rfl)
      · cases hk
    · exact q.elim
  · rename_i a xs he
    injection he with e1 e2
    injection e2 with e2 e3
    subst e1 e2
    unfold inA at q
    split at q
    · rename_i k hk
      split at hk
      · rename_i v vs h1 h2
        cases hk
        obtain ⟨p, ws, e, sq, rr⟩ := r2.tup_sq (K := K)
        have e1 := R.scl h1 r1
        have e2 := RL.sclL h2 rr
        subst e1 e2
        refine ⟨p, ws, e, .inr sq, flat_scl h1, flat_sclL h2, ?_⟩
        exact SatP.same w rl q (by cases neg <;> rfl)
      · cases hk
    · exact q.elim
  · exact q.elim
end

/-! ### subscripts -/
/-- an item handed on: what it owns is frozen in its place -/
def ixD (xs : List D) (i : Int) : Option (D × List D) :=
  match ixN xs.length i with
  | some j => match xs[j]? with
    | some d => if nw d then some (d, xs) else some (fz d, xs.set j (fz d))
    | none => none
  | none => none
/-- x[i] of a list, a tuple, a text, the script -/
def pIx : Prim := fun ds => match ds with
  | [.lst o xs, .int i] => match ixN xs.length i with
    | some j => match xs[j]? with
      | some d => if nw d then .ok d [.lst o xs, .int i] else .bad
      | none => .bad
    | none => .bad
  | [.tup xs, .int i] => match ixN xs.length i with
    | some j => match xs[j]? with
      | some d => if nw d then .ok d [.tup xs, .int i] else .bad
      | none => .bad
    | none => .bad
  | [.str z, .int i] => if z.length ≤ 1000000 then (match atI z.cps.toList i with
    | some c => .ok (.str ⟨#[c]⟩) [.str z, .int i]
    | none => .bad) else .bad
  | [.scr ns, .int i] => match atI ns i with
    | some n => .ok (.int n) [.scr ns, .int i]
    | none => .bad
  | _ => .bad
section
variable {A : Gm} {x y : V} {H : Hp} {Q : VK} {E : XK} {X : Cx} {K : PySem.W.Frag}
theorem ok_ix : Pre A pIx [x, y] H Q E → rIx A.K x y H Q := fun h => by
  obtain ⟨F, S, d, e, S1, S2, w, r1, r2, q1, q2, q⟩ := h.bi
  have rl : RL A F H [d, e] [x, y] S := RL.two r1 r2 q1 q2
  unfold pIx at q
  split at q
  · rename_i o xs i he
    injection he with e1 e2
    injection e2 with e2 e3
    subst e1 e2
    split at q
    · rename_i j hj
      split at q
      · rename_i d hd
        split at q
        · rename_i hn
          obtain ⟨p, ws, e, sq, rr⟩ := r1.lst_sq (K := A.K)
          obtain ⟨v, hv, r⟩ := rr.get hd
          refine .inl ⟨p, ws, i, v, e, r2, sq, ?_, SatP.same w rl q (R.none hn r)⟩
          unfold atI
          rw [rr.length, hj]
          exact hv
        · exact q.elim
      · exact q.elim
    · exact q.elim
  · rename_i xs i he
    injection he with e1 e2
    injection e2 with e2 e3
    subst e1 e2
    split at q
    · rename_i j hj
      split at q
      · rename_i d hd
        split at q
        · rename_i hn
          obtain ⟨p, ws, e, sq, rr⟩ := r1.tup_sq (K := A.K)
          obtain ⟨v, hv, r⟩ := rr.get hd
          refine .inr (.inl ⟨p, ws, i, v, e, r2, sq, ?_, SatP.same w rl q (R.none hn r)⟩)
          unfold atI
          rw [rr.length, hj]
          exact hv
        · exact q.elim
      · exact q.elim
    · exact q.elim
  · rename_i z i he
    injection he with e1 e2
    injection e2 with e2 e3
    subst e1 e2
    split at q
    · rename_i hz
      split at q
      · rename_i c hc
        exact .inr (.inr ⟨z, i, c, r1, r2, Nat.le_trans hz line6, hc, SatP.same w rl q rfl⟩)
      · exact q.elim
    · exact q.elim
  · rename_i ns i he
    injection he with e1 e2
    injection e2 with e2 e3
    subst e1 e2
    split at q
    · rename_i n hn
      obtain ⟨a, e, sq⟩ := r1.scr_sq
      refine .inl ⟨a, ns.map V.int, i, .int n, e, r2, sq, ?_, SatP.same w rl q rfl⟩
      unfold atI at hn ⊢
      rw [List.length_map]
      cases hj : ixN ns.length i with
      | none => rw [hj] at hn; cases hn
      | some j =>
        rw [hj] at hn
        show (ns.map V.int)[j]? = some (.int n)
        rw [List.getElem?_map, show ns[j]? = some n from hn]; rfl
    · exact q.elim
  · exact q.elim
end
section
variable {X : Cx} {A : Gm} {pr : List Nat} {W : WX} {pos : Pos} {ea eb : Expr} {a b : Op}
theorem ge_ix (hK : X.K = A.K) (ha : GP X A pr W ea a) (hb : GP X A pr W eb b) (hs : PlainIx eb) : GE X A pr W (.Subscript ea eb pos) (evN [a, b] pIx) :=
  PE_imp (pe_ix ix_seq ha hb hs) fun σ H Q h => by
    rw [hK]
    exact GO.mono (g_args2 h) fun x H1 h1 => GO.mono h1 fun y H2 h2 => ok_ix h2
theorem ge_eq (hu : X.A.units + 64 < cLine) (ha : GP X A pr W ea a) (hb : GP X A pr W eb b) (hm : behindInMarks .Eq eb = false := by exact nomark _) : GE X A pr W (.Compare ea [.Eq] [eb] pos) (evN [a, b] pEq) := ge_cmp (op_eqX hu) (fun _ _ _ _ _ h => ok_eq h) ha hb hm
theorem ge_ne (hu : X.A.units + 64 < cLine) (ha : GP X A pr W ea a) (hb : GP X A pr W eb b) (hm : behindInMarks .NotEq eb = false := by exact nomark _) : GE X A pr W (.Compare ea [.NotEq] [eb] pos) (evN [a, b] pNe) := ge_cmp (op_neX hu) (fun _ _ _ _ _ h => ok_ne h) ha hb hm
theorem gb_eq (hu : X.A.units + 64 < cLine) (ha : GP X A pr W ea a) (hb : GP X A pr W eb b) (hm : behindInMarks .Eq eb = false := by exact nomark _) : GB X A pr W (.Compare ea [.Eq] [eb] pos) (tvB (evN [a, b] pEq)) := gb_cmp (op_eqX hu) (fun _ _ _ _ _ h => ok_eq h) ha hb hm
theorem gb_ne (hu : X.A.units + 64 < cLine) (ha : GP X A pr W ea a) (hb : GP X A pr W eb b) (hm : behindInMarks .NotEq eb = false := by exact nomark _) : GB X A pr W (.Compare ea [.NotEq] [eb] pos) (tvB (evN [a, b] pNe)) := gb_cmp (op_neX hu) (fun _ _ _ _ _ h => ok_ne h) ha hb hm
theorem ge_lt (ha : GP X A pr W ea a) (hb : GP X A pr W eb b) : GE X A pr W (.Compare ea [.Lt] [eb] pos) (evN [a, b] pLt) := ge_cmp op_lt (fun _ _ _ _ _ h => ok_lt h) ha hb (nomark _)
theorem ge_le (ha : GP X A pr W ea a) (hb : GP X A pr W eb b) : GE X A pr W (.Compare ea [.LtE] [eb] pos) (evN [a, b] pLe) := ge_cmp op_le (fun _ _ _ _ _ h => ok_le h) ha hb (nomark _)
theorem ge_gt (ha : GP X A pr W ea a) (hb : GP X A pr W eb b) : GE X A pr W (.Compare ea [.Gt] [eb] pos) (evN [a, b] pGt) := ge_cmp op_gt (fun _ _ _ _ _ h => ok_gt h) ha hb (nomark _)
theorem ge_ge (ha : GP X A pr W ea a) (hb : GP X A pr W eb b) : GE X A pr W (.Compare ea [.GtE] [eb] pos) (evN [a, b] pGe) := ge_cmp op_ge (fun _ _ _ _ _ h => ok_ge h) ha hb (nomark _)
theorem gb_lt (ha : GP X A pr W ea a) (hb : GP X A pr W eb b) : GB X A pr W (.Compare ea [.Lt] [eb] pos) (tvB (evN [a, b] pLt)) := gb_cmp op_lt (fun _ _ _ _ _ h => ok_lt h) ha hb (nomark _)
theorem gb_le (ha : GP X A pr W ea a) (hb : GP X A pr W eb b) : GB X A pr W (.Compare ea [.LtE] [eb] pos) (tvB (evN [a, b] pLe)) := gb_cmp op_le (fun _ _ _ _ _ h => ok_le h) ha hb (nomark _)
theorem gb_gt (ha : GP X A pr W ea a) (hb : GP X A pr W eb b) : GB X A pr W (.Compare ea [.Gt] [eb] pos) (tvB (evN [a, b] pGt)) := gb_cmp op_gt (fun _ _ _ _ _ h => ok_gt h) ha hb (nomark _)
theorem gb_ge (ha : GP X A pr W ea a) (hb : GP X A pr W eb b) : GB X A pr W (.Compare ea [.GtE] [eb] pos) (tvB (evN [a, b] pGe)) := gb_cmp op_ge (fun _ _ _ _ _ h => ok_ge h) ha hb (nomark _)
theorem ge_isN (ha : GP X A pr W ea a) (hb : GP X A pr W eb b) : GE X A pr W (.Compare ea [.Is] [eb] pos) (evN [a, b] pIsN) := ge_cmp op_isN (fun _ _ _ _ _ h => ok_isN h) ha hb (nomark _)
theorem ge_notN (ha : GP X A pr W ea a) (hb : GP X A pr W eb b) : GE X A pr W (.Compare ea [.IsNot] [eb] pos) (evN [a, b] pNotN) := ge_cmp op_notN (fun _ _ _ _ _ h => ok_notN h) ha hb (nomark _)
theorem gb_isN (ha : GP X A pr W ea a) (hb : GP X A pr W eb b) : GB X A pr W (.Compare ea [.Is] [eb] pos) (tvB (evN [a, b] pIsN)) := gb_cmp op_isN (fun _ _ _ _ _ h => ok_isN h) ha hb (nomark _)
theorem gb_notN (ha : GP X A pr W ea a) (hb : GP X A pr W eb b) : GB X A pr W (.Compare ea [.IsNot] [eb] pos) (tvB (evN [a, b] pNotN)) := gb_cmp op_notN (fun _ _ _ _ _ h => ok_notN h) ha hb (nomark _)
theorem ge_in (ha : GP X A pr W ea a) (hb : GP X A pr W eb b) (hm : behindInMarks .In eb = false := by with_unfolding_all rfl) : GE X A pr W (.Compare ea [.In] [eb] pos) (evN [a, b] (pIn false)) := ge_cmp op_in_seq (fun _ _ _ _ _ h => ok_in h) ha hb hm
theorem ge_notIn (ha : GP X A pr W ea a) (hb : GP X A pr W eb b) (hm : behindInMarks .NotIn eb = false := by with_unfolding_all rfl) : GE X A pr W (.Compare ea [.NotIn] [eb] pos) (evN [a, b] (pIn true)) := ge_cmp op_notIn_seq (fun _ _ _ _ _ h => ok_in h) ha hb hm
theorem gb_in (ha : GP X A pr W ea a) (hb : GP X A pr W eb b) (hm : behindInMarks .In eb = false := by with_unfolding_all rfl) : GB X A pr W (.Compare ea [.In] [eb] pos) (tvB (evN [a, b] (pIn false))) := gb_cmp op_in_seq (fun _ _ _ _ _ h => ok_in h) ha hb hm
theorem gb_notIn (ha : GP X A pr W ea a) (hb : GP X A pr W eb b) (hm : behindInMarks .NotIn eb = false := by with_unfolding_all rfl) : GB X A pr W (.Compare ea [.NotIn] [eb] pos) (tvB (evN [a, b] (pIn true))) := gb_cmp op_notIn_seq (fun _ _ _ _ _ h => ok_in h) ha hb hm
theorem ge_add (ha : GP X A pr W ea a) (hb : GP X A pr W eb b) : GE X A pr W (.BinOp ea .Add eb pos) (evN [a, b] pAdd) := ge_op op_add (fun _ _ _ _ _ h => ok_add h) ha hb
theorem ge_addS (ha : GP X A pr W ea a) (hb : GP X A pr W eb b) : GE X A pr W (.BinOp ea .Add eb pos) (evN [a, b] pAddS) := ge_op op_add_str (fun _ _ _ _ _ h => ok_addS h) ha hb
theorem ge_cat (ha : GP X A pr W ea a) (hb : GP X A pr W eb b) : GE X A pr W (.BinOp ea .Add eb pos) (evN [a, b] pCat) := ge_op op_cat (fun _ _ _ _ _ h => ok_cat h) ha hb
theorem ge_catT (ha : GP X A pr W ea a) (hb : GP X A pr W eb b) : GE X A pr W (.BinOp ea .Add eb pos) (evN [a, b] pCatT) := ge_op op_catA (fun _ _ _ _ _ h => ok_catT h) ha hb
theorem ge_sub (ha : GP X A pr W ea a) (hb : GP X A pr W eb b) : GE X A pr W (.BinOp ea .Sub eb pos) (evN [a, b] pSub) := ge_op op_sub (fun _ _ _ _ _ h => ok_sub h) ha hb
theorem ge_mul (ha : GP X A pr W ea a) (hb : GP X A pr W eb b) : GE X A pr W (.BinOp ea .Mult eb pos) (evN [a, b] pMul) := ge_op op_mulW (fun _ _ _ _ _ h => ok_mul h) ha hb
theorem ge_div (ha : GP X A pr W ea a) (hb : GP X A pr W eb b) : GE X A pr W (.BinOp ea .FloorDiv eb pos) (evN [a, b] pDiv) := ge_op op_fdivW (fun _ _ _ _ _ h => ok_div h) ha hb
theorem ge_mod (ha : GP X A pr W ea a) (hb : GP X A pr W eb b) : GE X A pr W (.BinOp ea .Mod eb pos) (evN [a, b] pMod) := ge_op op_mod (fun _ _ _ _ _ h => ok_mod h) ha hb
theorem ge_pow (ha : GP X A pr W ea a) (hb : GP X A pr W eb b) : GE X A pr W (.BinOp ea .Pow eb pos) (evN [a, b] pPow) := ge_op op_powW (fun _ _ _ _ _ h => ok_pow h) ha hb
theorem ge_neg (ha : GP X A pr W ea a) : GE X A pr W (.UnaryOp .USub ea pos) (evN [a] pNeg) := ge_un un_neg (fun _ _ _ _ h => ok_neg h) ha
end
end Fz

namespace Fz
open PySem L2

/-! ### calls of built-ins -/
section
variable {X : Cx} {A : Gm} {pr : List Nat} {W : WX} {pos p0 : Pos} {ea eb : Expr} {es : List Expr} {a b : Op} {ops : List Op} {x : Str} {id T : String} {r : List V → Hp → VK → Prop} {p : Prim}
theorem ge_callB (hc : CallR X (.builtin id) r) (hp : ∀ vs H Q E, Pre A p vs H Q E → r vs H Q) (hg : Gl X x) (hm : X.mg x = none) (hv : bootBuiltins x = some (.builtin id)) (ha : GL X A pr W (ea :: es) ops) (hn : x ≠ "__name__" := by decide) (hdb : (x == ("__debug__" : Str)) = false := by decide)
    (he : starEach (ea :: es) X.env = (false, eval ea X.env) :: starEach es X.env := by rfl) (hpl : (backTo pos (starEach es X.env)).any (·.1) = false := by rfl) : GE X A pr W (.Call (.Name x p0) (ea :: es) [] pos) (evN ops p) :=
  PE_imp (pe_callB hc hg hm hv ha hn hdb he hpl) fun σ H Q h => by
    obtain ⟨e, ρ, τ, ts, st, h⟩ := g_args h
    refine ⟨e, ρ, τ, ts, st, ?_⟩
    cases hr : evOps ops ρ with
    | ok ρ1 tds => rw [hr] at h; exact fun vs H' s nk => hp vs H' Q _ (h vs H' s nk)
    | ex ρ1 c x => rw [hr] at h; exact h
    | bad => rw [hr] at h; exact h
theorem ge_callTy (hc : CallR X (.type T) r) (hp : ∀ vs H Q E, Pre A p vs H Q E → r vs H Q) (hg : Gl X x) (hm : X.mg x = none) (hv : bootBuiltins x = some (.type T)) (ha : GL X A pr W (ea :: es) ops) (hn : x ≠ "__name__" := by decide) (hdb : (x == ("__debug__" : Str)) = false := by decide)
    (he : starEach (ea :: es) X.env = (false, eval ea X.env) :: starEach es X.env := by rfl) (hpl : (backTo pos (starEach es X.env)).any (·.1) = false := by rfl) : GE X A pr W (.Call (.Name x p0) (ea :: es) [] pos) (evN ops p) :=
  PE_imp (pe_callTy hc hg hm hv ha hn hdb he hpl) fun σ H Q h => by
    obtain ⟨e, ρ, τ, ts, st, h⟩ := g_args h
    refine ⟨e, ρ, τ, ts, st, ?_⟩
    cases hr : evOps ops ρ with
    | ok ρ1 tds => rw [hr] at h; exact fun vs H' s nk => hp vs H' Q _ (h vs H' s nk)
    | ex ρ1 c x => rw [hr] at h; exact h
    | bad => rw [hr] at h; exact h
end

/-- what is known of all values of a list -/
theorem Pre.len {A : Gm} {p : Prim} {vs : List V} {H : Hp} {Q : VK} {E : XK} (h : Pre A p vs H Q E) : True := trivial

def pLen : Prim := fun ds => match ds with
  | [.lst o xs] => .ok (.int xs.length) [.lst o xs]
  | [.tup xs] => .ok (.int xs.length) [.tup xs]
  | [.str z] => if z.length ≤ 1000000 then .ok (.int z.length) [.str z] else .bad
  | [.scr ns] => .ok (.int ns.length) [.scr ns]
  | _ => .bad
def pAbs : Prim := fun ds => match ds with
  | [.int i] => .ok (.int (if i < 0 then -i else i)) [.int i]
  | _ => .bad
def pMin2 : Prim := fun ds => match ds with
  | [.int i, .int j] => .ok (.int (if j < i then j else i)) [.int i, .int j]
  | _ => .bad
def pMax2 : Prim := fun ds => match ds with
  | [.int i, .int j] => .ok (.int (if j > i then j else i)) [.int i, .int j]
  | _ => .bad
def pInt : Prim := fun ds => match ds with
  | [.int i] => .ok (.int i) [.int i]
  | [.bl k] => .ok (.int (if k then 1 else 0)) [.bl k]
  | _ => .bad
def SmS (i : Int) : Prop := i.natAbs < 2 ^ 1900
noncomputable instance : DecidablePred SmS := fun i => Classical.propDecidable _
noncomputable def pStrI : Prim := fun ds => match ds with
  | [.int i] => if SmS i then .ok (.str (toString i)) [.int i] else .bad
  | _ => .bad
/-- list(x) of a list, a tuple; tuple(x) -/
def pList : Prim := fun ds => match ds with
  | [.lst o xs] => if nwL xs then .ok (.lst true xs) [.lst o xs] else .bad
  | [.tup xs] => if nwL xs then .ok (.lst true xs) [.tup xs] else .bad
  | _ => .bad
def pTuple : Prim := fun ds => match ds with
  | [.lst o xs] => if nwL xs then .ok (.tup xs) [.lst o xs] else .bad
  | [.tup xs] => if nwL xs then .ok (.tup xs) [.tup xs] else .bad
  | _ => .bad
/-- the ints of a list -/
def intsD : List D → Option (List Int)
  | [] => some []
  | .int i :: ds => (intsD ds).map (i :: ·)
  | _ => none
def blsD : List D → Option (List Bool)
  | [] => some []
  | .bl i :: ds => (blsD ds).map (i :: ·)
  | _ => none
theorem intsD_eq : ∀ {ds : List D} {ns : List Int}, intsD ds = some ns → ds = ns.map D.int
  | [], ns, h => by simp [intsD] at h; subst h; rfl
  | .int i :: ds, ns, h => by
    simp only [intsD, Option.map_eq_some_iff] at h
    obtain ⟨ms, h1, rfl⟩ := h
    rw [intsD_eq h1]; rfl
  | .non :: _, _, h => by cases h
  | .bl _ :: _, _, h => by cases h
  | .str _ :: _, _, h => by cases h
  | .tup _ :: _, _, h => by cases h
  | .lst _ _ :: _, _, h => by cases h
  | .dct _ _ _ :: _, _, h => by cases h
  | .ins _ _ _ _ :: _, _, h => by cases h
  | .exd _ :: _, _, h => by cases h
  | .any :: _, _, h => by cases h
  | .scr _ :: _, _, h => by cases h
theorem blsD_eq : ∀ {ds : List D} {ns : List Bool}, blsD ds = some ns → ds = ns.map D.bl
  | [], ns, h => by simp [blsD] at h; subst h; rfl
  | .bl i :: ds, ns, h => by
    simp only [blsD, Option.map_eq_some_iff] at h
    obtain ⟨ms, h1, rfl⟩ := h
    rw [blsD_eq h1]; rfl
  | .non :: _, _, h => by cases h
  | .int _ :: _, _, h => by cases h
  | .str _ :: _, _, h => by cases h
  | .tup _ :: _, _, h => by cases h
  | .lst _ _ :: _, _, h => by cases h
  | .dct _ _ _ :: _, _, h => by cases h
  | .ins _ _ _ _ :: _, _, h => by cases h
  | .exd _ :: _, _, h => by cases h
  | .any :: _, _, h => by cases h
  | .scr _ :: _, _, h => by cases h
@[simp] theorem intsD_map (ns : List Int) : intsD (ns.map D.int) = some ns := by
  induction ns with
  | nil => rfl
  | cons n ns ih => simp [intsD, ih]
@[simp] theorem blsD_map (ns : List Bool) : blsD (ns.map D.bl) = some ns := by
  induction ns with
  | nil => rfl
  | cons n ns ih => simp [blsD, ih]
def pSum : Prim := fun ds => match ds with
  | [.lst o xs] => match intsD xs with
    | some ns => .ok (.int ns.sum) [.lst o xs]
    | none => .bad
  | _ => .bad
def lmax : List Int → Int
  | [] => 0
  | [x] => x
  | x :: xs => max x (lmax xs)
def lmin : List Int → Int
  | [] => 0
  | [x] => x
  | x :: xs => min x (lmin xs)
theorem lmax_mem : ∀ {xs : List Int}, 0 < xs.length → lmax xs ∈ xs ∧ ∀ y ∈ xs, y ≤ lmax xs
  | [], h => by simp at h
  | [x], _ => ⟨by simp [lmax], by simp [lmax]⟩
  | x :: y :: r, _ => by
    obtain ⟨h1, h2⟩ := lmax_mem (xs := y :: r) (by simp)
    show max x (lmax (y :: r)) ∈ x :: y :: r ∧ ∀ z ∈ x :: y :: r, z ≤ max x (lmax (y :: r))
    refine ⟨?_, fun z hz => ?_⟩
    · by_cases h : x ≤ lmax (y :: r)
      · rw [Int.max_eq_right h]; exact List.mem_cons_of_mem _ h1
      · rw [Int.max_eq_left (by omega)]; exact List.mem_cons_self
    · rcases List.mem_cons.mp hz with rfl | hz
      · omega
      · have := h2 z hz; omega
theorem lmin_mem : ∀ {xs : List Int}, 0 < xs.length → lmin xs ∈ xs ∧ ∀ y ∈ xs, lmin xs ≤ y
  | [], h => by simp at h
  | [x], _ => ⟨by simp [lmin], by simp [lmin]⟩
  | x :: y :: r, _ => by
    obtain ⟨h1, h2⟩ := lmin_mem (xs := y :: r) (by simp)
    show min x (lmin (y :: r)) ∈ x :: y :: r ∧ ∀ z ∈ x :: y :: r, min x (lmin (y :: r)) ≤ z
    refine ⟨?_, fun z hz => ?_⟩
    · by_cases h : x ≤ lmin (y :: r)
      · rw [Int.min_eq_left h]; exact List.mem_cons_self
      · rw [Int.min_eq_right (by omega)]; exact List.mem_cons_of_mem _ h1
    · rcases List.mem_cons.mp hz with rfl | hz
      · omega
      · have := h2 z hz; omega
def pMaxL : Prim := fun ds => match ds with
  | [.lst o xs] => match intsD xs with
    | some ns => if 0 < ns.length then .ok (.int (lmax ns)) [.lst o xs] else .bad
    | none => .bad
  | _ => .bad
def pMinL : Prim := fun ds => match ds with
  | [.lst o xs] => match intsD xs with
    | some ns => if 0 < ns.length then .ok (.int (lmin ns)) [.lst o xs] else .bad
    | none => .bad
  | _ => .bad
def pAll : Prim := fun ds => match ds with
  | [.lst o xs] => match blsD xs with
    | some ns => .ok (.bl (ns.all id)) [.lst o xs]
    | none => .bad
  | _ => .bad
def pAny : Prim := fun ds => match ds with
  | [.lst o xs] => match blsD xs with
    | some ns => .ok (.bl (ns.any id)) [.lst o xs]
    | none => .bad
  | _ => .bad
/-- sorted ints -/
def ins1 (x : Int) : List Int → List Int
  | [] => [x]
  | y :: ys => if x ≤ y then x :: y :: ys else y :: ins1 x ys
def isort : List Int → List Int
  | [] => []
  | x :: xs => ins1 x (isort xs)
theorem ins1_perm (x : Int) : ∀ ys : List Int, (ins1 x ys).Perm (x :: ys)
  | [] => .refl _
  | y :: ys => by
    unfold ins1
    split
    · exact .refl _
    · exact ((ins1_perm x ys).cons y).trans (.swap x y ys)
theorem isort_perm : ∀ xs : List Int, (isort xs).Perm xs
  | [] => .refl _
  | x :: xs => (ins1_perm x _).trans ((isort_perm xs).cons x)
theorem ins1_sorted (x : Int) : ∀ {ys : List Int}, ys.Pairwise (· ≤ ·) → (ins1 x ys).Pairwise (· ≤ ·)
  | [], _ => by simp [ins1]
  | y :: ys, h => by
    unfold ins1
    split
    · rename_i hxy
      rw [List.pairwise_cons] at h ⊢
      refine ⟨fun z hz => ?_, List.pairwise_cons.mpr h⟩
      rcases List.mem_cons.mp hz with rfl | hz
      · exact hxy
      · exact Int.le_trans hxy (h.1 z hz)
    · rename_i hxy
      rw [List.pairwise_cons] at h ⊢
      refine ⟨fun z hz => ?_, ins1_sorted x h.2⟩
      rcases List.mem_cons.mp ((ins1_perm x ys).mem_iff.mp hz) with rfl | hz
      · omega
      · exact h.1 z hz
theorem isort_sorted : ∀ xs : List Int, (isort xs).Pairwise (· ≤ ·)
  | [] => .nil
  | x :: xs => ins1_sorted x (isort_sorted xs)
theorem sorted_one : ∀ {xs ys : List Int}, xs.Perm ys → xs.Pairwise (· ≤ ·) → ys.Pairwise (· ≤ ·) → xs = ys
  | [], ys, p, _, _ => by rw [List.nil_perm.mp p]
  | x :: xs, [], p, _, _ => by rw [List.perm_nil.mp p]
  | x :: xs, y :: ys, p, hx, hy => by
    have e : x = y := by
      rw [List.pairwise_cons] at hx hy
      have h1 : x ∈ y :: ys := p.mem_iff.mp List.mem_cons_self
      have h2 : y ∈ x :: xs := p.mem_iff.mpr List.mem_cons_self
      rcases List.mem_cons.mp h1 with e | h1
      · exact e
      · rcases List.mem_cons.mp h2 with e | h2
        · exact e.symm
        · have := hx.1 y h2
          have := hy.1 x h1
          omega
    subst e
    rw [sorted_one (List.perm_cons x |>.mp p) (List.pairwise_cons.mp hx).2 (List.pairwise_cons.mp hy).2]
def pSorted : Prim := fun ds => match ds with
  | [.lst o xs] => match intsD xs with
    | some ns => .ok (.lst true ((isort ns).map D.int)) [.lst o xs]
    | none => .bad
  | _ => .bad

section
variable {A : Gm} {x y : V} {vs : List V} {H : Hp} {Q : VK} {E : XK} {X : Cx} {K : PySem.W.Frag}
theorem Pre.split1 {p : Prim} (h : Pre A p vs H Q E) (hp : ∀ ds, (∀ d, ds ≠ [d]) → p ds = .bad) : ∃ v F S d, vs = [v] ∧ Wd F S H ∧ R A F H d v S ∧ SatP A F S H [v] (p [d]) Q E := by
  obtain ⟨F, S, ds, w, rl, q⟩ := h
  match ds, rl, q with
  | [d], rl, q =>
    obtain ⟨v, rfl, r⟩ := rl.un
    exact ⟨v, F, S, d, rfl, w, r, q⟩
  | [], rl, q => rw [hp [] (by simp)] at q; exact q.elim
  | _ :: _ :: _, rl, q => rw [hp _ (by simp)] at q; exact q.elim
theorem Pre.split2 {p : Prim} (h : Pre A p vs H Q E) (hp : ∀ ds, (∀ d e, ds ≠ [d, e]) → p ds = .bad) : ∃ (v u : V) (F S : FP) (d e : D) (S1 S2 : FP), vs = [v, u] ∧ Wd F S H ∧ R A F H d v S1 ∧ R A F H e u S2 ∧ (∀ b, S1 b → S b ∧ ¬ S2 b) ∧ (∀ b, S2 b → S b) ∧ SatP A F S H [v, u] (p [d, e]) Q E := by
  obtain ⟨F, S, ds, w, rl, q⟩ := h
  match ds, rl, q with
  | [d, e], rl, q =>
    obtain ⟨v, u, S1, S2, rfl, r1, r2, q1, q2⟩ := rl.un2
    exact ⟨v, u, F, S, d, e, S1, S2, rfl, w, r1, r2, q1, q2, q⟩
  | [], rl, q => rw [hp [] (by simp)] at q; exact q.elim
  | [_], rl, q => rw [hp _ (by simp)] at q; exact q.elim
  | _ :: _ :: _ :: _, rl, q => rw [hp _ (by simp)] at q; exact q.elim
theorem ok_len : Pre A pLen vs H Q E → (∃ x n, vs = [x] ∧ LenV A.K x H n ∧ Q (.int n) H) := fun h => by
  obtain ⟨v, F, S, d, rfl, w, r, q⟩ := h.split1 (fun ds hd => by unfold pLen; split <;> first | (exfalso; exact hd _ rfl) | rfl)
  unfold pLen at q
  split at q
  · rename_i o xs he
    injection he with e1; subst e1
    obtain ⟨a, us, rfl, sq, rl⟩ := r.lst_sq (K := A.K)
    exact ⟨.ref a, us.length, rfl, .inl ⟨us, sq, rfl⟩, by rw [rl.length]; exact SatP.same w (RL.one r) q rfl⟩
  · rename_i xs he
    injection he with e1; subst e1
    obtain ⟨a, us, rfl, sq, rl⟩ := r.tup_sq (K := A.K)
    exact ⟨.ref a, us.length, rfl, .inr ⟨us, sq, rfl⟩, by rw [rl.length]; exact SatP.same w (RL.one r) q rfl⟩
  · rename_i z he
    injection he with e1; subst e1
    split at q
    · rename_i hz
      have e : v = .str z := r
      subst e
      exact ⟨.str z, z.length, rfl, ⟨Nat.le_trans hz line6, rfl⟩, SatP.same w (RL.one r) q rfl⟩
    · exact q.elim
  · rename_i ns he
    injection he with e1; subst e1
    obtain ⟨a, rfl, sq⟩ := r.scr_sq
    exact ⟨.ref a, ns.length, rfl, .inl ⟨_, sq, by simp⟩, SatP.same w (RL.one r) q rfl⟩
  · exact q.elim
theorem ok_abs : Pre A pAbs vs H Q E → (∃ i, vs = [.int i] ∧ Q (.int (if i < 0 then -i else i)) H) := fun h => by
  obtain ⟨v, F, S, d, rfl, w, r, q⟩ := h.split1 (fun ds hd => by unfold pAbs; split <;> first | (exfalso; exact hd _ rfl) | rfl)
  unfold pAbs at q
  split at q
  · rename_i i he
    injection he with e1; subst e1
    have e : v = .int i := r
    subst e
    exact ⟨i, rfl, SatP.same w (RL.one r) q rfl⟩
  · exact q.elim
theorem ok_int : Pre A pInt vs H Q E → ((∃ i, vs = [.int i] ∧ Q (.int i) H) ∨ ∃ k, vs = [.bl k] ∧ Q (.int (if k then 1 else 0)) H) := fun h => by
  obtain ⟨v, F, S, d, rfl, w, r, q⟩ := h.split1 (fun ds hd => by unfold pInt; split <;> first | (exfalso; exact hd _ rfl) | rfl)
  unfold pInt at q
  split at q
  · rename_i i he
    injection he with e1; subst e1
    have e : v = .int i := r
    subst e
    exact .inl ⟨i, rfl, SatP.same w (RL.one r) q rfl⟩
  · rename_i k he
    injection he with e1; subst e1
    have e : v = .bl k := r
    subst e
    exact .inr ⟨k, rfl, SatP.same w (RL.one r) q rfl⟩
  · exact q.elim
theorem ok_strI : Pre A pStrI vs H Q E → (∃ i, vs = [.int i] ∧ i.natAbs.log2 < 1920 ∧ Q (.str (toString i)) H) := fun h => by
  obtain ⟨v, F, S, d, rfl, w, r, q⟩ := h.split1 (fun ds hd => by unfold pStrI; split <;> first | (exfalso; exact hd _ rfl) | rfl)
  unfold pStrI at q
  split at q
  · rename_i i he
    injection he with e1; subst e1
    have e : v = .int i := r
    subst e
    split at q
    · rename_i hs
      exact ⟨i, rfl, Nat.lt_trans (log2_of (by decide) (show i.natAbs < 2 ^ 1900 from hs)) (by decide), SatP.same w (RL.one r) q rfl⟩
    · exact q.elim
  · exact q.elim
theorem ok_min2 : Pre A pMin2 vs H Q E → (∃ i j, vs = [.int i, .int j] ∧ Q (.int (if j < i then j else i)) H) := fun h => by
  obtain ⟨v, u, F, S, d, e, S1, S2, rfl, w, r1, r2, q1, q2, q⟩ := h.split2 (fun ds hd => by unfold pMin2; split <;> first | (exfalso; exact hd _ _ rfl) | rfl)
  unfold pMin2 at q
  split at q
  · rename_i i j he
    injection he with e1 e2
    injection e2 with e2 e3
    subst e1 e2
    have e1 : v = .int i := r1
    have e2 : u = .int j := r2
    subst e1 e2
    exact ⟨i, j, rfl, SatP.same w (RL.two r1 r2 q1 q2) q rfl⟩
  · exact q.elim
theorem ok_max2 : Pre A pMax2 vs H Q E → (∃ i j, vs = [.int i, .int j] ∧ Q (.int (if j > i then j else i)) H) := fun h => by
  obtain ⟨v, u, F, S, d, e, S1, S2, rfl, w, r1, r2, q1, q2, q⟩ := h.split2 (fun ds hd => by unfold pMax2; split <;> first | (exfalso; exact hd _ _ rfl) | rfl)
  unfold pMax2 at q
  split at q
  · rename_i i j he
    injection he with e1 e2
    injection e2 with e2 e3
    subst e1 e2
    have e1 : v = .int i := r1
    have e2 : u = .int j := r2
    subst e1 e2
    exact ⟨i, j, rfl, SatP.same w (RL.two r1 r2 q1 q2) q rfl⟩
  · exact q.elim
theorem ok_list : Pre A pList vs H Q E → (∃ p ys, vs = [.ref p] ∧ (SqL K H p ys ∨ SqT K H p ys) ∧ ∀ l, H l = none → Q (.ref l) (upd H l (.lst ys))) := fun h => by
  obtain ⟨v, F, S, d, rfl, w, r, q⟩ := h.split1 (fun ds hd => by unfold pList; split <;> first | (exfalso; exact hd _ rfl) | rfl)
  unfold pList at q
  split at q
  · rename_i o xs he
    injection he with e1; subst e1
    split at q
    · rename_i hn
      obtain ⟨a, us, rfl, sq, rl⟩ := r.lst_sq (K := K)
      exact ⟨a, us, rfl, .inl sq, fun l hl => SatP.newL w (RL.one r) q (RL.none hn rl) hl⟩
    · exact q.elim
  · rename_i xs he
    injection he with e1; subst e1
    split at q
    · rename_i hn
      obtain ⟨a, us, rfl, sq, rl⟩ := r.tup_sq (K := K)
      exact ⟨a, us, rfl, .inr sq, fun l hl => SatP.newL w (RL.one r) q (RL.none hn rl) hl⟩
    · exact q.elim
  · exact q.elim
theorem ok_tuple : Pre A pTuple vs H Q E → (∃ p ys, vs = [.ref p] ∧ ((SqL K H p ys ∧ ∀ l, H l = none → Q (.ref l) (upd H l (.tup ys))) ∨ (SqT K H p ys ∧ Q (.ref p) H))) := fun h => by
  obtain ⟨v, F, S, d, rfl, w, r, q⟩ := h.split1 (fun ds hd => by unfold pTuple; split <;> first | (exfalso; exact hd _ rfl) | rfl)
  unfold pTuple at q
  split at q
  · rename_i o xs he
    injection he with e1; subst e1
    split at q
    · rename_i hn
      obtain ⟨a, us, rfl, sq, rl⟩ := r.lst_sq (K := K)
      exact ⟨a, us, rfl, .inl ⟨sq, fun l hl => SatP.newT w (RL.one r) q (RL.none hn rl) hl⟩⟩
    · exact q.elim
  · rename_i xs he
    injection he with e1; subst e1
    split at q
    · rename_i hn
      obtain ⟨a, us, rfl, sq, rl⟩ := r.tup_sq (K := K)
      exact ⟨a, us, rfl, .inr ⟨sq, SatP.same w (RL.one r) q (R.none (d := .tup xs) hn r)⟩⟩
    · exact q.elim
  · exact q.elim
theorem ok_sum : Pre A pSum vs H Q E → rSum K vs H Q := fun h => by
  obtain ⟨v, F, S, d, rfl, w, r, q⟩ := h.split1 (fun ds hd => by unfold pSum; split <;> first | (exfalso; exact hd _ rfl) | rfl)
  unfold pSum at q
  split at q
  · rename_i o xs he
    injection he with e1; subst e1
    split at q
    · rename_i ns hn
      have := intsD_eq hn
      subst this
      obtain ⟨a, us, rfl, sq, rl⟩ := r.lst_sq (K := K)
      rw [rl.ints] at sq
      exact ⟨a, ns, rfl, sq, SatP.same w (RL.one r) q rfl⟩
    · exact q.elim
  · exact q.elim
theorem ok_maxL : Pre A pMaxL vs H Q E → rMax K vs H Q := fun h => by
  obtain ⟨v, F, S, d, rfl, w, r, q⟩ := h.split1 (fun ds hd => by unfold pMaxL; split <;> first | (exfalso; exact hd _ rfl) | rfl)
  unfold pMaxL at q
  split at q
  · rename_i o xs he
    injection he with e1; subst e1
    split at q
    · rename_i ns hn
      have := intsD_eq hn
      subst this
      split at q
      · rename_i hl
        obtain ⟨a, us, rfl, sq, rl⟩ := r.lst_sq (K := K)
        rw [rl.ints] at sq
        refine ⟨a, ns, rfl, sq, hl, fun m hm hy => ?_⟩
        obtain ⟨h1, h2⟩ := lmax_mem hl
        have : m = lmax ns := Int.le_antisymm (h2 m hm) (hy _ h1)
        rw [this]
        exact SatP.same w (RL.one r) q rfl
      · exact q.elim
    · exact q.elim
  · exact q.elim
theorem ok_minL : Pre A pMinL vs H Q E → rMin K vs H Q := fun h => by
  obtain ⟨v, F, S, d, rfl, w, r, q⟩ := h.split1 (fun ds hd => by unfold pMinL; split <;> first | (exfalso; exact hd _ rfl) | rfl)
  unfold pMinL at q
  split at q
  · rename_i o xs he
    injection he with e1; subst e1
    split at q
    · rename_i ns hn
      have := intsD_eq hn
      subst this
      split at q
      · rename_i hl
        obtain ⟨a, us, rfl, sq, rl⟩ := r.lst_sq (K := K)
        rw [rl.ints] at sq
        refine ⟨a, ns, rfl, sq, hl, fun m hm hy => ?_⟩
        obtain ⟨h1, h2⟩ := lmin_mem hl
        have : m = lmin ns := Int.le_antisymm (hy _ h1) (h2 m hm)
        rw [this]
        exact SatP.same w (RL.one r) q rfl
      · exact q.elim
    · exact q.elim
  · exact q.elim
theorem ok_all : Pre A pAll vs H Q E → rAll K vs H Q := fun h => by
  obtain ⟨v, F, S, d, rfl, w, r, q⟩ := h.split1 (fun ds hd => by unfold pAll; split <;> first | (exfalso; exact hd _ rfl) | rfl)
  unfold pAll at q
  split at q
  · rename_i o xs he
    injection he with e1; subst e1
    split at q
    · rename_i ns hn
      have := blsD_eq hn
      subst this
      obtain ⟨a, us, rfl, sq, rl⟩ := r.lst_sq (K := K)
      rw [rl.bls] at sq
      exact ⟨a, ns, rfl, sq, SatP.same w (RL.one r) q rfl⟩
    · exact q.elim
  · exact q.elim
theorem ok_any : Pre A pAny vs H Q E → rAny K vs H Q := fun h => by
  obtain ⟨v, F, S, d, rfl, w, r, q⟩ := h.split1 (fun ds hd => by unfold pAny; split <;> first | (exfalso; exact hd _ rfl) | rfl)
  unfold pAny at q
  split at q
  · rename_i o xs he
    injection he with e1; subst e1
    split at q
    · rename_i ns hn
      have := blsD_eq hn
      subst this
      obtain ⟨a, us, rfl, sq, rl⟩ := r.lst_sq (K := K)
      rw [rl.bls] at sq
      exact ⟨a, ns, rfl, sq, SatP.same w (RL.one r) q rfl⟩
    · exact q.elim
  · exact q.elim
theorem ok_sorted : Pre A pSorted vs H Q E → rSortedI K vs H Q := fun h => by
  obtain ⟨v, F, S, d, rfl, w, r, q⟩ := h.split1 (fun ds hd => by unfold pSorted; split <;> first | (exfalso; exact hd _ rfl) | rfl)
  unfold pSorted at q
  split at q
  · rename_i o xs he
    injection he with e1; subst e1
    split at q
    · rename_i ns hn
      have := intsD_eq hn
      subst this
      obtain ⟨a, us, rfl, sq, rl⟩ := r.lst_sq (K := K)
      rw [rl.ints] at sq
      refine ⟨a, ns, rfl, sq, fun ns' p hp hs hf => ?_⟩
      have : ns' = isort ns := sorted_one (hp.trans (isort_perm ns).symm) hs (isort_sorted ns)
      subst this
      exact SatP.newL w (RL.one r) q RL.ofInts hf
    · exact q.elim
  · exact q.elim
end
section
variable {X : Cx} {A : Gm} {pr : List Nat} {W : WX} {pos p0 : Pos} {ea : Expr} {es : List Expr} {ops : List Op}
theorem ge_len (hK : X.K = A.K) (hg : Gl X "len") (hm : X.mg "len" = none) (ha : GL X A pr W (ea :: es) ops) (he : starEach (ea :: es) X.env = (false, eval ea X.env) :: starEach es X.env := by rfl) (hpl : (backTo pos (starEach es X.env)).any (·.1) = false := by rfl) :
    GE X A pr W (.Call (.Name "len" p0) (ea :: es) [] pos) (evN ops pLen) := ge_callB call_len (fun vs H Q E h => by rw [hK]; exact ok_len h) hg hm PySem.boot_len ha (by decide) (by decide) he hpl
end
end Fz

namespace Fz
open PySem L2

/-! ### displays -/
def pTup : Prim := fun ds => if ds.length ≤ 1000 then .ok (.tup ds) (ds.map fun _ => .any) else .bad
def pLst : Prim := fun ds => if ds.length ≤ 1000 then .ok (.lst true ds) (ds.map fun _ => .any) else .bad
theorem line1000 : (1000 : Nat) ≤ sizeLine := by decide
section
variable {X : Cx} {A : Gm} {pr : List Nat} {W : WX} {pos p0 : Pos} {ea eb : Expr} {es : List Expr} {a b : Op} {ops : List Op}
theorem g_argsK {A : Gm} {pr : List Nat} {W : WX} {σ : St} {H : Hp} {Q : VK} {ops : List Op} {p : Prim} {K : List V → Hp → Prop} (h : G A pr W (evN ops p) σ H Q) (k : ∀ vs H1, Pre A p vs H1 Q (fun cls d H' => W cls d σ H') → K vs H1) : GA A pr W ops σ H K := by
  obtain ⟨e, ρ, τ, ts, st, h⟩ := g_args h
  refine ⟨e, ρ, τ, ts, st, ?_⟩
  cases hr : evOps ops ρ with
  | ok ρ1 tds => rw [hr] at h; exact fun vs H' s nk => k vs H' (h vs H' s nk)
  | ex ρ1 c x => rw [hr] at h; exact h
  | bad => rw [hr] at h; exact h
theorem ge_tup {k : Nat} (ha : GL X A pr W es ops) : GE X A pr W (.Tuple es k pos) (evN ops pTup) := PE_imp (pe_tup ha) fun σ H Q h => g_argsK h fun vs H1 h1 => by
  obtain ⟨F, S, ds, w, rl, q⟩ := h1
  unfold pTup at q
  split at q
  · rename_i hl
    exact ⟨by rw [rl.length]; exact Nat.le_trans hl line1000, fun p hp => SatP.takeT w rl q hp⟩
  · exact q.elim
theorem ge_lst (ha : GL X A pr W es ops) : GE X A pr W (.List es pos) (evN ops pLst) := PE_imp (pe_lst ha) fun σ H Q h => g_argsK h fun vs H1 h1 => by
  obtain ⟨F, S, ds, w, rl, q⟩ := h1
  unfold pLst at q
  split at q
  · rename_i hl
    exact ⟨by rw [rl.length]; exact Nat.le_trans hl line1000, fun p hp => SatP.takeL w rl q hp⟩
  · exact q.elim
end

/-! ### slices -/
def cutD {α : Type} (xs : List α) (lo hi : Option Int) : List α := (xs.drop (HT.sIx xs.length 0 lo)).take (HT.sIx xs.length xs.length hi - HT.sIx xs.length 0 lo)
def sliceD (x : D) (lo hi : Option Int) (ds : List D) : PR := match x with
  | .lst o xs => if nwL xs then .ok (.lst true (cutD xs lo hi)) ds else .bad
  | .tup xs => if nwL xs then .ok (.tup (cutD xs lo hi)) ds else .bad
  | .str z => if z.length ≤ 1000000 then .ok (.str (cutS z lo hi)) ds else .bad
  | .scr ns => .ok (.lst true ((cutD ns lo hi).map D.int)) ds
  | _ => .bad
def pSlH : Prim := fun ds => match ds with
  | [x, .int hi] => sliceD x none (some hi) [x, .int hi]
  | _ => .bad
def pSlL : Prim := fun ds => match ds with
  | [x, .int lo] => sliceD x (some lo) none [x, .int lo]
  | _ => .bad
def pSlB : Prim := fun ds => match ds with
  | [x, .int lo, .int hi] => sliceD x (some lo) (some hi) [x, .int lo, .int hi]
  | _ => .bad
/-- a slice of anything -/
def rSl (K : PySem.W.Frag) : V → Option Int → Option Int → Hp → VK → Prop := fun x lo hi H Q => rSlL K x lo hi H Q ∨ rSlA K x lo hi H Q ∨ rSlS x lo hi H Q
section
variable {A : Gm} {F S : FP} {H : Hp} {Q : VK} {E : XK} {X : Cx}
theorem SlR_or {r r' : V → Option Int → Option Int → Hp → VK → Prop} (h : SlR X r) (h' : SlR X r') : SlR X (fun x lo hi H Q => r x lo hi H Q ∨ r' x lo hi H Q) := fun pins s σ H x v vl vu lo hi sl Q I rx is p1 p2 q =>
  q.elim (h pins s σ H x v vl vu lo hi sl Q I rx is p1 p2) (h' pins s σ H x v vl vu lo hi sl Q I rx is p1 p2)
theorem sl_any : SlR X (rSl X.K) := SlR_or sl_list (SlR_or sl_tupA sl_str)
theorem nwL_mem : ∀ {ds : List D}, nwL ds = true ↔ ∀ d ∈ ds, nw d = true
  | [] => by simp [nwL]
  | d :: ds => by
    show (nw d && nwL ds) = true ↔ _
    rw [Bool.and_eq_true, nwL_mem (ds := ds)]
    simp
theorem RL.drop {T : FP} : ∀ {ds : List D} {vs : List V} (n : Nat), RL A F H ds vs T → RL A F H (ds.drop n) (vs.drop n) T
  | ds, vs, 0, h => h
  | [], vs, n + 1, h => by rw [show vs = [] from h]; exact rfl
  | d :: ds, vs, n + 1, h => by
    obtain ⟨v, vs', S1, S2, rfl, r, rl, q1, q2⟩ := h
    exact (RL.drop n rl).mono q2
theorem RL.take {T : FP} : ∀ {ds : List D} {vs : List V} (n : Nat), RL A F H ds vs T → RL A F H (ds.take n) (vs.take n) T
  | ds, vs, 0, h => by simp [RL]
  | [], vs, n + 1, h => by rw [show vs = [] from h]; exact rfl
  | d :: ds, vs, n + 1, h => by
    obtain ⟨v, vs', S1, S2, rfl, r, rl, q1, q2⟩ := h
    exact ⟨v, vs'.take n, S1, S2, rfl, r, RL.take n rl, q1, q2⟩
theorem RL.cut {ds : List D} {vs : List V} {T : FP} (lo hi : Option Int) (h : RL A F H ds vs T) : RL A F H (cutD ds lo hi) (cutV vs lo hi) T := by
  have e : cutV vs lo hi = cutD vs lo hi := rfl
  rw [e]
  unfold cutD
  rw [h.length]
  exact (h.drop _).take _
theorem cutD_map {α β : Type} (f : α → β) (xs : List α) (lo hi : Option Int) : cutD (xs.map f) lo hi = (cutD xs lo hi).map f := by
  unfold cutD
  rw [List.length_map, List.map_take, List.map_drop]
theorem ok_slice {d : D} {ds : List D} {vs : List V} {x : V} {lo hi : Option Int} {T : FP} (w : Wd F S H) (rl : RL A F H ds vs S) (r : R A F H d x T) (q : SatP A F S H vs (sliceD d lo hi ds) Q E) : rSl A.K x lo hi H Q := by
  unfold sliceD at q
  split at q
  · rename_i o xs
    split at q
    · rename_i hn
      obtain ⟨a, us, rfl, sq, rr⟩ := r.lst_sq (K := A.K)
      exact .inl ⟨a, us, rfl, sq, fun p hp => SatP.newL w rl q (RL.cut lo hi (RL.none hn rr)) hp⟩
    · exact q.elim
  · rename_i xs
    split at q
    · rename_i hn
      obtain ⟨a, us, rfl, sq, rr⟩ := r.tup_sq (K := A.K)
      have e : cutV us lo hi = cutD us lo hi := rfl
      refine .inr (.inl ⟨a, us, rfl, sq, fun z => ?_, fun z p hp => SatP.newT w rl q (RL.cut lo hi (RL.none hn rr)) hp⟩)
      refine SatP.same w rl q ?_
      have : cutD xs lo hi = xs := by
        unfold cutD
        rw [← rr.length, z.1, z.2]
        simp [rr.length]
      rw [this]
      exact R.none (d := .tup xs) hn r
    · exact q.elim
  · rename_i z
    split at q
    · rename_i hz
      exact .inr (.inr ⟨z, r, Nat.le_trans hz line6, SatP.same w rl q rfl⟩)
    · exact q.elim
  · rename_i ns
    obtain ⟨a, rfl, sq⟩ := r.scr_sq
    refine .inl ⟨a, ns.map V.int, rfl, sq, fun p hp => ?_⟩
    have e : cutV (ns.map V.int) lo hi = (cutD ns lo hi).map V.int := cutD_map _ _ _ _
    rw [e]
    exact SatP.newL w rl q RL.ofInts hp
  · exact q.elim
end
section
variable {X : Cx} {A : Gm} {pr : List Nat} {W : WX} {pos p0 p2 : Pos} {ea eb ec : Expr} {es : List Expr} {a b c : Op} {ops : List Op}
theorem ge_slH (hK : X.K = A.K) (ha : GP X A pr W ea a) (hb : GP X A pr W eb b) : GE X A pr W (.Subscript ea (.Slice none (some eb) none p2) pos) (evN [a, b] pSlH) :=
  PE_imp (pe_slice sl_any ha po_none (po_some hb)) fun σ H Q h => GO.mono (g_args2 h) fun x H1 h1 => GO.mono h1 fun y H2 h2 => by
    obtain ⟨F, S, d, e, S1, S2, w, r1, r2, q1, q2, q⟩ := h2.bi
    unfold pSlH at q
    split at q
    · rename_i x' hi he
      injection he with e1 e2
      injection e2 with e2 e3
      subst e1 e2
      refine ⟨hi, r2, ?_⟩
      rw [hK]
      exact ok_slice w (RL.two r1 r2 q1 q2) r1 q
    · exact q.elim
theorem ge_slL (hK : X.K = A.K) (ha : GP X A pr W ea a) (hb : GP X A pr W eb b) : GE X A pr W (.Subscript ea (.Slice (some eb) none none p2) pos) (evN [a, b] pSlL) :=
  PE_imp (pe_slice sl_any ha (po_some hb) po_none) fun σ H Q h => GO.mono (g_args2 h) fun x H1 h1 => GO.mono h1 fun y H2 h2 => by
    obtain ⟨F, S, d, e, S1, S2, w, r1, r2, q1, q2, q⟩ := h2.bi
    unfold pSlL at q
    split at q
    · rename_i x' lo he
      injection he with e1 e2
      injection e2 with e2 e3
      subst e1 e2
      refine ⟨lo, r2, ?_⟩
      rw [hK]
      exact ok_slice w (RL.two r1 r2 q1 q2) r1 q
    · exact q.elim
/-- an int that is made -/
def evInt (f : EvE) : EvE := fun ρ => (f ρ).bind fun ρ1 d => match d with
  | .int i => .ok ρ1 (.int i)
  | _ => .bad
theorem G.int {σ : St} {H : Hp} {f : EvE} {K : VK} (h : G A pr W (evInt f) σ H K) : G A pr W f σ H fun x H' => ∃ i, x = .int i ∧ K x H' := by
  obtain ⟨e, ρ, τ, ts, st, h⟩ := h
  refine ⟨e, ρ, τ, ts, st, ?_⟩
  unfold evInt at h
  cases hr : f ρ with
  | ok ρ1 d =>
    simp only [hr, Res.bind_ok] at h
    intro v H' s
    cases d with
    | int i =>
      obtain ⟨F, S, r⟩ := s.top
      exact ⟨i, r, h v H' s⟩
    | _ => exact h.elim
  | ex ρ1 c x => simp only [hr, Res.bind_ex] at h; exact h
  | bad => simp only [hr, Res.bind_bad] at h; exact h
theorem ge_slB {f g : EvE} (hK : X.K = A.K) (ha : GP X A pr W ea a) (hb : GE X A pr W eb f) (hc : GE X A pr W ec g) : GE X A pr W (.Subscript ea (.Slice (some eb) (some ec) none p2) pos) (evN [a, .ex (evInt f), .ex (evInt g)] pSlB) :=
  PE_imp (pe_slice sl_any ha (po_some hb) (po_some hc)) fun σ H Q h => GO.mono (g_args3 h) fun x H1 h1 => by
    refine G.mono (G.int h1) fun y H2 h2 => ?_
    obtain ⟨i, rfl, h2⟩ := h2
    refine ⟨i, rfl, G.mono (G.int h2) fun z H3 h3 => ?_⟩
    obtain ⟨j, rfl, h3⟩ := h3
    refine ⟨j, rfl, ?_⟩
    obtain ⟨F, S, d, e, f, S1, S2, S3, w, r1, r2, r3, q1, q2, q3, q⟩ := h3.tri
    unfold pSlB at q
    split at q
    · rename_i x' lo hi he
      injection he with e1 e2
      injection e2 with e2 e3
      injection e3 with e3 e4
      subst e1 e2 e3
      have e2 : V.int i = V.int lo := r2
      have e3 : V.int j = V.int hi := r3
      injection e2 with e2
      injection e3 with e3
      subst e2 e3
      rw [hK]
      have rl : RL A F H3 [d, .int i, .int j] [x, .int i, .int j] S := by
        refine ⟨x, [.int i, .int j], S1, fun b => S2 b ∨ S3 b, rfl, r1, RL.two r2 r3 (fun b hb => ⟨.inl hb, (q2 b hb).2⟩) (fun b hb => .inr hb), fun b hb => ⟨(q1 b hb).1, fun z => z.elim (q1 b hb).2.1 (q1 b hb).2.2⟩, fun b hb => hb.elim (fun z => (q2 b z).1) (q3 b)⟩
      exact ok_slice w rl r1 q
    · exact q.elim
end
end Fz

namespace Fz
open PySem L2

/-! ### a receiver, then arguments -/
def opd (o : Op) (ρ : Env) (d : Option D) : Option D := match o with
  | .nm i => match ρ[i]? with
    | some (some x) => some x
    | _ => none
  | .ex _ => d
theorem opd_nm {i : Nat} {ρ : Env} {d : Option D} {x : D} (h : opd (.nm i) ρ d = some x) : ρ[i]? = some (some x) := by
  change (match ρ[i]? with | some (some x) => some x | _ => none) = some x at h
  split at h
  · rename_i y hy
    cases h
    exact hy
  · cases h
def evMt (chk : D → Bool) (o : Op) (ops : List Op) (p : Prim) : EvE := fun ρ => (evO o ρ).bind fun ρ1 d => match opd o ρ1 d with
  | some x => if chk x then (evOps ops ρ1).bind fun ρ2 tds => done (o :: ops) p ρ2 (d :: tds) else .bad
  | none => .bad
section
variable {A : Gm} {pr : List Nat} {W : WX} {σ : St} {H : Hp} {Q : VK}
theorem g_meth {chk : D → Bool} {o : Op} {ops : List Op} {p : Prim} (h : G A pr W (evMt chk o ops p) σ H Q) :
    GO A pr W o σ H fun x H1 => (∃ F S d, chk d = true ∧ R A F H1 d x S) ∧ GA A pr W ops σ H1 fun vs H2 => spF A (ops.length + 1) p (x :: vs) H2 Q (fun cls d H' => W cls d σ H') := by
  obtain ⟨e, ρ, τ, ts, st, h⟩ := h
  have lt := st.lenT
  unfold evMt at h
  refine op_next (ok := fun _ _ => True) st (fun q => by rw [q] at h; exact h) (fun ρ' c x q => by rw [q] at h; exact h) (fun ρ1 od v H1 eo s1 nm => ?_)
  rw [eo] at h
  simp only [Res.bind_ok] at h
  cases hx : opd o ρ1 od with
  | none => rw [hx] at h; exact h.elim
  | some x =>
    rw [hx] at h
    simp only at h
    split at h
    · rename_i hc
      refine ⟨?_, ?_⟩
      · cases o with
        | nm i =>
          have hv := nm i rfl
          have hi := opd_nm hx
          obtain ⟨F, S, ro, l, _⟩ := s1
          have hlt : i < ρ1.length := (List.getElem?_eq_some_iff.mp hi).1
          obtain ⟨v', g, r⟩ := ro.get (i := i) (d := x) (by rw [List.getElem?_append_left hlt]; exact hi)
          rw [List.getElem?_append_left (by omega), hv] at g
          cases g
          exact ⟨F, S, x, hc, r⟩
        | ex f =>
          have : od = some x := hx
          subst this
          obtain ⟨F, S, r⟩ := s1.top
          exact ⟨F, S, x, hc, r⟩
      · refine ⟨e, ρ1, τ ++ [od], ts ++ [some v], s1, ?_⟩
        cases hr : evOps ops ρ1 with
        | ok ρ2 tds =>
          rw [hr] at h
          intro vs H' s2 nk
          rw [List.append_assoc, List.append_assoc] at s2
          have nk' : nmOk (o :: ops) σ (v :: vs) := by
            cases o with
            | nm i => exact ⟨nm i rfl, nk⟩
            | ex f => exact nk
          exact ⟨by have := nmOk.length nk; simp [this], done_pre (vs := v :: vs) s2 lt nk' h⟩
        | ex ρ2 c x =>
          rw [hr] at h
          intro dd H' s2
          rw [List.append_assoc, List.append_assoc] at s2
          exact h dd H' (s2.drop lt)
        | bad =>
          rw [hr] at h
          exact h.elim
    · exact h.elim
theorem GA.mono {ops : List Op} {K K' : List V → Hp → Prop} (h : GA A pr W ops σ H K) (k : ∀ vs H', K vs H' → K' vs H') : GA A pr W ops σ H K' := by
  obtain ⟨e, ρ, τ, ts, st, h⟩ := h
  refine ⟨e, ρ, τ, ts, st, ?_⟩
  cases hr : evOps ops ρ with
  | ok ρ1 tds => rw [hr] at h; exact fun vs H' s nk => k vs H' (h vs H' s nk)
  | ex ρ1 c x => rw [hr] at h; exact h
  | bad => rw [hr] at h; exact h
end

/-! ### methods of lists -/
def isLst : D → Bool
  | .lst _ _ => true
  | _ => false
def pAppend : Prim := fun ds => match ds with
  | [.lst true xs, d] => if xs.length < 1000000 then .ok .non [.lst true (xs ++ [d]), .any] else .bad
  | _ => .bad
def pExtend : Prim := fun ds => match ds with
  | [.lst true xs, .lst o ys] => if nwL ys && decide (xs.length + ys.length ≤ 1000000) then .ok .non [.lst true (xs ++ ys), .lst o ys] else .bad
  | _ => .bad
def pPop : Prim := fun ds => match ds with
  | [.lst true xs] => match xs.getLast? with
    | some d => if nwL xs then .ok d [.lst true xs.dropLast] else .bad
    | none => .bad
  | _ => .bad
/-- [value, list, index] -/
def pSetL : Prim := fun ds => match ds with
  | [d, .lst true xs, .int i] => match ixN xs.length i with
    | some j => .ok .non [.any, .lst true (xs.set j d), .int i]
    | none => .bad
  | _ => .bad
section
variable {A : Gm} {F S T : FP} {H : Hp} {Q : VK} {E : XK} {vs : List V} {ds : List D} {x y : V} {d : D}
/-- one object that is owned is changed; nothing is made -/
theorem SatP.set {a : Addr} {o : HO} {ds' : List D} (w : Wd F S H) (ha : S a) (hn : ∀ v, R A F (upd H a o) .non v (fun _ => False) → v = .non) (h : SatP A F S H vs (.ok .non ds') Q E) (rl : RL A F (upd H a o) ds' vs S) : Q .non (upd H a o) := by
  refine h .non F S _ ⟨fun b hb nb => upd_ne (fun e => nb (by rw [e]; exact ha)), fun _ z => z, fun _ z => .inl z, fun _ z => .inl z, fun b hb => ?_⟩ ⟨w.fs, fun b z => ?_⟩ ⟨.non, vs, fun _ => False, S, rfl, rfl, rl, fun _ z => z.elim, fun _ z => z⟩
  · by_cases e : b = a
    · rw [e, upd_same]; simp
    · rw [upd_ne e]; exact hb
  · by_cases e : b = a
    · rw [e, upd_same]; simp
    · rw [upd_ne e]; exact w.lv b z
/-- what stands apart from a changed object -/
theorem R.off {a : Addr} {o : HO} {v : V} (r : R A F H d v T) (hF : ¬ F a) (hT : ¬ T a) : R A F (upd H a o) d v T := r.frame (fun _ z => z) fun b z => upd_ne fun e => z.elim (fun z => hF (e ▸ z)) fun z => hT (e ▸ z)
theorem RL.off {a : Addr} {o : HO} (r : RL A F H ds vs T) (hF : ¬ F a) (hT : ¬ T a) : RL A F (upd H a o) ds vs T := r.frame (fun _ z => z) fun b z => upd_ne fun e => z.elim (fun z => hF (e ▸ z)) fun z => hT (e ▸ z)
theorem ok_append : Pre A pAppend (x :: vs) H Q E → rAppend x vs H Q := fun h => by
  obtain ⟨v, u, F, S, d, e, S1, S2, ev, w, r1, r2, q1, q2, q⟩ := h.split2 (fun ds hd => by unfold pAppend; split <;> first | (exfalso; exact hd _ _ rfl) | rfl)
  cases ev
  unfold pAppend at q
  split at q
  · rename_i xs e' he
    injection he with e1 e2
    injection e2 with e2 e3
    subst e1
    subst e2
    split at q
    · rename_i hl
      obtain ⟨a, us, S', rfl, sa, g, rl, qs⟩ := r1
      have hF : ¬ F a := fun z => w.fs a z (q1 a sa).1
      refine ⟨a, us, u, rfl, rfl, g, by rw [rl.length]; exact Nat.lt_of_lt_of_le hl line6, SatP.set w (q1 a sa).1 (fun v h => h) q ?_⟩
      have r1' : R A F (upd H a (.lst (us ++ [u]))) (.lst true (xs ++ [e])) (.ref a) (fun b => S1 b ∨ S2 b) := by
        refine ⟨a, us ++ [u], fun b => S' b ∨ S2 b, rfl, .inl sa, upd_same, RL.append (rl.off hF fun z => (qs a z).2 rfl) (RL.one (r2.off hF fun z => (q1 a sa).2 z)) (fun b hb => ⟨.inl hb, fun z => (q1 b (qs b hb).1).2 z⟩) (fun b hb => .inr hb), fun b hb => ?_⟩
        rcases hb with z | z
        · exact ⟨.inl (qs b z).1, (qs b z).2⟩
        · exact ⟨.inr z, fun e => (q1 a sa).2 (e ▸ z)⟩
      exact RL.two r1' (S2 := fun _ => False) trivial (fun b hb => ⟨Or.elim hb (fun z => (q1 b z).1) (q2 b), fun z => z⟩) (fun b hb => False.elim hb)
    · exact q.elim
  · exact q.elim
theorem ok_extend : Pre A pExtend (x :: vs) H Q E → rExtend x vs H Q := fun h => by
  obtain ⟨v, u, F, S, d, e, S1, S2, ev, w, r1, r2, q1, q2, q⟩ := h.split2 (fun ds hd => by unfold pExtend; split <;> first | (exfalso; exact hd _ _ rfl) | rfl)
  cases ev
  unfold pExtend at q
  split at q
  · rename_i xs o ys he
    injection he with e1 e2
    injection e2 with e2 e3
    subst e1 e2
    split at q
    · rename_i hc
      simp only [Bool.and_eq_true, decide_eq_true_eq] at hc
      obtain ⟨a, us, S', rfl, sa, g, rl, qs⟩ := r1
      have hF : ¬ F a := fun z => w.fs a z (q1 a sa).1
      obtain ⟨b, ws, rfl, g2, rl2⟩ := r2.lst_at
      have rn : RL A F H ys ws (fun _ => False) := RL.none hc.1 rl2
      refine ⟨a, b, us, ws, rfl, rfl, g, g2, by rw [rl.length, rl2.length]; exact Nat.le_trans hc.2 line6, SatP.set w (q1 a sa).1 (fun v h => h) q ?_⟩
      have r1' : R A F (upd H a (.lst (us ++ ws))) (.lst true (xs ++ ys)) (.ref a) S1 :=
        ⟨a, us ++ ws, S', rfl, sa, upd_same, RL.append (rl.off hF fun z => (qs a z).2 rfl) (rn.off hF fun z => z) (fun b hb => ⟨hb, fun z => z⟩) (fun b hb => hb.elim), qs⟩
      exact RL.two r1' (r2.off hF fun z => (q1 a sa).2 z) q1 q2
    · exact q.elim
  · exact q.elim
theorem ok_pop : Pre A pPop (x :: vs) H Q E → rPop x vs H Q := fun h => by
  obtain ⟨v, F, S, d, ev, w, r, q⟩ := h.split1 (fun ds hd => by unfold pPop; split <;> first | (exfalso; exact hd _ rfl) | rfl)
  cases ev
  unfold pPop at q
  split at q
  · rename_i xs he
    injection he with e1
    subst e1
    split at q
    · rename_i d hd
      split at q
      · rename_i hn
        obtain ⟨a, us, S', rfl, sa, g, rl, qs⟩ := r
        have hF : ¬ F a := fun z => w.fs a z sa
        have hd' : xs[xs.length - 1]? = some d := by rw [← List.getLast?_eq_getElem?]; exact hd
        have rn : RL A F H xs us (fun _ => False) := RL.none hn rl
        obtain ⟨y, hy, ry⟩ := rn.get hd'
        rw [← rl.length] at hy
        refine ⟨a, us, y, rfl, rfl, g, hy, ?_⟩
        have ed : us.dropLast = us.take (xs.length - 1) := by rw [List.dropLast_eq_take, rl.length]
        have rd : RL A F H xs.dropLast us.dropLast (fun _ => False) := by
          rw [ed, List.dropLast_eq_take]
          exact rn.take _
        refine q y F S _ ⟨fun b hb nb => upd_ne (fun e => nb (by rw [e]; exact sa)), fun _ z => z, fun _ z => .inl z, fun _ z => .inl z, fun b hb => ?_⟩ ⟨w.fs, fun b z => ?_⟩ ⟨y, [.ref a], fun _ => False, S, rfl, ry.off hF (fun z => z), RL.one ⟨a, us.dropLast, fun _ => False, rfl, sa, upd_same, rd.off hF (fun z => z), fun _ z => z.elim⟩, fun _ z => z.elim, fun _ z => z⟩
        · by_cases e : b = a
          · rw [e, upd_same]; simp
          · rw [upd_ne e]; exact hb
        · by_cases e : b = a
          · rw [e, upd_same]; simp
          · rw [upd_ne e]; exact w.lv b z
      · exact q.elim
    · exact q.elim
  · exact q.elim
theorem ok_setL {v o i : V} : Pre A pSetL [v, o, i] H Q E → rSetL o i v H (fun H' => Q .non H') := fun h => by
  obtain ⟨F, S, d, e, f, S1, S2, S3, w, r1, r2, r3, q1, q2, q3, q⟩ := h.tri
  unfold pSetL at q
  split at q
  · rename_i d' xs k he
    injection he with e1 e2
    injection e2 with e2 e3
    injection e3 with e3 e4
    subst e1 e2 e3
    split at q
    · rename_i j hj
      obtain ⟨a, us, S', rfl, sa, g, rl, qs⟩ := r2
      have hF : ¬ F a := fun z => w.fs a z (q2 a sa).1
      have hlt := (ixN_seq hj).2.1
      refine ⟨a, us, k, j, rfl, r3, g, by rw [rl.length]; exact hj, SatP.set w (q2 a sa).1 (fun v h => h) q ?_⟩
      have hg : xs[j]? = some xs[j] := by simp [hlt]
      obtain ⟨v0, T1, T2, g0, r0, t1, t2, back⟩ := rl.focus hg
      have r2' : R A F (upd H a (.lst (us.set j v))) (.lst true (xs.set j d)) (.ref a) (fun b => S1 b ∨ S2 b) := by
        refine ⟨a, us.set j v, fun b => S1 b ∨ T2 b, rfl, .inr sa, upd_same, back F _ d v S1 _ (fun _ z => z) (fun b z => upd_ne fun e => ?_) (r1.off hF fun z => (q1 a z).2.1 sa) (fun b hb => ⟨.inl hb, fun z => (q1 b hb).2.1 (qs b (t2 b z)).1⟩) (fun b hb => .inr hb), fun b hb => ?_⟩
        · rcases z with z | z
          · exact hF (e ▸ z)
          · exact (qs a (t2 a (e ▸ z))).2 rfl
        · rcases hb with z | z
          · exact ⟨.inl z, fun e => (q1 b z).2.1 (by rw [e]; exact sa)⟩
          · exact ⟨.inr (qs b (t2 b z)).1, (qs b (t2 b z)).2⟩
      refine ⟨v, [.ref a, i], fun _ => False, S, rfl, trivial, RL.two r2' (r3.off hF fun z => (q2 a sa).2 z) (fun b hb => ?_) q3, fun _ z => z.elim, fun _ z => z⟩
      rcases hb with z | z
      · exact ⟨(q1 b z).1, (q1 b z).2.2⟩
      · exact q2 b z
    · exact q.elim
  · exact q.elim
end
section
variable {X : Cx} {A : Gm} {pr : List Nat} {W : WX} {pos p0 apos : Pos} {ea eb ev : Expr} {es : List Expr} {a b v : Op} {ops : List Op} {name : Str} {id T : String} {r : V → List V → Hp → VK → Prop} {p : Prim} {chk : D → Bool}
theorem ge_bm (pa : PlainAttrs T) (slot : Slot T name id) (hty : typeOf (.builtin id) = pure (.type "method_descriptor")) (hm : MtR X id r) (hchk : ∀ F H d x S, chk d = true → R A F H d x S → tyV X.K T x H) (hp : ∀ x vs H Q E, Pre A p (x :: vs) H Q E → r x vs H Q) (ho : GP X A pr W ev v) (ha : GL X A pr W (ea :: es) ops)
    (hb : attributeBase ev name X.env (eval ev X.env) = eval ev X.env := by rfl)
    (h1 : ((((backTo pos (starEach (ea :: es) X.env)).all fun x => !x.fst) && (backToKw pos (keywordEach [] X.env)).all fun x => x.fst.isSome) && decide (((ea :: es).length + ([] : List Keyword).length + if ([] : List Keyword).isEmpty = true then 0 else 1) < 30)) = true := by rfl)
    (h2 : (apos.endLine == pos.line) = true := by rfl) (h3 : starEach (ea :: es) X.env = (false, eval ea X.env) :: starEach es X.env := by rfl) (h4 : (backTo pos (starEach es X.env)).any (·.1) = false := by rfl) :
    GE X A pr W (.Call (.Attribute ev name apos) (ea :: es) [] pos) (evMt chk v ops p) :=
  PE_imp (pe_bm pa slot hty hm ho ha hb h1 h2 h3 h4) fun σ H Q h => GO.mono (g_meth h) fun x H1 h1 => by
    obtain ⟨⟨F, S, d, hc, r⟩, h1⟩ := h1
    exact ⟨hchk F H1 d x S hc r, GA.mono h1 fun vs H2 q => hp x vs H2 Q _ q.2⟩
theorem chk_lst : ∀ (F : FP) (H : Hp) (d : D) (x : V) (S : FP), isLst d = true → R A F H d x S → tyV X.K "list" x H := fun F H d x S h r => by
  cases d <;> first | (cases h; done) | skip
  rename_i o xs
  obtain ⟨a, vs, rfl, sq, rl⟩ := r.lst_sq (K := X.K)
  exact .inl ⟨rfl, vs, sq⟩
theorem ge_append (ho : GP X A pr W ev v) (ha : GL X A pr W (ea :: es) ops) (hb : attributeBase ev "append" X.env (eval ev X.env) = eval ev X.env := by rfl)
    (h1 : ((((backTo pos (starEach (ea :: es) X.env)).all fun x => !x.fst) && (backToKw pos (keywordEach [] X.env)).all fun x => x.fst.isSome) && decide (((ea :: es).length + ([] : List Keyword).length + if ([] : List Keyword).isEmpty = true then 0 else 1) < 30)) = true := by rfl)
    (h2 : (apos.endLine == pos.line) = true := by rfl) (h3 : starEach (ea :: es) X.env = (false, eval ea X.env) :: starEach es X.env := by rfl) (h4 : (backTo pos (starEach es X.env)).any (·.1) = false := by rfl) :
    GE X A pr W (.Call (.Attribute ev "append" apos) (ea :: es) [] pos) (evMt isLst v ops pAppend) :=
  ge_bm PySem.F.plainAttrs_list PySem.F.slot_list_append PySem.F.type_list_append mt_append chk_lst (fun _ _ _ _ _ h => ok_append h) ho ha hb h1 h2 h3 h4
end
end Fz

namespace Fz
open PySem L2

section
variable {X : Cx} {A : Gm} {pr : List Nat} {W : WX} {pos p0 apos : Pos} {ea eb ev : Expr} {es : List Expr} {a b v o i : Op} {ops : List Op}
theorem ge_extend (ho : GP X A pr W ev v) (ha : GL X A pr W (ea :: es) ops) (hb : attributeBase ev "extend" X.env (eval ev X.env) = eval ev X.env := by rfl)
    (h1 : ((((backTo pos (starEach (ea :: es) X.env)).all fun x => !x.fst) && (backToKw pos (keywordEach [] X.env)).all fun x => x.fst.isSome) && decide (((ea :: es).length + ([] : List Keyword).length + if ([] : List Keyword).isEmpty = true then 0 else 1) < 30)) = true := by rfl)
    (h2 : (apos.endLine == pos.line) = true := by rfl) (h3 : starEach (ea :: es) X.env = (false, eval ea X.env) :: starEach es X.env := by rfl) (h4 : (backTo pos (starEach es X.env)).any (·.1) = false := by rfl) :
    GE X A pr W (.Call (.Attribute ev "extend" apos) (ea :: es) [] pos) (evMt isLst v ops pExtend) :=
  ge_bm PySem.F.plainAttrs_list PySem.F.slot_list_extend PySem.F.type_list_extend mt_extend chk_lst (fun _ _ _ _ _ h => ok_extend h) ho ha hb h1 h2 h3 h4
/-- x[i] = e -/
theorem gs_setIx {eo ei ee : Expr} {tpos : Pos} {g : TSet} {p : Prim} (hs : PSet X g) (hp : ∀ v o i H Q E, Pre A p [v, o, i] H Q E → g o i v H fun H' => Q .non H') (he : GP X A pr W ee v) (ho : GP X A pr W eo o) (hi : GP X A pr W ei i)
    (ha : ∀ v, assign (.Subscript eo ei tpos) X.env v = (do
      let ov ← holding [v] (eval eo X.env)
      let iv ← holding [v, ov] (eval ei X.env)
      standAt tpos
      holding [v, ov, iv] (setItem ov iv v)
      release [v, ov, iv] []) := by intro _; rfl)
    (hsw : swapsWithSole [.Subscript eo ei tpos] ee pos.line X.env = pure false := by rfl) (hw : swappedStores [.Subscript eo ei tpos] ee X.env = pure none := by rfl)
    (h1 : (assignEach [.Subscript eo ei tpos] X.env).map (·.2) = [assign (.Subscript eo ei tpos) X.env] := by rfl) : GQ X A pr W (.Assign [.Subscript eo ei tpos] ee pos) (sDrop (evN [v, o, i] p)) :=
  PS_imp (ps_asg he (pg_sub ho hi hs ha) hsw hw h1) fun D σ H h => by
    have h' : G A pr W (evN [v, o, i] p) σ H fun x H' => D.nx σ H' := GS.expr h fun e ρ1 d v H' _ s1 q => q σ H' (s1.pop (τ := []) (ts := []))
    exact GO.mono (g_args3 h') fun x H1 h1 => GO.mono h1 fun y H2 h2 => GO.mono h2 fun z H3 h3 => hp x y z H3 _ _ h3
theorem gs_setL {eo ei ee : Expr} {tpos : Pos} (he : GP X A pr W ee v) (ho : GP X A pr W eo o) (hi : GP X A pr W ei i)
    (ha : ∀ v, assign (.Subscript eo ei tpos) X.env v = (do
      let ov ← holding [v] (eval eo X.env)
      let iv ← holding [v, ov] (eval ei X.env)
      standAt tpos
      holding [v, ov, iv] (setItem ov iv v)
      release [v, ov, iv] []) := by intro _; rfl)
    (hsw : swapsWithSole [.Subscript eo ei tpos] ee pos.line X.env = pure false := by rfl) (hw : swappedStores [.Subscript eo ei tpos] ee X.env = pure none := by rfl)
    (h1 : (assignEach [.Subscript eo ei tpos] X.env).map (·.2) = [assign (.Subscript eo ei tpos) X.env] := by rfl) : GQ X A pr W (.Assign [.Subscript eo ei tpos] ee pos) (sDrop (evN [v, o, i] pSetL)) :=
  gs_setIx set_list (fun _ _ _ _ _ _ h => ok_setL h) he ho hi ha hsw hw h1
end

/-! ### dicts with text keys -/
def keyAt (ks : List Str) (k : Str) : Option Nat := ks.findIdx? (· == k)
def pDGet : Prim := fun ds => match ds with
  | [.dct o ks xs, .str k] => match keyAt ks k with
    | some j => match xs[j]? with
      | some d => if nw d then .ok d [.dct o ks xs, .str k] else .bad
      | none => .bad
    | none => .bad
  | _ => .bad
/-- [value, dict, key], the key is there -/
def pDSet : Prim := fun ds => match ds with
  | [d, .dct true ks xs, .str k] => match keyAt ks k with
    | some j => if decide (ks.length ≤ 1000) && decide (j < xs.length) && decide ks.Nodup then .ok .non [.any, .dct true ks (xs.set j d), .str k] else .bad
    | none => .bad
  | _ => .bad
section
variable {A : Gm} {F S T : FP} {H : Hp} {Q : VK} {E : XK} {X : Cx}
theorem valV_at : ∀ {ks : List Str} {vs : List V} {k : Str} {j : Nat} {v : V}, keyAt ks k = some j → vs[j]? = some v → valV ((ks.map Sum.inr).zip vs) (Sum.inr k : Key) = some v
  | [], vs, k, j, v, h, hv => by simp [keyAt] at h
  | q :: ks, [], k, j, v, h, hv => by simp at hv
  | q :: ks, w :: vs, k, j, v, h, hv => by
    unfold keyAt at h
    rw [List.findIdx?_cons] at h
    show valV ((Sum.inr q, w) :: (ks.map Sum.inr).zip vs) (Sum.inr k : Key) = some v
    split at h
    · rename_i hq
      cases h
      have e : q = k := by simpa using hq
      subst e
      rw [valV_pos rfl]
      simpa using hv
    · rename_i hq
      rw [Option.map_eq_some_iff] at h
      obtain ⟨i, hi, rfl⟩ := h
      rw [valV_neg (fun e => hq (by simpa using Sum.inr.inj e))]
      exact valV_at hi (by simpa using hv)
theorem putK_at : ∀ {ks : List Str} {vs : List V} {k : Str} {j : Nat} {v : V}, keyAt ks k = some j → j < vs.length → ks.Nodup → putK ((ks.map Sum.inr).zip vs) (Sum.inr k : Key) v = (ks.map Sum.inr).zip (vs.set j v)
  | ks, vs, k, j, v, h, hj, nd => by
    have hk : ks[j]? = some k := by
      unfold keyAt at h
      rw [List.findIdx?_eq_some_iff_getElem] at h
      obtain ⟨hl, hp, _⟩ := h
      have : ks[j] = k := by simpa using hp
      rw [List.getElem?_eq_getElem hl, this]
    have hjl : j < ks.length := (List.getElem?_eq_some_iff.mp hk).1
    have hany : (((ks.map Sum.inr).zip vs).any fun kv => decide (kv.1 = (Sum.inr k : Key))) = true := by
      rw [List.any_eq_true]
      refine ⟨(Sum.inr k, vs[j]), ?_, by simp⟩
      rw [List.mem_iff_getElem?]
      refine ⟨j, ?_⟩
      rw [List.getElem?_zip_eq_some]
      exact ⟨by simp [hk], by simp [hj]⟩
    unfold putK
    rw [if_pos hany]
    apply List.ext_getElem?
    intro i
    rw [List.getElem?_map]
    by_cases hi : i < ks.length ∧ i < vs.length
    · have e1 : ((ks.map Sum.inr).zip vs)[i]? = some ((Sum.inr ks[i] : Key), vs[i]) := by
        rw [List.getElem?_zip_eq_some]
        exact ⟨by simp [hi.1], by simp [hi.2]⟩
      rw [e1, Option.map_some]
      by_cases hij : i = j
      · subst hij
        have : ks[i] = k := by
          rw [List.getElem?_eq_getElem hi.1] at hk
          exact Option.some.inj hk
        rw [if_pos (by rw [this])]
        symm
        rw [List.getElem?_zip_eq_some]
        exact ⟨by simp [hi.1], by simp [hi.2]⟩
      · have hne : ks[i] ≠ k := fun e => hij ((List.getElem?_inj hi.1 nd).mp (by rw [hk, List.getElem?_eq_getElem hi.1, e]))
        rw [if_neg (by simpa using hne)]
        symm
        rw [List.getElem?_zip_eq_some]
        exact ⟨by simp [hi.1], by rw [List.getElem?_set_ne (Ne.symm hij)]; simp [hi.2]⟩
    · have n1 : ((ks.map (Sum.inr : Str → Key)).zip vs)[i]? = none := by
        rw [List.getElem?_eq_none_iff, List.length_zip, List.length_map]
        omega
      have n2 : ((ks.map (Sum.inr : Str → Key)).zip (vs.set j v))[i]? = none := by
        rw [List.getElem?_eq_none_iff, List.length_zip, List.length_map, List.length_set]
        omega
      rw [n1, n2]; rfl
theorem R.dct_at {o : Bool} {ks : List Str} {xs : List D} {x : V} (r : R A F H (.dct o ks xs) x S) : ∃ a vs, x = .ref a ∧ H a = some (.dK ((ks.map Sum.inr).zip vs)) ∧ vs.length = ks.length ∧ RL A F H xs vs S := by
  cases o with
  | true =>
    obtain ⟨a, vs, S', e, f, g, l, rl, q⟩ := r
    exact ⟨a, vs, e, g, l, rl.mono fun b hb => (q b hb).1⟩
  | false =>
    obtain ⟨a, vs, e, f, g, l, rl⟩ := r
    exact ⟨a, vs, e, g, l, rl.mono fun b hb => hb.elim⟩
theorem ok_dget {x y : V} : Pre A pDGet [x, y] H Q E → (∃ a v, x = .ref a ∧ DGet H a y (some v) ∧ Q v H) := fun h => by
  obtain ⟨F, S, d, e, S1, S2, w, r1, r2, q1, q2, q⟩ := h.bi
  unfold pDGet at q
  split at q
  · rename_i o ks xs k he
    injection he with e1 e2
    injection e2 with e2 e3
    subst e1 e2
    split at q
    · rename_i j hj
      split at q
      · rename_i d hd
        split at q
        · rename_i hn
          obtain ⟨a, vs, rfl, g, l, rl⟩ := r1.dct_at
          obtain ⟨v, hv, r⟩ := rl.get hd
          have e2 : y = .str k := r2
          subst e2
          exact ⟨a, v, rfl, .inl ⟨_, Sum.inr k, .inl g, rfl, (valV_at hj hv).symm⟩, SatP.same w (RL.two r1 r2 q1 q2) q (R.none hn r)⟩
        · exact q.elim
      · exact q.elim
    · exact q.elim
  · exact q.elim
theorem ok_dset {v o i : V} : Pre A pDSet [v, o, i] H Q E → rSetD o i v H (fun H' => Q .non H') := fun h => by
  obtain ⟨F, S, d, e, f, S1, S2, S3, w, r1, r2, r3, q1, q2, q3, q⟩ := h.tri
  unfold pDSet at q
  split at q
  · rename_i d' ks xs k he
    injection he with e1 e2
    injection e2 with e2 e3
    injection e3 with e3 e4
    subst e1 e2 e3
    split at q
    · rename_i j hj
      split at q
      · rename_i hc
        simp only [Bool.and_eq_true, decide_eq_true_eq] at hc
        obtain ⟨⟨hz, hlt⟩, nd⟩ := hc
        obtain ⟨a, us, S', rfl, sa, g, l, rl, qs⟩ := r2
        have hF : ¬ F a := fun z => w.fs a z (q2 a sa).1
        have e3 : i = .str k := r3
        subst e3
        have hju : j < us.length := by rw [rl.length]; exact hlt
        refine ⟨a, _, rfl, .inl ⟨_, Sum.inr k, g, rfl, by rw [List.length_zip, List.length_map]; exact Nat.lt_of_le_of_lt (Nat.min_le_left _ _) (Nat.lt_of_le_of_lt hz (by decide)), rfl⟩, ?_⟩
        rw [putK_at hj hju nd]
        refine SatP.set w (q2 a sa).1 (fun v h => h) q ?_
        have hg : xs[j]? = some xs[j] := by simp [hlt]
        obtain ⟨v0, T1, T2, g0, r0, t1, t2, back⟩ := rl.focus hg
        have r2' : R A F (upd H a (.dK ((ks.map Sum.inr).zip (us.set j v)))) (.dct true ks (xs.set j d)) (.ref a) (fun b => S1 b ∨ S2 b) := by
          refine ⟨a, us.set j v, fun b => S1 b ∨ T2 b, rfl, .inr sa, upd_same, by rw [List.length_set]; exact l, back F _ d v S1 _ (fun _ z => z) (fun b z => upd_ne fun e => ?_) (r1.off hF fun z => (q1 a z).2.1 sa) (fun b hb => ⟨.inl hb, fun z => (q1 b hb).2.1 (qs b (t2 b z)).1⟩) (fun b hb => .inr hb), fun b hb => ?_⟩
          · rcases z with z | z
            · exact hF (e ▸ z)
            · exact (qs a (t2 a (e ▸ z))).2 rfl
          · rcases hb with z | z
            · exact ⟨.inl z, fun e => (q1 b z).2.1 (by rw [e]; exact sa)⟩
            · exact ⟨.inr (qs b (t2 b z)).1, (qs b (t2 b z)).2⟩
        refine ⟨v, [.ref a, .str k], fun _ => False, S, rfl, trivial, RL.two r2' (r3.off hF fun z => (q2 a sa).2 z) (fun b hb => ?_) q3, fun _ z => z.elim, fun _ z => z⟩
        rcases hb with z | z
        · exact ⟨(q1 b z).1, (q1 b z).2.2⟩
        · exact q2 b z
      · exact q.elim
    · exact q.elim
  · exact q.elim
end
section
variable {X : Cx} {A : Gm} {pr : List Nat} {W : WX} {pos p0 apos : Pos} {ea eb ev : Expr} {es : List Expr} {a b v o i : Op} {ops : List Op}
theorem ge_dget (hu : X.A.units + 1 < cLine) (ha : GP X A pr W ea a) (hb : GP X A pr W eb b) (hs : NoSl eb) : GE X A pr W (.Subscript ea eb pos) (evN [a, b] pDGet) :=
  PE_imp (pe_dget hu ha hb hs) fun σ H Q h => GO.mono (g_args2 h) fun x H1 h1 => GO.mono h1 fun y H2 h2 => ok_dget h2
theorem gs_setD {eo ei ee : Expr} {tpos : Pos} (hu : X.A.units + 1 < cLine) (he : GP X A pr W ee v) (ho : GP X A pr W eo o) (hi : GP X A pr W ei i)
    (ha : ∀ v, assign (.Subscript eo ei tpos) X.env v = (do
      let ov ← holding [v] (eval eo X.env)
      let iv ← holding [v, ov] (eval ei X.env)
      standAt tpos
      holding [v, ov, iv] (setItem ov iv v)
      release [v, ov, iv] []) := by intro _; rfl)
    (hsw : swapsWithSole [.Subscript eo ei tpos] ee pos.line X.env = pure false := by rfl) (hw : swappedStores [.Subscript eo ei tpos] ee X.env = pure none := by rfl)
    (h1 : (assignEach [.Subscript eo ei tpos] X.env).map (·.2) = [assign (.Subscript eo ei tpos) X.env] := by rfl) : GQ X A pr W (.Assign [.Subscript eo ei tpos] ee pos) (sDrop (evN [v, o, i] pDSet)) :=
  gs_setIx (set_dict hu) (fun _ _ _ _ _ _ h => ok_dset h) he ho hi ha hsw hw h1
end

/-! ### calls of the program's own defs -/
section
variable {X : Cx} {A : Gm} {pr : List Nat} {W : WX} {pos p0 apos kpos : Pos} {ea eb ev : Expr} {es : List Expr} {v : Op} {ops : List Op} {x m : Str} {k np : Nat} {f C : Addr} {fd : FuncData} {ps : List Str} {p : Prim}
theorem ge_call (Fn : FnOk X.prog X.w X.K X.mg X.base (L2.CX X.prog X.w) k f fd ps (spF A np p)) (tk : Takes X W) (hr : Room k X.A) (hg : Gl X x) (hm : X.mg x = some (.ref f)) (hk : PySem.W.keepIn X.K (.ref f) = true) (hb : Binds X.K fd ps []) (hnp : ops.length = np)
    (ha : GL X A pr W (ea :: es) ops) (hdb : (x == ("__debug__" : Str)) = false := by decide) (he : starEach (ea :: es) X.env = (false, eval ea X.env) :: starEach es X.env := by rfl) (hpl : (backTo pos (starEach es X.env)).any (·.1) = false := by rfl) :
    GE X A pr W (.Call (.Name x p0) (ea :: es) [] pos) (evN ops p) :=
  PE_imp (pe_callS Fn hr hg hm hk hb (fun σ => passAt tk σ) ha hdb he hpl) fun σ H Q h => by
    have h2 := g_argsL h
    rw [hnp] at h2
    exact h2
end
end Fz

namespace Fz
open PySem L2

/-! ### error classes: __init__ says super().__init__(value), then self.value = value -/
/-- what the written part says of the class at C, whose __init__ is that of the class at D -/
structure InC (K : PySem.W.Frag) (D C : Addr) : Prop where
  ox : OexC K C
  no : PySem.W.findIn K (.ref C) "value" = some none
  mro : PySem.W.mroIn K C (.ref D) = some true
  sup : PySem.W.ks_superIn K C D "__init__" = some (some (.builtin "ValueError.__init__"))
  sub : PySem.W.subIn K (.ref C) (.type "ValueError") = some true
def initSp (K : PySem.W.Frag) (D : Addr) : Sp := fun vs H Q E => ∃ (a C : Addr) (y : V), vs = [.ref a, y] ∧ InC K D C ∧ H a = some (exo a C none) ∧
  ∀ dx, H dx = none → dx ≠ a → Q .non (upd (upd H dx (exd dx [(("value" : Str), y)])) a (exo a C (some dx)))
/-- what is told of the def itself -/
structure InF (P : Program) (K : PySem.W.Frag) (mg : Str → Option Value) (f D : Addr) (fd : FuncData) : Prop where
  ex : ∃ (name qual : Str) (params : Arguments) (scope : Scope) (dV kV doc pm ct oc ccl cl : Value) (an od cdd cld : Option Addr) (osl ccs csl : Array (Option Value)) (cc cda : Addr) (vs : Array Value) (file : Str) (tf : Tok) (cdD : ClassData) (ar : Arg) (p0 p1 p2 p3 p4 p5 p6 p7 p8 p9 : Pos),
    fd = PySem.W.ksFn name qual params [.Expr (.Call (.Attribute (.Call (.Name "super" p0) [] [] p1) "__init__" p2) [.Name "value" p3] [] p4) p5, .Assign [.Attribute (.Name "self" p6) "value" p7] (.Name "value" p8) p9] scope dV kV doc pm an (.ref cda) ct cc ∧
    K.lookup f = some ⟨oc, od, .func fd, osl⟩ ∧ PySem.W.codeIn K (.ref cda) qual = true ∧ K.lookup cda = some ⟨ccl, cdd, .fields vs, ccs⟩ ∧ vs[2]? = some (.str file tf) ∧ ((P.main.file : Str) == file) = true ∧
    K.lookup cc = some ⟨cl, cld, .cell (some (.ref D)), csl⟩ ∧ PySem.W.clsIn K D = some cdD ∧ PySem.W.nsIn K PySem.cStatics "thirdparty.any" = some none ∧ mg "super" = none ∧
    (params.posonlyargs ++ params.args).head? = some ar ∧ ar.arg = "self" ∧ scope.names.lookup ("super" : Str) = some .globalImplicit ∧ scope.names.lookup ("__class__" : Str) = some .free ∧ scope.names.lookup ("self" : Str) = some .local ∧ scope.names.lookup ("value" : Str) = some .local ∧
    scope.kind = .function ∧ scope.isCoroutine = false ∧ scope.isGenerator = false ∧ (∀ x ∈ scope.names, x.2 ≠ .cell) ∧ (P.main.scope.names.lookup ("super" : Str)).isSome = false ∧
    ∃ pl : Sem Bool, ∀ (L : Addr) (env : PySem.Env), env = PySem.W.ksEnv qual scope L f (.ref cda) cc → eval (.Call (.Attribute (.Call (.Name "super" p0) [] [] p1) "__init__" p2) [.Name "value" p3] [] p4) env = (do
      let ov ← attributeBase (.Call (.Name "super" p0) [] [] p1) "__init__" env (eval (.Call (.Name "super" p0) [] [] p1) env)
      standAt p2.atName
      let (f, first) ← holding [ov] (getMethod ov "__init__" pl)
      callWith p4 f first (backTo p4 (starEach [.Name "value" p3] env)) [])

section
variable {prog : Program} {w : World} {A : Around} {E : Value → Shared → Prop} {h : Heap} {g : Array GenState} {d : Drawn} {t : Nat} {os : OsState}
variable {nm q : Str} {C N : Addr} {bs bm : List Value} {hdct : Bool} {sn : List Str} {sub : List Value} {ab : Bool} {col : Option Bool} {dd : Option Addr} {k0 k1 k2 k3 k5 : Option Value}
theorem call_bwV {u e t0 : Addr} {rest : List Value} {Q : Value → Shared → Prop}
    (hC : h.get? C = some (excClassObj nm q C N bs bm hdct sn sub ab col dd k0 k1 k2 k3 k5 "ValueError.__new__")) (he : h.get? e = some (HandSPX.excO C t0)) (hu : h.get? u = some (PySem.W.kxs_mw "ValueError.__init__" e)) (hrest : rest.length ≤ sizeLine)
    (hq : ∀ h' t1, (∀ b o, b ≠ e → h.get? b = some o → h'.get? b = some o) → h'.get? e = some (HandSPX.excO C t1) → Q .none ⟨h', g, d, t, os⟩) :
    wpAny (model prog w) A (call (.ref u) rest) Q E ⟨h, g, d, t, os⟩ := by
  refine wpAny_call (codeAny_of_tree ?_)
  show wpAny _ A.in1 (callAny (.ref u) ⟨rest, []⟩) _ _ _
  simp only [callAny]
  refine wpAny_bind (wpAny_load hu ?_)
  simp only [PySem.W.kxs_mw, show (Value.type "method-wrapper" == Value.type "method" || Value.type "method-wrapper" == Value.type "builtin_function_or_method" || Value.type "method-wrapper" == Value.type "method-wrapper") = true by decide, if_true]
  refine PySem.W.KFB.if_so (by decide) ?_
  refine wpAny_bind (PySem.W.check_bound_init F.excBase_ValueError.toExcCallFacts hC he rfl ?_)
  refine wpAny_bind (wpAny_pure (wpAny_pure ?_))
  refine ⟨plainId_quiet F.excBase_ValueError.init.plain _, codeAny_builtin F.excBase_ValueError.initEntry ?_⟩
  rw [Around.under_plainId F.excBase_ValueError.init.plain _]
  wp_walk
  refine hq _ h.objs.size (fun b o hb ho => ?_) ?_
  · rw [Heap.get?_update_other _ _ (Ne.symm hb)]
    exact Heap.get?_push_of_some _ ho
  · rw [Heap.get?_update_self _ (Heap.get?_push_of_some _ he) rfl]
    rfl
end

theorem init_fnok {P : Program} {w : World} {K : PySem.W.Frag} {mg : Str → Option Value} {base : Heap} {f D : Addr} {fd : FuncData} (F : InF P K mg f D fd) : FnOk P w K mg base (L2.CX P w) 1 f fd ["self", "value"] (initSp K D) := by
  refine ⟨fun vs H Q E h => by obtain ⟨a, C, y, rfl, _⟩ := h; rfl, fun A outer s H args us vs Q E hr e0 hb r h => ?_⟩
  obtain ⟨a, C, y, rfl, T, ea, q⟩ := h
  obtain ⟨u1, u2, rfl, r1, r2⟩ := vals2 r
  cases (show u1 = Value.ref a from r1)
  obtain ⟨name, qual, params, scope, dV, kV, doc, pm, ct, oc, ccl, cl, an, od, cdd, cld, osl, ccs, csl, cc, cda, vs, file, tf, cdD, ar, p0, p1, p2, p3, p4, p5, p6, p7, p8, p9, rfl, lk, hcd, hcode, hvs, hfile, hcell, hD, hopq, hsm, hp, har, hks, hkc, hkse, hkv, hk, hco, hgen, hnc, htop, pl, hev⟩ := F.ex
  have KX : K.In s.heap := e0.mod.kin.keeps fun b o e => (e0.bs b o e).1
  have lim : s.heap.NoLimit := e0.mod.nolimit.keeps fun b o e => (e0.bs b o e).1
  refine PySem.ks_codeAny_call_defAt hr.depth (KX _ _ lk) rfl lim (PySem.W.codeRec_of KX hcd) rfl hb hnc (fun x hx => ?_) (fun h₀ hns hk₀ => ?_) hco hgen hk
  · rcases List.mem_cons.mp hx with rfl | hx
    · exact hkse
    · rcases List.mem_cons.mp hx with rfl | hx
      · exact hkv
      · cases hx
  show PySem.wpAt _ _ (.func _ (PySem.W.ksEnv qual scope s.heap.objs.size f (.ref cda) cc)) (execs _ (PySem.W.ksEnv qual scope s.heap.objs.size f (.ref cda) cc)) _ _ _
  have kk : ∀ b o, s.heap.get? b = some o → h₀.get? b = some o := hk₀
  have K0 : K.In h₀ := KX.keeps kk
  obtain ⟨t1, hoe⟩ := exo_at e0.hok ea
  have bk : ∀ b o, base.get? b = some o → h₀.get? b = some o := fun b o e => kk _ _ (e0.bs b o e).1
  obtain ⟨oD, hD1, hD2⟩ : ∃ oD, h₀.get? D = some oD ∧ oD.data = .cls cdD := by
    unfold PySem.W.clsIn at hD
    split at hD
    · rename_i c d cd' sl ho
      cases hD
      exact ⟨_, K0 _ _ ho, rfl⟩
    · cases hD
  refine ks_wpAt_execs_cons (ks_wpAt_Expr_any (ks_wpAt_MethodCall ?_ (hev _ _ rfl)) (by unfold interactive; simp [PySem.W.envX, hk]))
  refine ks_wpAt_super_base (env := PySem.W.ksEnv qual scope s.heap.objs.size f (.ref cda) cc) hks hkc (by decide) rfl (K0 _ _ lk) rfl hp rfl (K0 _ _ hcode) rfl hvs hfile htop ?_
  obtain ⟨mb, hb1, hb2⟩ := e0.mod.blt
  refine PySem.W.ks_loadName_global hk hks (Calls.loadGlobal_builtin (env := PySem.W.ksEnv qual scope s.heap.objs.size f (.ref cda) cc) (e0.mod.glob.keeps bk) hsm (hb1.keeps bk) ((hb2 "super" (by decide)).trans PyProof.Rows.Boot.«super») ⟨rfl, ?_⟩)
  refine wpAny_loadName_free hk hkc rfl ⟨_, K0 _ _ hcell, rfl⟩ ?_
  rw [har]
  refine wpAny_loadName_local hk hkse hns rfl ?_
  refine ks_wpAny_isType_cls hD1 hD2 ⟨rfl, ?_⟩
  obtain ⟨h, g, d, t, os⟩ := s
  dsimp only at *
  refine ks_wpAny_call_super hD1 hD2 (kk _ _ hoe) rfl (fun c e => by cases e) (PySem.W.looks_mroIn K0 T.mro) (fun h1 e1 k1 => ?_)
  have K1 : K.In h1 := K0.keeps k1
  have hxC : a ≠ C := fun e => by
    obtain ⟨nm, q, N, bs, bm, sn, sub, ab, col, dd, c0, c1, c2, c3, c5, hC, hbm⟩ := T.ox.cls
    have z := KX _ _ hC
    rw [← e, hoe] at z
    cases z
  have hI1 : PySem.W.InstAt h1 a { cls := .ref C, dict := none, data := .fields #[.ref t1, .none, .none, .none, .bool false, .none] } C none := ⟨k1 _ _ (kk _ _ hoe), rfl, rfl, trivial⟩
  obtain ⟨nm, q', N, bs, bm, sn, sub, ab, col, dd, c0, c1, c2, c3, c5, hC, hbm⟩ := T.ox.cls
  have hcl : PySem.W.clsIn K C = some { name := nm, bases := bs, mro := .ref C :: bm, ns := N, qualname := q', hasDict := true, slotNames := sn, subclasses := sub, abstract := ab, collection := col, hasDel := false } := by unfold PySem.W.clsIn; rw [hC] <;> rfl
  have hal := T.sup
  unfold PySem.W.ks_superIn at hal
  rw [hcl] at hal
  refine PySem.W.kxs_getMethod PySem.W.kxs_ValueError e1 (PySem.W.looks_opaque K1 hopq) (l₀ := .ref C :: bm) (fun A Q E s k q => wpAny_bind ((PySem.W.looks_clsIn K1 hcl) A _ E s k (wpAny_pure q))) rfl K1 hal (hI1.type.andThen (PySem.W.looks_subIn K1 T.sub)) hxC (by decide) ?_
  have hs1 : starEach [Expr.Name "value" p3] (PySem.W.ksEnv qual scope h.objs.size f (.ref cda) cc) = (false, eval (.Name "value" p3) (PySem.W.ksEnv qual scope h.objs.size f (.ref cda) cc)) :: starEach [] (PySem.W.ksEnv qual scope h.objs.size f (.ref cda) cc) := rfl
  have hu1 : (h1.push (PySem.W.kxs_mw "ValueError.__init__" a)).get? h1.objs.size = some (PySem.W.kxs_mw "ValueError.__init__" a) := Heap.get?_push_at rfl rfl
  have k2 : ∀ b o, h1.get? b = some o → (h1.push (PySem.W.kxs_mw "ValueError.__init__" a)).get? b = some o := fun b o e => Heap.get?_push_of_some _ e
  rw [hs1]
  refine PySem.W.kxs_callWith (i := "ValueError.__init__") (x := a) rfl (Calls.evalArgs_plain (Calls.spliced_cons (wpAny_Name (wpAny_loadName_local hk hkv ((hns.keeps k1).keeps k2) (v := u2) rfl (Calls.spliced_nil ⟨hu1, ?_⟩)) (by decide))))
  refine call_bwV (k2 _ _ (k1 _ _ (kk _ _ (KX _ _ hC)))) (k2 _ _ (k1 _ _ (kk _ _ hoe))) hu1 (by show 1 ≤ sizeLine; rw [sizeLine_eq]; omega) (fun h3 t3 k3 hx3 => ?_)
  have hLa : h.objs.size ≠ a := fun e => absurd (Heap.lt_size hoe) (by rw [← e]; exact Nat.lt_irrefl _)
  have hn3 := Heap.Ns.at' ((hns.keeps k1).keeps k2) (h' := h3) (fun o e => k3 _ _ hLa e)
  have K3 : K.In h3 := fun b o e => k3 b o (fun z => by
    have := (e0.bs b o (e0.mod.kin b o e)).2
    rw [z, ea] at this
    cases this) (k2 _ _ (k1 _ _ (kk _ _ (KX _ _ e))))
  refine ks_wpAt_execs_cons (ks_wpAt_Assign_Attr (wpAt_of_wpAny (wpAny_Name (wpAny_loadName_local hk hkv hn3 (v := u2) rfl (wpAny_Name (wpAny_loadName_local hk hkse hn3 (v := .ref a) rfl ?_) (by decide))) (by decide))))
  refine PySem.W.set_plain K3 (ox := { cls := .ref C, dict := none, data := .fields #[.ref t3, .none, .none, .none, .bool false, .none] }) (od := none) ⟨hx3, rfl, rfl, trivial⟩ T.ox.sa ?_
  refine PySem.HandSPX.exc_osa K3 hx3 hcl (show PySem.HandSPX.refsVE (.ref C :: bm) = true from hbm) rfl T.no (fun h4 tk4 dx k4 dn dne hx4 hn4 => ?_)
  refine wpAt_of_wpAny (wpAny_execs_nil ?_)
  have hdx : h.objs.size ≤ dx := Nat.le_trans (Nat.le_of_lt hn3.lt) dn
  have hnd : H dx = none := e0.hok.fresh hdx
  have kf : ∀ b o, b ≠ a → h.get? b = some o → h4.get? b = some o := fun b o hb e => k4 b o hb (k3 b o hb (k2 _ _ (k1 _ _ (kk _ _ e))))
  have nd : ∀ {b : Addr} {o : Obj}, h.get? b = some o → b ≠ dx := fun {b o} q => Nat.ne_of_lt (Nat.lt_of_lt_of_le (Heap.lt_size q) hdx)
  have na : ∀ {b : Addr}, H b = none → b ≠ a := fun {b} n z => by
    rw [z, ea] at n
    cases n
  refine ⟨.non, _, rfl, e0.bare, ?_, ?_, rfl, q dx hnd dne⟩
  · exact {
      keep := fun b o q n _ _ => kf b o (na n) q
      slot := fun b o q n _ _ => ⟨o.slots, kf b o (na n) q⟩
      free := fun b o q n _ => by rw [upd_ne (na n), upd_ne (nd q)]; exact n
      there := fun b o q _ => by
        by_cases hb : b = a
        · exact ⟨_, by rw [hb]; exact hx4⟩
        · exact ⟨o, kf b o hb q⟩
      tups := fun b xs q => by rw [upd_ne (at_ne ea q exo_tup), upd_ne (ne_of_none q hnd)]; exact q
      frzs := fun b o v q => by rw [upd_ne (at_ne ea q exo_frz), upd_ne (ne_of_none q hnd)]; exact q
      tbls := fun b ps q => ⟨#[], by rw [upd_ne (at_ne ea q exo_tbl), upd_ne (ne_of_none q hnd), q]; simp⟩ }
  · intro b o q
    by_cases hb : b = a
    · subst hb
      rw [upd_same] at q
      cases q
      exact exo_ok hx4
    · rw [upd_ne hb] at q
      by_cases hd : b = dx
      · subst hd
        rw [upd_same] at q
        cases q
        exact exd_ok hn4 (relO_put (fs := []) r2 fun g => True.intro)
      · rw [upd_ne hd] at q
        exact (e0.hok b o q).stay (fun c v hc z => kf c v (by
            rcases hc with hc | hc
            · rw [hc]
              exact hb
            · exact at_ne ea hc exo_own) z)
          (fun c hc => by rw [upd_ne (at_ne ea hc exo_own), upd_ne (ne_of_none hc hnd)]; exact hc) (fun c xs hc => by rw [upd_ne (at_ne ea hc exo_tup), upd_ne (ne_of_none hc hnd)]; exact hc)

/-! ### C(e) as a value, C(value = e), raise C(e) -/
section
variable {prog : Program} {w : World} {A : Around} {E : Value → Shared → Prop} {R : Result → Shared → Prop} {h : Heap} {g : Array GenState} {d : Drawn} {t : Nat} {os : OsState}
variable {nm q : Str} {C N : Addr} {bs bm bmB : List Value} {hdct : Bool} {sn : List Str} {sub : List Value} {ab : Bool} {col : Option Bool} {dd : Option Addr} {k0 k1 k2 k3 k5 : Option Value} {B newId initId : String}
theorem check_new_ownK (F : ExcBaseFacts B newId initId bmB) (hT : ∀ X : String, bm.contains (.type X) = bmB.contains (.type X)) {rest : List Value} {kw : List (Str × Value)} {Q : Unit → Shared → Prop} {M : Model}
    (hC : h.get? C = some (excClassObj nm q C N bs bm hdct sn sub ab col dd k0 k1 k2 k3 k5 newId)) (hq : Q () ⟨h, g, d, t, os⟩) : wpAny M A (checkBuiltinCall newId ⟨.ref C :: rest, kw⟩) Q E ⟨h, g, d, t, os⟩ := by
  have hcont : (Value.ref C :: bm).contains (.type B) = true := by rw [List.contains_cons, hT, F.hasB, Bool.or_true]
  have hstar := F.noStar
  simp only [checkBuiltinCall, F.newKind, F.newSplit, F.newRow]
  repeat (first | refine wpAny_loadPart_at hC ?_ | (refine wpAny_isSubtype_exc hC ?_; rw [hcont]) | refine wpAny_staticBase_exc hC ?_ | refine wpAny_madeBy_exc hC ?_ | simp only [bne_self_eq_false, Bool.false_eq_true, if_false] | wp_step)
  exact hq
theorem new_ownK (F : ExcBaseFacts B newId initId bmB) (hT : ∀ X : String, bm.contains (.type X) = bmB.contains (.type X)) {rest : List Value} {kw : List (Str × Value)}
    (hC : h.get? C = some (excClassObj nm q C N bs bm hdct sn sub ab col dd k0 k1 k2 k3 k5 newId))
    (hq : R (.ok (.ret (.ref (h.objs.size + 1)))) ⟨(h.push { cls := .type "tuple", data := .seq rest.toArray }).push
      { cls := .ref C, data := .fields #[.ref h.objs.size, .none, .none, .none, .bool false, .none] }, g, d, t, os⟩) (hrest : rest.length ≤ sizeLine) :
    codeAny (model prog w) A (.builtin newId ⟨.ref C :: rest, kw⟩) R ⟨h, g, d, t, os⟩ := by
  have hends := F.ends
  have hcB : (Value.ref C :: bm).contains (.type B) = true := by rw [List.contains_cons, hT, F.hasB, Bool.or_true]
  have hcA : (Value.ref C :: bm).contains (.type "AttributeError") = false := by rw [List.contains_cons, hT, F.noAttr]; rfl
  have hcN : (Value.ref C :: bm).contains (.type "NameError") = false := by rw [List.contains_cons, hT, F.noName]; rfl
  refine codeAny_builtinAt F.entry ?_
  unfold Builtin.«BaseException.__new__»
  refine wpAt_bind ?_
  show wpAt _ _ _ (stack >>= _) _ _ _
  refine wpAt_bind (wpAt_stack fun p below => wpAt_of_wpAny ?_)
  wp_walk
  refine wpAt_of_wpAny ?_
  rw [F.owner]
  repeat (first | with_reducible refine wpAny_madeHere_exc F.canon hC ?_ | with_reducible refine wpAny_loadPart_at hC ?_ | (with_reducible refine wpAny_isSubtype_exc hC ?_; first | rw [hcB] | rw [hcA] | rw [hcN]) | wp_step)
  show R _ _
  rw [Heap.size_push]
  exact hq
theorem type_call_ownK (F : ExcBaseFacts B newId initId bmB) (hT : ∀ X : String, bm.contains (.type X) = bmB.contains (.type X)) {rest : List Value} {kw : List (Str × Value)} {fI : Addr} {Q : Fin → Shared → Prop}
    (hC : h.get? C = some (excClassObj nm q C N bs bm hdct sn sub ab col dd k0 k1 k2 k3 k5 newId))
    (hi : W.Looks (model prog w) h (typeLookup (.ref C) "__init__") (some (.ref fI))) (hb : ∀ self, W.Looks (model prog w) h (bindSpecial (.ref fI) self) (.ref fI, [self])) (hrest : rest.length ≤ sizeLine)
    (hq : codeAny (model prog w) A (.call (.ref fI) ⟨.ref (h.objs.size + 1) :: rest, kw⟩)
      (fun r s' => match r with | .ok (.ret v) => v = .none ∧ Q (.done (.ret (.ref (h.objs.size + 1)))) s' | .ok _ => False | .error e => E e s')
      ⟨(h.push (W.kdv_tup rest)).push (HandSPX.excO C h.objs.size), g, d, t, os⟩) :
    wpAny (model prog w) A (Builtin.«type.__call__» ⟨.ref C :: rest, kw⟩) Q E ⟨h, g, d, t, os⟩ := by
  unfold Builtin.«type.__call__»
  repeat (first | with_reducible refine wpAny_loadPart_at hC ?_ | with_reducible refine wpAny_madeBy_exc hC ?_ | wp_step)
  refine codeAny_call_builtin_code (Code.quiet_builtin _ F.quiet) (check_new_ownK F hT hC ?_)
  refine new_ownK F hT hC ?_ hrest
  show wpAny _ _ _ _ _ _
  have k : ∀ b o, h.get? b = some o → ((h.push (W.kdv_tup rest)).push (HandSPX.excO C h.objs.size)).get? b = some o := fun b o e => Heap.get?_push_of_some _ (Heap.get?_push_of_some _ e)
  have hC₁ := k _ _ hC
  have hget : ((h.push (W.kdv_tup rest)).push (HandSPX.excO C h.objs.size)).get? (h.objs.size + 1) = some (HandSPX.excO C h.objs.size) := by heap_get
  have hcC : (Value.ref C :: bm).contains (.ref C) = true := by simp
  have i1 := hi.keeps k
  have b1 := (hb (.ref (h.objs.size + 1))).keeps k
  unfold isInstance
  repeat (first | with_reducible refine wpAny_loadPart_at hget ?_ | (with_reducible refine wpAny_isSubtype_exc hC₁ ?_; rw [hcC]) | wp_step)
  show wpAny _ _ (typeLookup (.ref C) _) _ _ _
  refine i1.at ?_
  refine wpAny_holding (wpAny_bind (b1.at ?_))
  refine wpAny_bind (wpAny_call (codeAny_mono hq fun r s' z => ?_))
  rcases r with e | (v | _ | _ | _) <;> first | exact z | exact z.elim | skip
  obtain ⟨rfl, z⟩ := z
  first
    | exact wpAny_pure (wpAny_pure z)
    | (wp_walk; exact z)
end
end Fz

namespace Fz
open PySem L2
section
variable {prog : Program} {w : World} {A : Around} {E : Value → Shared → Prop} {R : Result → Shared → Prop} {h : Heap} {g : Array GenState} {d : Drawn} {t : Nat} {os : OsState}
variable {nm q : Str} {C N : Addr} {bs bm bmB : List Value} {hdct : Bool} {sn : List Str} {sub : List Value} {ab : Bool} {col : Option Bool} {dd : Option Addr} {k0 k1 k2 k3 k5 : Option Value} {B newId initId : String}
theorem call_ownK (F : ExcBaseFacts B newId initId bmB) (hT : ∀ X : String, bm.contains (.type X) = bmB.contains (.type X)) {rest : List Value} {kw : List (Str × Value)} {fI : Addr}
    (hC : h.get? C = some (excClassObj nm q C N bs bm hdct sn sub ab col dd k0 k1 k2 k3 k5 newId))
    (hi : W.Looks (model prog w) h (typeLookup (.ref C) "__init__") (some (.ref fI))) (hb : ∀ self, W.Looks (model prog w) h (bindSpecial (.ref fI) self) (.ref fI, [self])) (hrest : rest.length ≤ sizeLine)
    (hq : codeAny (model prog w) (A.under (.builtin "type.__call__" ⟨.ref C :: rest, kw⟩)) (.call (.ref fI) ⟨.ref (h.objs.size + 1) :: rest, kw⟩) (W.InitBack (h.objs.size + 1) R)
      ⟨(h.push (W.kdv_tup rest)).push (HandSPX.excO C h.objs.size), g, d, t, os⟩) :
    codeAny (model prog w) A (.call (.ref C) ⟨rest, kw⟩) R ⟨h, g, d, t, os⟩ := by
  have f1 := tc_lookup
  have f2 := tc_bind (.ref C)
  have hTy : (⟨h, g, d, t, os⟩ : Shared).TypeIs (.ref C) "type" := ⟨_, hC, rfl⟩
  refine codeAny_of_tree ?_
  show wpAny _ _ (callAny (.ref C) _) _ _ _
  repeat (any_goals (first | assumption | with_reducible refine wpAny_loadPart_at hC ?_ | wp_step))
  refine ⟨rfl, ?_⟩
  refine codeAny_call_builtin_at (Code.quiet_builtin _ (by decide +kernel)) entry_typeCall (wpAny_check_type_call_sub hC (type_call_ownK F hT hC hi hb hrest ?_))
  refine codeAny_mono hq fun r s' z => ?_
  rcases r with e | (v | _ | _ | _) <;> exact z
end

/-- what a call of an error class C needs -/
structure ErrC (X : Cx) (D C : Addr) (k : Nat) : Prop where
  inc : InC X.K D C
  fn : ∃ (fI : Addr) (fd : FuncData), FnOk X.prog X.w X.K X.mg X.base (L2.CX X.prog X.w) k fI fd ["self", "value"] (initSp X.K D) ∧ PySem.W.findIn X.K (.ref C) "__init__" = some (some (.ref fI)) ∧ PySem.W.typeIn X.K (.ref fI) = some (.type "function") ∧
    Binds X.K fd ["self", "value"] [] ∧ ∀ s u v, BindsTo s fd ⟨[u], [(("value" : Str), v)]⟩ [(("self" : Str), u), (("value" : Str), v)]
def mkE (H : Hp) (a C dx : Addr) (y : V) : Hp := upd (upd H dx (exd dx [(("value" : Str), y)])) a (exo a C (some dx))
theorem mkE_eq {H : Hp} {a C dx : Addr} {y : V} : upd (upd (upd H a (exo a C none)) dx (exd dx [(("value" : Str), y)])) a (exo a C (some dx)) = mkE H a C dx y := by
  funext b
  unfold mkE
  by_cases hb : b = a
  · rw [hb, upd_same, upd_same]
  · rw [upd_ne hb, upd_ne hb]
    by_cases hd : b = dx
    · rw [hd, upd_same, upd_same]
    · rw [upd_ne hd, upd_ne hd, upd_ne hb]
section
variable {X : Cx} {D C : Addr} {k : Nat} {pins : List (Addr × Obj)} {σ : St} {H : Hp} {s : Shared} {Q : VK}
theorem run_err {us : List Value} {kw : List (Str × Value)} {x : Value} {y : V} (T : ErrC X D C k) (hr : Room (k + 1) X.A) (hus : (us = [x] ∧ kw = []) ∨ (us = [] ∧ kw = [(("value" : Str), x)])) (I : Inv X pins σ H s) (r : RelV y x)
    (h : ∀ a dx, H a = none → H dx = none → dx ≠ a → Q (.ref a) (mkE H a C dx y)) : wpAny (model X.prog X.w) X.A (call (.ref C) us kw) (EP X pins σ Q) X.xe s := by
  obtain ⟨fI, fd, F1, iC, tI, hb, hbk⟩ := T.fn
  obtain ⟨nm, q, N, bs, bm, sn, sub, ab, col, dd, k0, k1, k2, k3, k5, hC, hbm⟩ := T.inc.ox.cls
  obtain ⟨hp, g, dr, tk, os⟩ := s
  have hsz : hp.objs.size ≤ hp.objs.size + 1 := Nat.le_succ _
  have hn : H (hp.objs.size + 1) = none := I.hok.fresh hsz
  have kk : ∀ b o, hp.get? b = some o → ((hp.push (PySem.W.kdv_tup us)).push (PySem.HandSPX.excO C hp.objs.size)).get? b = some o := fun b o e => Heap.get?_push_of_some _ (Heap.get?_push_of_some _ e)
  have hget : ((hp.push (PySem.W.kdv_tup us)).push (PySem.HandSPX.excO C hp.objs.size)).get? (hp.objs.size + 1) = some (PySem.HandSPX.excO C hp.objs.size) := by heap_get
  have I2 : Inv X pins σ (upd H (hp.objs.size + 1) (exo (hp.objs.size + 1) C none)) ⟨(hp.push (PySem.W.kdv_tup us)).push (PySem.HandSPX.excO C hp.objs.size), g, dr, tk, os⟩ :=
    I.laid (t' := tk) (a := hp.objs.size + 1) (o := exo (hp.objs.size + 1) C none) (h' := (hp.push (PySem.W.kdv_tup us)).push (PySem.HandSPX.excO C hp.objs.size)) kk hsz (exo_ok hget)
  have r2 : Vals [V.ref (hp.objs.size + 1), y] [Value.ref (hp.objs.size + 1), x] := .cons rfl (.cons r .nil)
  have bt : ∀ s : Shared, X.K.In s.heap → BindsTo s fd ⟨Value.ref (hp.objs.size + 1) :: us, kw⟩ ((["self", "value"] : List Str).zip [Value.ref (hp.objs.size + 1), x]) := fun s hk => by
    rcases hus with ⟨rfl, rfl⟩ | ⟨rfl, rfl⟩
    · exact hb s [Value.ref (hp.objs.size + 1), x] hk rfl
    · exact hbk s _ _
  have hlen : us.length ≤ sizeLine := by
    rw [sizeLine_eq]
    rcases hus with ⟨rfl, rfl⟩ | ⟨rfl, rfl⟩
    · show 1 ≤ _; omega
    · show 0 ≤ _; omega
  have hq : initSp X.K D [V.ref (hp.objs.size + 1), y] (upd H (hp.objs.size + 1) (exo (hp.objs.size + 1) C none)) (fun v H2 => v = .non ∧ Q (.ref (hp.objs.size + 1)) H2) (fun _ _ _ => False) :=
    ⟨_, C, y, rfl, T.inc, upd_same, fun dx h1 h2 => ⟨rfl, by rw [mkE_eq]; exact h _ dx hn (by rw [upd_ne h2] at h1; exact h1) h2⟩⟩
  refine wpAny_call (call_ownK F.excBase_ValueError (fun Y => PySem.HandSPX.refsVE_contains Y bm hbm) (I.kIn _ _ hC) (PySem.W.looks_findIn I.kIn iC) (fun self => PySem.W.bind_fn I.kIn self tI) hlen
    (codeAny_mono (F1.run _ X.stack _ _ ⟨Value.ref (hp.objs.size + 1) :: us, kw⟩ [Value.ref (hp.objs.size + 1), x] _ _ (fun _ _ _ => False) (hr.make C us kw) (I2.env0.make C us kw) (bt _ I2.kIn) r2 hq) fun r s' hq' => ?_))
  cases r with
  | error er => exact passL pins σ _ _ er s' I2 hq'
  | ok fl =>
    cases fl with
    | ret u =>
      obtain ⟨v, H', I3, rv, ev, q3⟩ := I2.after hq'
      subst ev
      exact ⟨rv, ⟨V.ref (hp.objs.size + 1), H', I3, rfl, q3⟩⟩
    | next => exact False.elim hq'
    | brk => exact False.elim hq'
    | cont => exact False.elim hq'
/-- C(e) -/
theorem pe_err {x : Str} {p pos : Pos} {e : Expr} {ta : TA} (T : ErrC X D C k) (hr : Room (k + 1) X.A) (hg : Gl X x) (hm : X.mg x = some (.ref C)) (ha : PA X [e] ta)
    (hdb : (x == ("__debug__" : Str)) = false := by decide) (he : starEach [e] X.env = (false, eval e X.env) :: starEach [] X.env := by rfl) (hpl : (backTo pos (starEach [] X.env)).any (·.1) = false := by rfl) :
    PE X (.Call (.Name x p) [e] [] pos) (fun σ H Q => ta σ H fun vs H1 => ∃ y, vs = [y] ∧ ∀ a dx, H1 a = none → H1 dx = none → dx ≠ a → Q (.ref a) (mkE H1 a C dx y)) := by
  refine ⟨fun pins s σ H Q I h => ?_⟩
  refine wpAny_Call_Name_kw (ld_glob I hg hm ?_ hdb)
  refine PySem.W.callWith_K (h₀ := X.base) I.ok.mod.kin T.inc.ox.kC (thn (ha.run pos pins s σ H _ I h) fun us s1 ⟨vs, H1, I1, r1, y, ev, q1⟩ => ⟨I1.kIn, ?_⟩) he hpl
  subst ev
  cases r1 with
  | cons r rr =>
    cases rr
    exact run_err T hr (.inl ⟨rfl, rfl⟩) I1 r q1
/-- C(value = e) -/
theorem pe_errK {x : Str} {p pos : Pos} {kws : List Keyword} {tk : TA} (T : ErrC X D C k) (hr : Room (k + 1) X.A) (hg : Gl X x) (hm : X.mg x = some (.ref C)) (hkw : PK X kws tk)
    (hall : (backToKw pos (keywordEach kws X.env)).all (·.1.isSome) = true := by rfl) (hks : (backToKw pos (keywordEach kws X.env)).filterMap (·.1) = [("value" : Str)] := by rfl)
    (hdb : (x == ("__debug__" : Str)) = false := by decide) (hpl : ((backTo pos (starEach [] X.env)).any (·.1) || (backToKw pos (keywordEach kws X.env)).any (·.1.isNone)) = false := by rfl) :
    PE X (.Call (.Name x p) [] kws pos) (fun σ H Q => tk σ H fun vs H1 => ∃ y, vs = [y] ∧ ∀ a dx, H1 a = none → H1 dx = none → dx ≠ a → Q (.ref a) (mkE H1 a C dx y)) := by
  refine ⟨fun pins s σ H Q I h => ?_⟩
  refine wpAny_Call_Name_kw (ld_glob I hg hm ?_ hdb)
  refine PySem.W.callWith_KW0 (h₀ := X.base) I.ok.mod.kin T.inc.ox.kC hall (thn (hkw.run pos pins s σ H _ I h) fun ws s2 ⟨zs, H2, I2, rz, y, ev, q2⟩ => ⟨I2.kIn, ?_⟩) hpl
  subst ev
  rw [hks]
  cases rz with
  | cons r rr =>
    cases rr
    exact run_err T hr (.inr ⟨rfl, rfl⟩) I2 r q2
end

/-! ### readings -/
theorem Ext.newE {F S : FP} {H : Hp} {a C dx : Addr} {y : V} (h1 : H a = none) (h2 : H dx = none) (hne : dx ≠ a) : Ext F S H (fun b => (F b ∨ b = dx) ∨ b = a) S (mkE H a C dx y) :=
  (Ext.newF h2).trans (Ext.newF (by rw [upd_ne (Ne.symm hne)]; exact h1))
theorem mkErr_R {A : Gm} {F S T : FP} {H : Hp} {c : Nat} {d : D} {y : V} {a dx : Addr} (w : Wd F S H) (r : R A F H d y T) (hd : nw d = true) (h1 : H a = none) (h2 : H dx = none) (hne : dx ≠ a) :
    R A (fun b => (F b ∨ b = dx) ∨ b = a) (mkE H a (A.cl c) dx y) (.err c d) (.ref a) (fun _ => False) :=
  ⟨a, dx, y, rfl, .inr rfl, .inl (.inr rfl), upd_same, by unfold mkE; rw [upd_ne hne, upd_same], (R.none hd r).frame (fun b z => .inl (.inl z)) fun b z => by
    have z : F b := z.elim id fun z => z.elim
    have ne := w.lv b (.inl z)
    unfold mkE
    rw [upd_ne (fun e => ne (by rw [e]; exact h1)), upd_ne (fun e => ne (by rw [e]; exact h2))]⟩
def pErr (c : Nat) : Prim := fun ds => match ds with
  | [d] => if nw d then .ok (.err c d) [d] else .bad
  | _ => .bad
def pRaise (c : Nat) : Prim := fun ds => match ds with
  | [d] => if nw d then .ex c d else .bad
  | _ => .bad
section
variable {A : Gm} {vs : List V} {H : Hp} {Q : VK} {E : XK} {c : Nat}
theorem ok_err (h : Pre A (pErr c) vs H Q E) : ∃ y, vs = [y] ∧ ∀ a dx, H a = none → H dx = none → dx ≠ a → Q (.ref a) (mkE H a (A.cl c) dx y) := by
  obtain ⟨F, S, ds, w, rl, q⟩ := h
  unfold pErr at q
  split at q
  · rename_i d
    split at q
    · rename_i hd
      obtain ⟨y, rfl, r⟩ := rl.un
      refine ⟨y, rfl, fun a dx h1 h2 hne => ?_⟩
      have w' : Wd (fun b => (F b ∨ b = dx) ∨ b = a) S (mkE H a (A.cl c) dx y) := (w.newF h2).newF (by rw [upd_ne (Ne.symm hne)]; exact h1)
      exact q (.ref a) _ S _ (Ext.newE h1 h2 hne) w' ⟨.ref a, [y], fun _ => False, S, rfl, mkErr_R w r hd h1 h2 hne, RL.one (R.none hd ((R.none (T := fun _ => False) hd r).frame (fun b z => .inl (.inl z)) fun b z => by
        have z : F b := z.elim id fun z => z.elim
        have ne := w.lv b (.inl z)
        unfold mkE
        rw [upd_ne (fun e => ne (by rw [e]; exact h1)), upd_ne (fun e => ne (by rw [e]; exact h2))])), fun _ z => z.elim, fun _ z => z⟩
    · exact q.elim
  · exact q.elim
end
section
variable {X : Cx} {A : Gm} {pr : List Nat} {W : WX} {ea : Expr} {o : Op} {c k : Nat} {Dd : Addr} {x : Str} {p p0 pos kpos : Pos}
abbrev GLK (X : Cx) (A : Gm) (pr : List Nat) (W : WX) (kws : List Keyword) (ops : List Op) : Prop := PK X kws (GA A pr W ops)
theorem PK_imp {kws : List Keyword} {t t' : TA} (h : PK X kws t) (k : ∀ σ H K, t' σ H K → t σ H K) : PK X kws t' := ⟨fun pos pins s σ H K I q => h.run pos pins s σ H K I (k σ H K q)⟩
theorem glk_nil : GLK X A pr W [] [] := PK_imp pk_nil fun σ H K h => ga_of_nil h
theorem glk_cons {nm : Option Str} {kws : List Keyword} {ops : List Op} (h : GP X A pr W ea o) (hr : GLK X A pr W kws ops) : GLK X A pr W (⟨nm, ea, kpos⟩ :: kws) (o :: ops) :=
  PK_imp (pk_cons h hr) fun σ H K h => ga_of_step h
theorem ge_err (T : ErrC X Dd (A.cl c) k) (hr : Room (k + 1) X.A) (hg : Gl X x) (hm : X.mg x = some (.ref (A.cl c))) (ha : GL X A pr W [ea] [o])
    (hdb : (x == ("__debug__" : Str)) = false := by decide) (he : starEach [ea] X.env = (false, eval ea X.env) :: starEach [] X.env := by rfl) (hpl : (backTo pos (starEach [] X.env)).any (·.1) = false := by rfl) :
    GE X A pr W (.Call (.Name x p) [ea] [] pos) (evN [o] (pErr c)) := PE_imp (pe_err T hr hg hm ha hdb he hpl) fun σ H Q h => g_argsK h fun vs H1 h1 => ok_err h1
theorem ge_errK {kws : List Keyword} (T : ErrC X Dd (A.cl c) k) (hr : Room (k + 1) X.A) (hg : Gl X x) (hm : X.mg x = some (.ref (A.cl c))) (hkw : GLK X A pr W kws [o])
    (hall : (backToKw pos (keywordEach kws X.env)).all (·.1.isSome) = true := by rfl) (hks : (backToKw pos (keywordEach kws X.env)).filterMap (·.1) = [("value" : Str)] := by rfl)
    (hdb : (x == ("__debug__" : Str)) = false := by decide) (hpl : ((backTo pos (starEach [] X.env)).any (·.1) || (backToKw pos (keywordEach kws X.env)).any (·.1.isNone)) = false := by rfl) :
    GE X A pr W (.Call (.Name x p) [] kws pos) (evN [o] (pErr c)) := PE_imp (pe_errK T hr hg hm hkw hall hks hdb hpl) fun σ H Q h => g_argsK h fun vs H1 h1 => ok_err h1
end
/-- raise C(e) -/
theorem ok_raise {A : Gm} {K : PySem.W.Frag} {Dd : Addr} {vs : List V} {H : Hp} {Q : VK} {E : XK} {c : Nat} (T : InC K Dd (A.cl c)) (h : Pre A (pRaise c) vs H Q E) : vs.length ≤ 1000 ∧ ∀ a, H a = none → initSp K Dd (.ref a :: (vs ++ [])) (upd H a (exo a (A.cl c) none))
    (fun v H2 => v = .non ∧ ∃ (d : Addr) (fs : List (Str × V)), H2 a = some (exo a (A.cl c) (some d)) ∧ H2 d = some (exd d fs) ∧ H d = none ∧ E (.ref (A.cl c)) (some d) (upd (del H2 a) d (.xd fs))) (fun _ _ _ => False) := by
  obtain ⟨F, S, ds, w, rl, q⟩ := h
  unfold pRaise at q
  split at q
  · rename_i d
    split at q
    · rename_i hd
      obtain ⟨y, rfl, r⟩ := rl.un
      refine ⟨by show 1 ≤ 1000; omega, fun a h1 => ⟨a, A.cl c, y, rfl, T, upd_same, fun dx h2 hne => ⟨rfl, dx, _, upd_same, by rw [upd_ne hne, upd_same], by rw [upd_ne hne] at h2; exact h2, ?_⟩⟩⟩
      rw [upd_ne hne] at h2
      have eH : upd (del (upd (upd (upd H a (exo a (A.cl c) none)) dx (exd dx [(("value" : Str), y)])) a (exo a (A.cl c) (some dx))) a) dx (.xd [(("value" : Str), y)]) = upd H dx (.xd [(("value" : Str), y)]) := by
        funext b
        by_cases hb : b = dx
        · rw [hb, upd_same, upd_same]
        · rw [upd_ne hb, upd_ne hb]
          by_cases ha : b = a
          · rw [ha, del_same, h1]
          · rw [del_ne ha, upd_ne ha, upd_ne hb, upd_ne ha]
      rw [eH]
      have lv : ∀ b, F b → (upd H dx (.xd [(("value" : Str), y)])) b = H b := fun b z => upd_ne fun e => w.lv b (.inl z) (by rw [e]; exact h2)
      refine q dx (fun b => F b ∨ b = dx) _ ?_ ?_ ⟨dx, y, rfl, .inr rfl, upd_same, (R.none hd r).frame (fun b z => .inl z) fun b z => lv b (z.elim id fun z => z.elim)⟩
      · exact (Ext.newF (F := F) (S := S) h2).trans ⟨fun _ _ _ => rfl, fun _ z => z, fun _ z => .inl z, fun _ z => z.elim, fun _ z => z⟩
      · have w2 := w.newF (o := .xd [(("value" : Str), y)]) h2
        exact ⟨fun _ _ z => z, fun b z => w2.lv b (z.imp id fun z => z.elim)⟩
    · exact q.elim
  · exact q.elim
section
variable {X : Cx} {A : Gm} {pr : List Nat} {W : WX} {ea : Expr} {o : Op} {c k : Nat} {Dd : Addr} {x : Str} {p p0 pos kpos : Pos}
theorem gs_raise (hc : X.calm = true) (tk : Takes X W) (T : ErrC X Dd (A.cl c) k) (hr : Room (k + 1) X.A) (hg : Gl X x) (hm : X.mg x = some (.ref (A.cl c))) (ha : GL X A pr W [ea] [o]) {rpos : Pos}
    (hdb : (x == ("__debug__" : Str)) = false := by decide) (he : starEach [ea] X.env = (false, eval ea X.env) :: starEach [] X.env := by rfl) (hpl : (backTo pos (starEach [] X.env)).any (·.1) = false := by rfl) :
    GQ X A pr W (.Raise (some (.Call (.Name x p) [ea] [] pos)) none rpos) (sDrop (evN [o] (pRaise c))) := by
  obtain ⟨fI, fd, F1, iC, tI, hb, hbk⟩ := T.fn
  refine PS_imp (ps_raise hc tk (pmk_oex (dvs := []) T.inc.ox iC tI F1 hr hb .nil passL hg hm ha hdb he hpl)) fun D σ H h => ?_
  obtain ⟨e, ρ, st, h⟩ := h
  have hG : G A pr W (evN [o] (pRaise c)) σ H (fun _ _ => True) := by
    refine ⟨e, ρ, [], [], st, ?_⟩
    unfold sDrop at h
    cases hr : evN [o] (pRaise c) ρ with
    | ok ρ1 d => exact fun _ _ _ => trivial
    | ex ρ1 c' x' => rw [hr] at h; exact fun dd H' s1 => h dd σ H' s1
    | bad => rw [hr] at h; exact h
  exact g_argsK hG fun vs H1 h1 => ok_raise T.inc h1
end
end Fz
namespace Fz
open PySem L2

/-! ### {'k': e, ..} -/
def evNewD : EvE := fun ρ => .ok ρ (.dct true [] [])
/-- [new dict, values ..] -/
def pDct (ks : List Str) : Prim := fun ds => match ds with
  | .dct true [] [] :: ds => if ds.length = ks.length ∧ ks.Nodup ∧ ks.length ≤ 15 then .ok (.dct true ks ds) (.any :: ds.map fun _ => .any) else .bad
  | _ => .bad
theorem ST.newD {A : Gm} {pr : List Nat} {e : En} {ρ : Env} {σ : St} {τ : List (Option D)} {ts : List (Option V)} {H : Hp} {p : Addr} (st : ST A pr e ρ σ τ ts H) (hp : H p = none) :
    ST A pr e ρ σ (τ ++ [some (.dct true [] [])]) (ts ++ [some (.ref p)]) (upd H p (.dK [])) := by
  obtain ⟨F, S, ro, l, w, x, pp⟩ := st
  have ch : ∀ b, F b ∨ S b → upd H p (.dK []) b = H b := fun b z => upd_ne (fun e => w.lv b z (by rw [e]; exact hp))
  refine ⟨F, fun b => S b ∨ b = p, ?_, l, w.new hp, x.trans (Ext.new hp), pp⟩
  rw [← List.append_assoc, ← List.append_assoc]
  have r2 : RO A F (upd H p (.dK [])) [some (.dct true [] [])] [some (.ref p)] (fun b => b = p) :=
    ⟨.ref p, [], fun b => b = p, fun _ => False, rfl, ⟨p, [], fun _ => False, rfl, rfl, upd_same, rfl, rfl, fun _ z => z.elim⟩, rfl, fun b hb => ⟨hb, id⟩, fun _ z => z.elim⟩
  exact RO.append (ro.frame (fun _ z => z) ch) r2 (fun b hb => ⟨.inl hb, fun z => w.lv b (.inr hb) (by rw [z]; exact hp)⟩) (fun b hb => .inr hb)
theorem mergeK_nd : ∀ {ks : List Str} {vs : List V} {acc : List (Key × V)}, ks.Nodup → (∀ k ∈ ks, ∀ kv ∈ acc, kv.1 ≠ Sum.inr k) → vs.length = ks.length → mergeK acc ((ks.map Sum.inr).zip vs) = acc ++ (ks.map Sum.inr).zip vs
  | [], vs, acc, _, _, _ => by simp [mergeK]
  | k :: ks, [], acc, _, _, h => by simp at h
  | k :: ks, v :: vs, acc, nd, ha, h => by
    have nd' := List.nodup_cons.mp nd
    have e : putK acc (Sum.inr k : Key) v = acc ++ [(Sum.inr k, v)] := by
      unfold putK
      rw [if_neg]
      intro q
      obtain ⟨kv, hk, he⟩ := List.any_eq_true.mp q
      exact ha k (by simp) kv hk (of_decide_eq_true he)
    show mergeK (putK acc (Sum.inr k) v) ((ks.map Sum.inr).zip vs) = _
    rw [e, mergeK_nd nd'.2 (fun q hq kv hk => ?_) (by simpa using h)]
    · simp
    · rcases List.mem_append.mp hk with hk | hk
      · exact ha q (by simp [hq]) kv hk
      · simp at hk
        rw [hk]
        intro z
        injection z with z
        exact nd'.1 (by rw [z]; exact hq)
theorem Ext.set {F S : FP} {H : Hp} {a : Addr} {o : HO} (ha : S a) : Ext F S H F S (upd H a o) :=
  ⟨fun b hb nb => upd_ne (fun e => nb (by rw [e]; exact ha)), fun _ z => z, fun _ z => .inl z, fun _ z => .inl z, fun b hb => by
    by_cases e : b = a
    · rw [e, upd_same]; simp
    · rw [upd_ne e]; exact hb⟩
theorem Wd.set {F S : FP} {H : Hp} {a : Addr} {o : HO} (w : Wd F S H) (ha : S a) : Wd F S (upd H a o) :=
  ⟨w.fs, fun b z => by
    by_cases e : b = a
    · rw [e, upd_same]; simp
    · rw [upd_ne e]; exact w.lv b z⟩
section
variable {A : Gm} {F S T : FP} {H : Hp} {Q : VK} {E : XK} {X : Cx} {pr : List Nat} {W : WX}
theorem ok_dct {ks : List Str} {p : Addr} {vs : List V} (h : Pre A (pDct ks) (.ref p :: vs) H Q E) : H p = some (.dK []) ∧ vs.length = ks.length ∧ ks.length ≤ 15 ∧ Q (.ref p) (upd H p (.dK (mergeK [] ((ks.map Sum.inr).zip vs)))) := by
  obtain ⟨F, S, ds, w, rl, q⟩ := h
  unfold pDct at q
  split at q
  · rename_i ds'
    obtain ⟨v, vs', S1, S2, ev, r, rl2, q1, q2⟩ := rl
    injection ev with e1 e2
    subst e1 e2
    split at q
    · rename_i hc
      obtain ⟨a, us, S', ea, sa, g, l, rr, qs⟩ := r
      injection ea with ea
      subst ea
      have hus : us = [] := by simpa using l
      subst hus
      have hl : vs.length = ks.length := by rw [rl2.length, hc.1]
      refine ⟨g, hl, hc.2.2, ?_⟩
      rw [mergeK_nd hc.2.1 (fun _ _ _ z => by simp at z) hl, List.nil_append]
      have hF : ¬ F p := fun z => w.fs p z (q1 p sa).1
      refine q (.ref p) F S _ (Ext.set (q1 p sa).1) (w.set (q1 p sa).1) ⟨.ref p, .ref p :: vs, S, fun _ => False, rfl, ?_, ⟨.ref p, vs, fun _ => False, fun _ => False, rfl, trivial, RL.anys rl2.length, fun _ z => z.elim, fun _ z => z⟩, fun b hb => ⟨hb, fun z => z⟩, fun _ z => z.elim⟩
      exact ⟨p, vs, S2, rfl, (q1 p sa).1, upd_same, hl, rl2.off hF fun z => (q1 p sa).2 z, fun b z => ⟨q2 b z, fun e => (q1 p sa).2 (e ▸ z)⟩⟩
    · exact q.elim
  · exact q.elim
end

theorem zip_kV : ∀ (ks : List Str) (us : List V), (ks.map V.str).zip us = ((ks.map (Sum.inr : Str → Key)).zip us).map fun kv => (kV kv.1, kv.2)
  | [], _ => by simp
  | _ :: _, [] => by simp
  | k :: ks, u :: us => by
    show (V.str k, u) :: (ks.map V.str).zip us = (kV (Sum.inr k), u) :: _
    rw [zip_kV ks us]; rfl
/-- keys and operands of a display -/
inductive GD (X : Cx) (A : Gm) (pr : List Nat) (W : WX) (pos : Pos) : List (Option Expr) → List Expr → List Str → List Op → Prop where
  | nil : GD X A pr W pos [] [] [] []
  | cons {k : Str} {j : Nat} {kp : Pos} {v : Expr} {keys : List (Option Expr)} {vs : List Expr} {ks : List Str} {o : Op} {ops : List Op} (hv : GP X A pr W v o) (hr : GD X A pr W pos keys vs ks ops) :
      GD X A pr W pos (some (.Constant (.str k) j kp) :: keys) (v :: vs) (k :: ks) (o :: ops)
def trsD (A : Gm) (pr : List Nat) (W : WX) : List Str → List Op → List (TE × TE)
  | k :: ks, o :: ops => (tC (.str k), GO A pr W o) :: trsD A pr W ks ops
  | _, _ => []
section
variable {A : Gm} {X : Cx} {pr : List Nat} {W : WX} {pos : Pos}
theorem GD.pps : ∀ {keys : List (Option Expr)} {vs : List Expr} {ks : List Str} {ops : List Op}, GD X A pr W pos keys vs ks ops → PPs X pos keys vs (trsD A pr W ks ops) := fun h => by
  induction h with
  | nil => exact pps_nil
  | cons hv hr ih => exact pps_cons pe_str hv ih
theorem GD.tp : ∀ {keys : List (Option Expr)} {vs : List Expr} {ks : List Str} {ops : List Op}, GD X A pr W pos keys vs ks ops → ∀ {σ : St} {H : Hp} {K : List (V × V) → Hp → Prop}, GA A pr W ops σ H (fun us H1 => K ((ks.map V.str).zip us) H1) → tPairs (trsD A pr W ks ops) σ H K := fun h => by
  induction h with
  | nil => intro σ H K h; exact ga_of_nil h
  | cons hv hr ih =>
    intro σ H K h
    have h1 := ga_of_step h
    show GO A pr W _ σ H fun y H2 => tPairs _ σ H2 fun ps H3 => K ((_, y) :: ps) H3
    unfold tCons at h1
    exact GO.mono h1 fun x H1 h2 => ih h2
theorem GD.props {keys : List (Option Expr)} {vs : List Expr} {ks : List Str} {ops : List Op} (h : GD X A pr W pos keys vs ks ops) : keys.all (·.isSome) = true ∧ keys.length = vs.length ∧ ks.length = keys.length := by
  induction h with
  | nil => exact ⟨rfl, rfl, rfl⟩
  | cons hv hr ih => exact ⟨by simp [ih.1], by simp [ih.2.1], by simp [ih.2.2]⟩
theorem ge_dct {keys : List (Option Expr)} {vs : List Expr} {ks : List Str} {ops : List Op} (h : GD X A pr W pos keys vs ks ops) (h0 : keys ≠ [] := by simp) (h15 : keys.length ≤ 15 := by decide) : GE X A pr W (.Dict keys vs pos) (evN (.ex evNewD :: ops) (pDct ks)) :=
  PE_imp (pe_disp h.pps h.props.1 h.props.2.1 h0 h15) fun σ H Q q => by
    intro p hp
    have q1 := ga_of_step (g_argsK q fun vs H1 h1 => h1)
    unfold tCons at q1
    obtain ⟨e, ρ, τ, ts, st, q2⟩ := q1
    have q3 := q2 (.ref p) _ (st.newD hp)
    refine h.tp ?_
    refine GA.mono q3 fun us H2 h2 => ?_
    obtain ⟨g, l, l15, q⟩ := ok_dct h2
    refine ⟨g, (ks.map Sum.inr).zip us, ?_, by rw [List.length_zip, List.length_map]; omega, q⟩
    exact zip_kV ks us
end

/-! ### d['k'] op= i, d['k'].pop(0), len(d['k']) -/
def pDAug (k : Str) (f : Int → Int) : Prim := fun ds => match ds with
  | [.dct true ks xs] => match keyAt ks k with
    | some j => match xs[j]? with
      | some (.int i) => if decide (ks.length ≤ 1000) && decide ks.Nodup then .ok .non [.dct true ks (xs.set j (.int (f i)))] else .bad
      | _ => .bad
    | none => .bad
  | _ => .bad
def pDLen (k : Str) : Prim := fun ds => match ds with
  | [.dct o ks xs] => match keyAt ks k with
    | some j => match xs[j]? with
      | some (.lst p ys) => .ok (.int ys.length) [.dct o ks xs]
      | _ => .bad
    | none => .bad
  | _ => .bad
def pDPop0 (k : Str) : Prim := fun ds => match ds with
  | [.dct true ks xs] => match keyAt ks k with
    | some j => match xs[j]? with
      | some (.lst true (y :: ys)) => if nwL (y :: ys) then .ok y [.dct true ks (xs.set j (.lst true ys))] else .bad
      | _ => .bad
    | none => .bad
  | _ => .bad
section
variable {A : Gm} {F S T : FP} {H : Hp} {Q : VK} {E : XK} {X : Cx} {x : V} {k : Str}
theorem keyAt_lt {ks : List Str} {k : Str} {j : Nat} (h : keyAt ks k = some j) : j < ks.length := by
  unfold keyAt at h
  have := (List.findIdx?_eq_some_iff_getElem.mp h)
  exact this.1
theorem ok_daug {f : Int → Int} (h : Pre A (pDAug k f) [x] H Q E) : ∃ a i, x = .ref a ∧ DGet H a (.str k) (some (.int i)) ∧ ∃ H', DPut H a (.str k) (.int (f i)) H' ∧ Q .non H' := by
  obtain ⟨F, S, d, w, r1, q⟩ := h.un
  unfold pDAug at q
  split at q
  · rename_i ks xs he
    injection he with e1 e2
    subst e1
    split at q
    · rename_i j hj
      split at q
      · rename_i i hi
        split at q
        · rename_i hc
          simp only [Bool.and_eq_true, decide_eq_true_eq] at hc
          obtain ⟨hz, nd⟩ := hc
          obtain ⟨a, us, S', rfl, sa, g, l, rl, qs⟩ := r1
          have hF : ¬ F a := fun z => w.fs a z sa
          obtain ⟨v0, T1, T2, g0, r0, t1, t2, back⟩ := rl.focus hi
          have e0 : v0 = .int i := r0
          subst e0
          have hju : j < us.length := by rw [l]; exact keyAt_lt hj
          refine ⟨a, i, rfl, .inl ⟨_, Sum.inr k, .inl g, rfl, (valV_at hj g0).symm⟩, _, .inl ⟨_, Sum.inr k, g, rfl, by rw [List.length_zip, List.length_map]; exact Nat.lt_of_le_of_lt (Nat.min_le_left _ _) (Nat.lt_of_le_of_lt hz (by decide)), rfl⟩, ?_⟩
          rw [putK_at hj hju nd]
          refine SatP.set w sa (fun v h => h) q (RL.one ⟨a, us.set j (.int (f i)), T2, rfl, sa, upd_same, by rw [List.length_set]; exact l, back F _ (.int (f i)) (.int (f i)) (fun _ => False) _ (fun _ z => z) (fun b z => upd_ne fun e => ?_) rfl (fun _ z => z.elim) (fun _ z => z), fun b z => qs b (t2 b z)⟩)
          rcases z with z | z
          · exact hF (e ▸ z)
          · exact (qs a (t2 a (e ▸ z))).2 rfl
        · exact q.elim
      · exact q.elim
    · exact q.elim
  · exact q.elim
theorem ok_dlen (h : Pre A (pDLen k) [x] H Q E) : ∃ a v, x = .ref a ∧ DGet H a (.str k) (some v) ∧ ∃ n, LenV A.K v H n ∧ Q (.int n) H := by
  obtain ⟨F, S, d, w, r1, q⟩ := h.un
  unfold pDLen at q
  split at q
  · rename_i o ks xs he
    injection he with e1 e2
    subst e1
    split at q
    · rename_i j hj
      split at q
      · rename_i p ys hi
        obtain ⟨a, vs, rfl, g, l, rl⟩ := r1.dct_at
        obtain ⟨v, hv, r⟩ := rl.get hi
        obtain ⟨b, us, rfl, sq, rl2⟩ := r.lst_sq (K := A.K)
        refine ⟨a, _, rfl, .inl ⟨_, Sum.inr k, .inl g, rfl, (valV_at hj hv).symm⟩, us.length, .inl ⟨us, sq, rfl⟩, ?_⟩
        rw [rl2.length]
        exact SatP.same w (RL.one r1) q rfl
      · exact q.elim
    · exact q.elim
  · exact q.elim
theorem ok_dpop0 (h : Pre A (pDPop0 k) [x] H Q E) : ∃ a b us y, x = .ref a ∧ DGet H a (.str k) (some (.ref b)) ∧ H b = some (.lst us) ∧ us[0]? = some y ∧ Q y (upd H b (.lst (us.eraseIdx 0))) := by
  obtain ⟨F, S, d, w, r1, q⟩ := h.un
  unfold pDPop0 at q
  split at q
  · rename_i ks xs he
    injection he with e1 e2
    subst e1
    split at q
    · rename_i j hj
      split at q
      · rename_i y ys hi
        split at q
        · rename_i hn
          obtain ⟨a, us, S', rfl, sa, g, l, rl, qs⟩ := r1
          have hF : ¬ F a := fun z => w.fs a z sa
          obtain ⟨v0, T1, T2, g0, r0, t1, t2, back⟩ := rl.focus hi
          obtain ⟨b, ws, T3, rfl, sb, gb, rlb, q3⟩ := r0
          have rn : RL A F H (y :: ys) ws (fun _ => False) := RL.none hn rlb
          obtain ⟨u, ws', Z1, Z2, rfl, ry, rys, z1, z2⟩ := rn
          have Sb : S b := (qs b (t1 b sb).1).1
          have hFb : ¬ F b := fun z => w.fs b z Sb
          have hba : b ≠ a := (qs b (t1 b sb).1).2
          have ry0 : R A F H y u (fun _ => False) := ry.mono fun b hb => (z1 b hb).1
          have rys0 : RL A F H ys ws' (fun _ => False) := rys.mono z2
          refine ⟨a, b, _, u, rfl, .inl ⟨_, Sum.inr k, .inl g, rfl, (valV_at hj g0).symm⟩, gb, rfl, ?_⟩
          show Q u (upd H b (.lst ws'))
          refine q u F S _ (Ext.set Sb) (w.set Sb) ⟨u, [.ref a], fun _ => False, S, rfl, ry0.off hFb (fun z => z), RL.one ⟨a, us, S', rfl, sa, by rw [upd_ne (Ne.symm hba)]; exact g, l, ?_, qs⟩, fun _ z => z.elim, fun _ z => z⟩
          have hlst : us.set j (.ref b) = us := by
            apply List.ext_getElem?
            intro i
            by_cases hij : j = i
            · subst hij
              rw [g0, List.getElem?_set_self (List.getElem?_eq_some_iff.mp g0).1]
            · rw [List.getElem?_set_ne hij]
          have bk := back F (upd H b (.lst ws')) (.lst true ys) (.ref b) T1 S' (fun _ z => z) (fun c z => upd_ne fun e => ?_) ⟨b, ws', fun _ => False, rfl, sb, upd_same, rys0.off hFb (fun z => z), fun _ z => z.elim⟩ t1 t2
          · rw [hlst] at bk
            exact bk
          · rcases z with z | z
            · exact hFb (e ▸ z)
            · exact (t1 b sb).2 (e ▸ z)
        · exact q.elim
      · exact q.elim
    · exact q.elim
  · exact q.elim
end
section
variable {X : Cx} {A : Gm} {pr : List Nat} {W : WX} {pos p0 p1 apos spos kp kp2 tpos : Pos} {ea : Expr} {a : Op} {k : Str} {i : Int} {j j2 : Nat}
theorem gs_augD {op : Operator} {f : Int → Int → Int} (hu : X.A.units + 1 < cLine) (hop : ∃ rd, InOp X op rd ∧ ∀ x y H Q, rI0 (fun i j => .int (f i j)) x y H Q → rd x y H Q) (ha : GP X A pr W ea a)
    (hst : ∀ ov iv new, augStore (.Constant (.str k) j kp) ov iv new = (do holding [new, ov, iv] (setItem ov iv new); release [new, ov, iv] []; pure .next) := by intros; rfl) :
    GQ X A pr W (.AugAssign (.Subscript ea (.Constant (.str k) j kp) tpos) op (.Constant (.int i) j2 kp2) pos) (sDrop (evN [a] (pDAug k fun n => f n i))) := by
  obtain ⟨rd, ho, hr⟩ := hop
  refine PS_imp (ps_daug hu ha pe_str pe_int ho hst) fun D σ H h => ?_
  have h' : G A pr W (evN [a] (pDAug k fun n => f n i)) σ H fun x H' => D.nx σ H' := GS.expr h fun e ρ1 d v H' _ s1 q => q σ H' (s1.pop (τ := []) (ts := []))
  refine GO.mono (g_args1 h') fun x H1 h1 => ?_
  obtain ⟨b, n, rfl, g, H', p, q⟩ := ok_daug h1
  exact ⟨b, _, rfl, g, hr _ _ _ _ ⟨n, i, rfl, rfl, H', p, q⟩⟩
theorem ge_dlen (hK : X.K = A.K) (hu : X.A.units + 1 < cLine) (hg : Gl X "len") (hm : X.mg "len" = none) (ha : GP X A pr W ea a) (hs : NoSl (.Constant (.str k) j kp))
    (he : starEach [.Subscript ea (.Constant (.str k) j kp) spos] X.env = (false, eval (.Subscript ea (.Constant (.str k) j kp) spos) X.env) :: starEach [] X.env := by rfl) (hpl : (backTo pos (starEach [] X.env)).any (·.1) = false := by rfl) :
    GE X A pr W (.Call (.Name "len" p0) [.Subscript ea (.Constant (.str k) j kp) spos] [] pos) (evN [a] (pDLen k)) :=
  PE_imp (pe_callB call_len hg hm PySem.boot_len (pa_cons (pe_dget hu ha pe_str hs) pa_nil he) (by decide) (by decide) he hpl) fun σ H Q h => GO.mono (g_args1 h) fun x H1 h1 => by
    obtain ⟨b, v, rfl, g, n, ln, q⟩ := ok_dlen h1
    exact ⟨b, v, rfl, g, v, n, rfl, by rw [hK]; exact ln, q⟩
theorem ge_dpop0 (hu : X.A.units + 1 < cLine) (ha : GP X A pr W ea a) (hs : NoSl (.Constant (.str k) j kp))
    (hb : attributeBase (.Subscript ea (.Constant (.str k) j kp) spos) "pop" X.env (eval (.Subscript ea (.Constant (.str k) j kp) spos) X.env) = eval (.Subscript ea (.Constant (.str k) j kp) spos) X.env := by rfl)
    (h1 : ((((backTo pos (starEach [.Constant (.int 0) j2 kp2] X.env)).all fun x => !x.fst) && (backToKw pos (keywordEach [] X.env)).all fun x => x.fst.isSome) && decide (([Expr.Constant (.int 0) j2 kp2]).length + ([] : List Keyword).length + (if ([] : List Keyword).isEmpty = true then 0 else 1) < 30)) = true := by rfl)
    (h2 : (apos.endLine == pos.line) = true := by rfl) (h3 : starEach [Expr.Constant (.int 0) j2 kp2] X.env = (false, eval (.Constant (.int 0) j2 kp2) X.env) :: starEach [] X.env := by rfl) (h4 : (backTo pos (starEach [] X.env)).any (·.1) = false := by rfl) :
    GE X A pr W (.Call (.Attribute (.Subscript ea (.Constant (.str k) j kp) spos) "pop" apos) [.Constant (.int 0) j2 kp2] [] pos) (evN [a] (pDPop0 k)) :=
  PE_imp (pe_bm (r := rPopAt) PySem.F.plainAttrs_list PySem.F.slot_list_pop PySem.F.type_list_pop (fun pins s σ H x xs v us Q I r1 r2 q => mt_popAt pins s σ H x xs v us Q I r1 r2 q) (pe_dget hu ha pe_str hs) (pa_cons pe_int pa_nil h3) hb h1 h2 h3 h4) fun σ H Q h => GO.mono (g_args1 h) fun x H1 h1 => by
    obtain ⟨b, c, us, y, rfl, g, gc, hy, q⟩ := ok_dpop0 h1
    refine ⟨b, _, rfl, g, .inl ⟨rfl, us, .inl (.inl gc)⟩, c, us, 0, 0, y, rfl, rfl, gc, by decide, by decide, ?_, hy, q⟩
    have hl : 0 < us.length := (List.getElem?_eq_some_iff.mp hy).1
    unfold seqIndex?
    simp [hl]
end
end Fz

namespace Fz
open PySem L2
section
open PySem.Spec PyProof.Rows

/-! ### for x in e, e a list, a tuple, a text -/
def iAny (K : PySem.W.Frag) (te : TE) : TI := fun σ H R => te σ H fun x H1 => (∃ a, x = .ref a ∧ (∃ xs, SqL K H1 a xs) ∧ R (Itl K a) H1) ∨ (∃ a, x = .ref a ∧ (∃ xs, SqT K H1 a xs) ∧ R (Itt K a) H1) ∨ ∃ z, x = .str z ∧ R (Its z) H1
theorem pi_any {X : Cx} {tg l : Expr} {tl : TE} (hl : PE X l tl) : PI X tg l (iAny X.K tl) := by
  refine ⟨fun pins s σ H R I h => ?_⟩
  refine thn (hl.run pins s σ H _ I h) fun v s1 ⟨x, H1, I1, r1, q1⟩ => ?_
  rcases q1 with ⟨a, e, ⟨xs, hq⟩, q⟩ | ⟨a, e, ⟨xs, hq⟩, q⟩ | ⟨z, e, q⟩
  · subst e
    cases r1
    obtain ⟨its, rv, p, hz⟩ := I1.list hq
    refine wpAny_pyIter_list p.isList ?_
    exact pi_one (tk := s1.toks) I1 _ (turn_list a _) ⟨_, Heap.get?_push_size _ rfl, rfl, rfl⟩ q
  · subst e
    cases r1
    obtain ⟨its, rv, p, hz⟩ := I1.tuple hq
    refine wpAny_pyIter_tuple (show s1.heap.IsTuple a its.toArray from p) ?_
    exact pi_one (tk := s1.toks) I1 _ (turn_tuple a _) ⟨_, Heap.get?_push_size _ rfl, rfl, rfl⟩ q
  · subst e
    obtain ⟨t, rfl⟩ := r1
    cases ha : z.cps.all (· < 128)
    · exact wpAny_pyIter_wide ha (pi_one (tk := s1.toks) I1 _ (turn_str _ z t "str_iterator" (.inr rfl)) ⟨_, Heap.get?_push_size _ rfl, rfl, rfl⟩ q)
    · exact wpAny_pyIter_ascii ha (pi_one (tk := s1.toks) I1 _ (turn_str _ z t "str_ascii_iterator" (.inl rfl)) ⟨_, Heap.get?_push_size _ rfl, rfl, rfl⟩ q)

end
section
variable {A : Gm} {pr : List Nat} {e : En} {ρ : Env} {σ : St} {τ : List (Option D)} {ts : List (Option V)} {H : Hp} {d : D} {v : V}
/-- a value at hand is frozen for good; a stretch of its own begins -/
theorem ST.freeze (st : ST A pr e ρ σ (τ ++ [some d]) (ts ++ [some v]) H) (lt : τ.length = ts.length) : ∃ e1 : En, Wd e1.F e1.S e1.H ∧ e1.H = H ∧ R A e1.F e1.H (fz d) v (fun _ => False) ∧ ST A pr e1 ρ σ τ ts H ∧
    ∀ {ρ' σ' τ' ts' H'}, ST A pr e1 ρ' σ' τ' ts' H' → ST A pr e ρ' σ' τ' ts' H' := by
  obtain ⟨F, S, ro, l, w, x, p⟩ := st
  have ll : (ρ ++ τ).length = (σ ++ ts).length := by rw [List.length_append, List.length_append, l, lt]
  rw [← List.append_assoc, ← List.append_assoc] at ro
  obtain ⟨S1, S2, r, back, q1, q2⟩ := ro.takeMid (Y := []) (VY := []) ll
  rw [List.append_nil, List.append_nil] at back
  have w1 : Wd (fun b => F b ∨ S1 b) S2 H := ⟨fun b z y => z.elim (fun z => w.fs b z (q2 b y)) fun z => (q1 b z).2 y, fun b z => w.lv b (z.elim (fun z => z.imp id fun z => (q1 b z).1) fun z => .inr (q2 b z))⟩
  have x1 : Ext F S H (fun b => F b ∨ S1 b) S2 H := ⟨fun _ _ _ => rfl, fun _ z => .inl z, fun b z => z.imp id fun z => .inl (q1 b z).1, fun b z => .inl (q2 b z), fun _ z => z⟩
  refine ⟨⟨fun b => F b ∨ S1 b, S2, H, e.ar⟩, w1, rfl, R.fz r (fun b z => .inl z) (fun b z => .inr z), ⟨_, S2, back.frame (fun _ z => .inl z) fun _ _ => rfl, l, w1, Ext.refl, p⟩, fun {ρ' σ' τ' ts' H'} h => ?_⟩
  obtain ⟨F2, S2', ro2, l2, w2, x2, p2⟩ := h
  exact ⟨F2, S2', ro2, l2, w2, (x.trans x1).trans x2, p2⟩
end
/-- what a walk gives -/
def itemsD : D → Option (List D)
  | .lst _ xs => some xs
  | .tup xs => some xs
  | .str z => some (z.cps.toList.map fun c => .str ⟨#[c]⟩)
  | .scr ns => some (ns.map .int)
  | _ => none
def evIt (f : EvE) : EvI := fun ρ => (f ρ).bind fun ρ1 d => match itemsD (fz d) with
  | some ds => .ok ρ1 ds
  | none => .bad
theorem RL.mem {A : Gm} {F : FP} {H : Hp} {ds : List D} {vs : List V} {S : FP} {i : Nat} {x : V} (rl : RL A F H ds vs S) (hx : vs[i]? = some x) : ∃ d, ds[i]? = some d ∧ R A F H d x S := by
  have hi : i < ds.length := by rw [← rl.length]; exact (List.getElem?_eq_some_iff.mp hx).1
  obtain ⟨v, hv, r⟩ := rl.get (i := i) (d := ds[i]) (by simp [hi])
  rw [hx] at hv
  cases hv
  exact ⟨ds[i], by simp [hi], r⟩
section
variable {A : Gm} {pr : List Nat} {W : WX} {e : En} {H : Hp} {d : D} {v : V} {ds : List D} {K : PySem.W.Frag} {a : Addr} {vs : List V}
theorem src_list (we : Wd e.F e.S e.H) (rl : RL A e.F e.H ds vs (fun _ => False)) (sq : ∀ H, (∀ b, e.F b → H b = e.H b) → SqL K H a vs) : Src A (Itl K a) e ds where
  go := fun i H hi hk => by
    have hi' : i < vs.length := by rw [rl.length]; exact hi
    exact ⟨vs, vs[i], sq H hk, by simp [hi']⟩
  stop := fun H hk => ⟨vs, sq H hk, by rw [rl.length]; exact Nat.le_refl _⟩
  yld := fun i H x H' pr ρ σ τ ts hi hy st => by
    obtain ⟨rfl, q⟩ := hy
    obtain ⟨d, hd, r⟩ := rl.mem (q vs (sq _ (st.kp we)))
    exact ⟨d, hd, st.recall we r⟩
theorem src_tup (we : Wd e.F e.S e.H) (rl : RL A e.F e.H ds vs (fun _ => False)) (sq : ∀ H, (∀ b, e.F b → H b = e.H b) → SqT K H a vs) : Src A (Itt K a) e ds where
  go := fun i H hi hk => by
    have hi' : i < vs.length := by rw [rl.length]; exact hi
    exact ⟨vs, vs[i], sq H hk, by simp [hi']⟩
  stop := fun H hk => ⟨vs, sq H hk, by rw [rl.length]; exact Nat.le_refl _⟩
  yld := fun i H x H' pr ρ σ τ ts hi hy st => by
    obtain ⟨rfl, q⟩ := hy
    obtain ⟨d, hd, r⟩ := rl.mem (q vs (sq _ (st.kp we)))
    exact ⟨d, hd, st.recall we r⟩
theorem src_str {z : Str} : Src A (Its z) e (z.cps.toList.map fun c => .str ⟨#[c]⟩) where
  go := fun i H hi _ => by show _ < _; simpa using hi
  stop := fun H _ => by show _ ≤ _; simp
  yld := fun i H x H' pr ρ σ τ ts hi hy st => by
    obtain ⟨rfl, c, hc, rfl⟩ := hy
    exact ⟨.str ⟨#[c]⟩, by simp [hc], st.push fun F => rfl⟩
theorem src_rng {lo : Int} {n : Nat} : Src A (Itr lo n) e ((List.range n).map fun i => D.int (lo + (i : Nat))) where
  go := fun i H hi _ => by show _ < _; simpa using hi
  stop := fun H _ => by show _ ≤ _; simp
  yld := fun i H x H' pr ρ σ τ ts hi hy st => by
    obtain ⟨rfl, rfl⟩ := hy
    have hi : i < n := by simpa using hi
    exact ⟨.int (lo + (i : Nat)), by simp [hi], st.push fun F => rfl⟩
theorem RL.scr {A : Gm} {F : FP} {H : Hp} : ∀ {ns : List Int}, RL A F H (ns.map D.int) (ns.map V.int) (fun _ => False) := RL.ofInts
theorem src_of {d : D} {ds : List D} (hK : K = A.K) (we : Wd e.F e.S e.H) (r : R A e.F e.H d v (fun _ => False)) (nd : nw d = true) (h : itemsD d = some ds) :
    (∃ a, v = .ref a ∧ (∃ xs, SqL K e.H a xs) ∧ Src A (Itl K a) e ds) ∨ (∃ a, v = .ref a ∧ (∃ xs, SqT K e.H a xs) ∧ Src A (Itt K a) e ds) ∨ ∃ z, v = .str z ∧ Src A (Its z) e ds := by
  cases d <;> first | (cases h; done) | skip
  · cases h
    exact .inr (.inr ⟨_, r, src_str⟩)
  · cases h
    obtain ⟨a, vs, rfl, fa, g, rl⟩ := r
    exact .inr (.inl ⟨a, rfl, ⟨vs, .of g⟩, src_tup we rl fun H hk => .inl (.inl (by rw [hk a fa]; exact g))⟩)
  · rename_i o xs
    cases h
    cases o with
    | true => cases nd
    | false =>
      obtain ⟨a, vs, rfl, fa, g, rl⟩ := r
      exact .inl ⟨a, rfl, ⟨vs, .inl (.inl g)⟩, src_list we rl fun H hk => .inl (.inl (by rw [hk a fa]; exact g))⟩
  · rename_i ns
    cases h
    subst hK
    obtain ⟨a, rfl, q⟩ := r
    refine .inl ⟨a, rfl, ⟨ns.map V.int, q.imp And.right id⟩, src_list we RL.scr fun H hk => q.imp (fun q => ?_) id⟩
    rcases q.2 with g | ⟨o, g⟩
    · exact .inl (by rw [hk a q.1]; exact g)
    · exact .inr ⟨o, by rw [hk a q.1]; exact g⟩
end
section
variable {X : Cx} {A : Gm} {pr : List Nat} {W : WX} {tg ee ea eb : Expr} {f : EvE} {p0 pos : Pos} {a b : Op}
theorem gw_any (hK : X.K = A.K) (he : GE X A pr W ee f) : GW X A pr W tg ee (evIt f) := PI_imp (pi_any he) fun σ H Rr h => by
  obtain ⟨e, ρ, τ, ts, st, h⟩ := h
  refine ⟨e, ρ, τ, ts, st, ?_⟩
  have lt := st.lenT
  unfold evIt at h
  cases hr : f ρ with
  | ok ρ1 d =>
    simp only [hr, Res.bind_ok] at h
    intro v H' s1
    cases hd : itemsD (fz d) with
    | none => rw [hd] at h; exact h.elim
    | some ds =>
      rw [hd] at h
      obtain ⟨e1, w1, rfl, r, s2, back⟩ := s1.freeze lt
      rcases src_of (K := X.K) hK w1 r (nw_fz d) hd with ⟨a, rfl, sq, sr⟩ | ⟨a, rfl, sq, sr⟩ | ⟨z, rfl, sr⟩
      · exact .inl ⟨a, rfl, sq, h e1 _ _ w1 s2 back sr⟩
      · exact .inr (.inl ⟨a, rfl, sq, h e1 _ _ w1 s2 back sr⟩)
      · exact .inr (.inr ⟨z, rfl, h e1 _ _ w1 s2 back sr⟩)
  | ex ρ1 c x => simp only [hr, Res.bind_ex] at h; exact h
  | bad => simp only [hr, Res.bind_bad] at h; exact h
end

/-! ### walks over values of several operands -/
def allS : List (Option D) → Option (List D)
  | [] => some []
  | some d :: r => (allS r).map (d :: ·)
  | none :: _ => none
theorem allS_eq : ∀ {tds : List (Option D)} {ds : List D}, allS tds = some ds → tds = ds.map some
  | [], ds, h => by cases h; rfl
  | none :: r, ds, h => by cases h
  | some d :: r, ds, h => by
    unfold allS at h
    cases hr : allS r with
    | none => rw [hr] at h; cases h
    | some es => rw [hr] at h; cases h; rw [allS_eq hr]; rfl
def evNI (ops : List Op) (p : List D → Option (List D)) : EvI := fun ρ => (evOps ops ρ).bind fun ρ1 tds => match allS tds with
  | some ds => match p (fzL ds) with
    | some out => .ok ρ1 out
    | none => .bad
  | none => .bad
theorem ST.freezeL {A : Gm} {pr : List Nat} {e : En} {ρ : Env} {σ : St} {τ : List (Option D)} {ts : List (Option V)} {H : Hp} {ds : List D} {vs : List V} (st : ST A pr e ρ σ (τ ++ ds.map some) (ts ++ vs.map some) H) (lt : τ.length = ts.length) :
    ∃ e1 : En, Wd e1.F e1.S e1.H ∧ e1.H = H ∧ RL A e1.F e1.H (fzL ds) vs (fun _ => False) ∧ ST A pr e1 ρ σ τ ts H ∧ ∀ {ρ' σ' τ' ts' H'}, ST A pr e1 ρ' σ' τ' ts' H' → ST A pr e ρ' σ' τ' ts' H' := by
  obtain ⟨F, S, ro, l, w, x, p⟩ := st
  have ll : (ρ ++ τ).length = (σ ++ ts).length := by rw [List.length_append, List.length_append, l, lt]
  rw [← List.append_assoc, ← List.append_assoc] at ro
  obtain ⟨us, ws, S2, S1, ev, back, rr, q2, q1⟩ := ro.split
  have hq := List.append_inj ev (by rw [← ll, back.length])
  rw [← hq.1] at back
  rw [← hq.2] at rr
  obtain ⟨ws', e', rl⟩ := RO.toL rr
  have ew : ws' = vs := by
    have : ws'.map some = vs.map some := e'.symm
    exact (List.map_inj_right (fun _ _ z => Option.some.inj z)).mp this
  subst ew
  have w1 : Wd (fun b => F b ∨ S1 b) S2 H := ⟨fun b z y => z.elim (fun z => w.fs b z (q2 b y).1) fun z => (q2 b y).2 z, fun b z => w.lv b (z.elim (fun z => z.imp id fun z => q1 b z) fun z => .inr (q2 b z).1)⟩
  have x1 : Ext F S H (fun b => F b ∨ S1 b) S2 H := ⟨fun _ _ _ => rfl, fun _ z => .inl z, fun b z => z.imp id fun z => .inl (q1 b z), fun b z => .inl (q2 b z).1, fun _ z => z⟩
  refine ⟨⟨fun b => F b ∨ S1 b, S2, H, e.ar⟩, w1, rfl, RL.fz rl (fun b z => .inl z) (fun b z => .inr z), ⟨_, S2, back.frame (fun _ z => .inl z) fun _ _ => rfl, l, w1, Ext.refl, p⟩, fun {ρ' σ' τ' ts' H'} h => ?_⟩
  obtain ⟨F2, S2', ro2, l2, w2, x2, p2⟩ := h
  exact ⟨F2, S2', ro2, l2, w2, (x.trans x1).trans x2, p2⟩
theorem gi_args {A : Gm} {pr : List Nat} {W : WX} {σ : St} {H : Hp} {ops : List Op} {p : List D → Option (List D)} {Rr : It → Hp → Prop} {K : List V → Hp → Prop} (h : GI A pr W (evNI ops p) σ H Rr)
    (k : ∀ (e1 : En) (vs : List V) (ds out : List D), Wd e1.F e1.S e1.H → RL A e1.F e1.H ds vs (fun _ => False) → nwL ds = true → p ds = some out → (∀ J, Src A J e1 out → Rr J e1.H) → K vs e1.H) : GA A pr W ops σ H K := by
  obtain ⟨e, ρ, τ, ts, st, h⟩ := h
  have lt := st.lenT
  refine ⟨e, ρ, τ, ts, st, ?_⟩
  unfold evNI at h
  cases hr : evOps ops ρ with
  | ok ρ1 tds =>
    simp only [hr, Res.bind_ok] at h
    intro vs H' s1 nk
    cases ha : allS tds with
    | none => rw [ha] at h; exact h.elim
    | some ds =>
      rw [ha] at h
      dsimp only at h
      rw [allS_eq ha] at s1
      cases hp : p (fzL ds) with
      | none => rw [hp] at h; exact h.elim
      | some out =>
        rw [hp] at h
        obtain ⟨e1, w1, rfl, rl, s2, back⟩ := s1.freezeL lt
        exact k e1 vs (fzL ds) out w1 rl (nwL_fz ds) hp fun J sr => h e1 J _ w1 s2 back sr
  | ex ρ1 c x => simp only [hr, Res.bind_ex] at h; exact h
  | bad => simp only [hr, Res.bind_bad] at h; exact h

def pRng1 (ds : List D) : Option (List D) := match ds with
  | [.int j] => if -(2 ^ 62) ≤ j ∧ j < 2 ^ 62 then some ((List.range j.toNat).map fun i => D.int (i : Nat)) else none
  | _ => none
def pRng2 (ds : List D) : Option (List D) := match ds with
  | [.int i, .int j] => if -(2 ^ 62) ≤ i ∧ i < 2 ^ 62 ∧ -(2 ^ 62) ≤ j ∧ j < 2 ^ 62 then some ((List.range (j - i).toNat).map fun k => D.int (i + (k : Nat))) else none
  | _ => none
def enumD : Nat → List D → List D
  | _, [] => []
  | n, d :: ds => .tup [.int n, d] :: enumD (n + 1) ds
def pEnum (ds : List D) : Option (List D) := match ds with
  | [.lst _ xs] => some (enumD 0 xs)
  | _ => none
theorem enumD_get : ∀ {ds : List D} {n i : Nat} {d : D}, ds[i]? = some d → (enumD n ds)[i]? = some (.tup [.int ((n + i : Nat) : Int), d])
  | [], n, i, d, h => by simp at h
  | x :: ds, n, 0, d, h => by simp at h; subst h; rfl
  | x :: ds, n, i + 1, d, h => by
    have := enumD_get (n := n + 1) (i := i) (by simpa using h)
    show (enumD (n + 1) ds)[i]? = _
    rw [this, show n + 1 + i = n + (i + 1) by omega]
theorem enumD_len : ∀ {ds : List D} {n : Nat}, (enumD n ds).length = ds.length
  | [], n => rfl
  | x :: ds, n => by simp [enumD, enumD_len]
/-- a new tuple of frozen things at hand -/
theorem ST.newTup {A : Gm} {pr : List Nat} {e : En} {ρ : Env} {σ : St} {τ : List (Option D)} {ts : List (Option V)} {H : Hp} {p : Addr} {ds : List D} {vs : List V} (we : Wd e.F e.S e.H) (st : ST A pr e ρ σ τ ts H) (hp : H p = none) (rl : RL A e.F e.H ds vs (fun _ => False)) :
    ST A pr e ρ σ (τ ++ [some (.tup ds)]) (ts ++ [some (.ref p)]) (upd H p (.tup vs)) := by
  have kp := st.kp we
  obtain ⟨F, S, ro, l, w, x, pp⟩ := st
  have ch : ∀ b, F b ∨ S b → upd H p (.tup vs) b = H b := fun b z => upd_ne (fun e => w.lv b z (by rw [e]; exact hp))
  refine ⟨fun b => F b ∨ b = p, S, ?_, l, w.newF hp, x.trans (Ext.newF hp), pp⟩
  rw [← List.append_assoc, ← List.append_assoc]
  have r2 : RL A (fun b => F b ∨ b = p) (upd H p (.tup vs)) ds vs (fun _ => False) := rl.frame (fun b z => .inl (x.ff b z)) fun b z => by
    have z : e.F b := z.elim id fun z => z.elim
    rw [ch b (.inl (x.ff b z)), kp b z]
  exact RO.append (ro.frame (fun _ z => .inl z) ch) (show RO A _ _ [some (.tup ds)] [some (.ref p)] (fun _ => False) from ⟨.ref p, [], fun _ => False, fun _ => False, rfl, ⟨p, vs, rfl, .inr rfl, upd_same, r2⟩, rfl, fun _ z => z.elim, fun _ z => z.elim⟩) (fun b hb => ⟨hb, id⟩) (fun _ z => z.elim)
section
variable {X : Cx} {A : Gm} {pr : List Nat} {W : WX} {tg ee ea eb : Expr} {f : EvE} {p0 pos tpos : Pos} {a b : Op} {elts : List Expr} {kk : Nat}
theorem gw_rng1 (hg : Gl X "range") (hm : X.mg "range" = none) (ha : GL X A pr W [ea] [a]) (hs : starEach [ea] X.env = [(false, eval ea X.env)] := by rfl) : GW X A pr W tg (.Call (.Name "range" p0) [ea] [] pos) (evNI [a] pRng1) :=
  PI_imp (pi_range1 hg hm ha hs) fun σ H Rr h => gi_args h fun e1 vs ds out w rl nd hp k => by
    unfold pRng1 at hp
    split at hp
    · rename_i j
      split at hp
      · rename_i hb
        cases hp
        obtain ⟨v, rfl, r⟩ := rl.un
        refine ⟨j, by rw [show v = _ from r], hb.1, hb.2, k _ ?_⟩
        have := src_rng (A := A) (e := e1) (lo := 0) (n := j.toNat)
        simpa using this
      · cases hp
    · cases hp
theorem gw_rng2 (hg : Gl X "range") (hm : X.mg "range" = none) (ha : GL X A pr W [ea, eb] [a, b]) (hs : starEach [ea, eb] X.env = [(false, eval ea X.env), (false, eval eb X.env)] := by rfl) (hs2 : starEach [eb] X.env = [(false, eval eb X.env)] := by rfl) :
    GW X A pr W tg (.Call (.Name "range" p0) [ea, eb] [] pos) (evNI [a, b] pRng2) :=
  PI_imp (pi_range2 hg hm ha hs hs2) fun σ H Rr h => gi_args h fun e1 vs ds out w rl nd hp k => by
    unfold pRng2 at hp
    split at hp
    · rename_i i j
      split at hp
      · rename_i hb
        cases hp
        obtain ⟨v, v2, S1, S2, rfl, r, r2, _⟩ := rl.un2
        exact ⟨i, j, by rw [show v = _ from r, show v2 = _ from r2], hb, k _ src_rng⟩
      · cases hp
    · cases hp
theorem gw_enum (hK : X.K = A.K) (hg : Gl X "enumerate") (hm : X.mg "enumerate" = none) (ha : GL X A pr W [ea] [a]) (hs : starEach [ea] X.env = [(false, eval ea X.env)] := by rfl) : GW X A pr W (.Tuple elts kk tpos) (.Call (.Name "enumerate" p0) [ea] [] pos) (evNI [a] pEnum) :=
  PI_imp (pi_enum hg hm ha hs) fun σ H Rr h => gi_args h fun e1 vs ds out w rl nd hp k => by
    unfold pEnum at hp
    split at hp
    · rename_i o xs
      cases hp
      obtain ⟨v, rfl, r⟩ := rl.un
      have nd' : (!o && nwL xs) = true := by simpa [nwL, nw] using nd
      simp only [Bool.and_eq_true, Bool.not_eq_true'] at nd'
      obtain ⟨rfl, nx⟩ := nd'
      obtain ⟨p, us, rfl, fp, g, rx⟩ := r
      refine ⟨p, us, rfl, .inl (.inl g), k _ ⟨fun i H hi hk => ?_, fun H hk => ⟨us, .inl (.inl (by rw [hk p fp]; exact g)), by rw [rx.length, enumD_len]; exact Nat.le_refl _⟩, fun i H x H' pr ρ σ τ ts hi hy st => ?_⟩⟩
      · rw [enumD_len] at hi
        have hi' : i < us.length := by rw [rx.length]; exact hi
        exact ⟨us, us[i], .inl (.inl (by rw [hk p fp]; exact g)), by simp [hi']⟩
      · obtain ⟨T, x', rfl, hT, rfl, q⟩ := hy
        obtain ⟨d, hd, r⟩ := rx.mem (q us (.inl (.inl (by rw [st.kp w p fp]; exact g))))
        refine ⟨_, enumD_get hd, st.newTup w hT ?_⟩
        exact RL.two (S1 := fun _ => False) (S2 := fun _ => False) (by show V.int _ = V.int _; simp) r (fun _ z => z.elim) (fun _ z => z)
    · cases hp
end
end Fz

namespace Fz
open PySem L2

/-! ### list comprehensions -/
def wipeE (ρ : Env) : List Nat → Env
  | [] => ρ
  | v :: vs => (wipeE ρ vs).set v none
theorem wipeE_length (ρ : Env) : ∀ vs, (wipeE ρ vs).length = ρ.length
  | [] => rfl
  | v :: vs => by unfold wipeE; rw [List.length_set, wipeE_length]
theorem wipeE_some {ρ : Env} {d : D} {j : Nat} : ∀ {vs : List Nat}, (wipeE ρ vs)[j]? = some (some d) → j ∉ vs ∧ ρ[j]? = some (some d)
  | [], h => ⟨by simp, h⟩
  | v :: vs, h => by
    unfold wipeE at h
    by_cases e : v = j
    · subst e
      rw [List.getElem?_set] at h
      simp at h
    · rw [List.getElem?_set_ne e] at h
      obtain ⟨a, b⟩ := wipeE_some h
      exact ⟨by simp [Ne.symm e, a], b⟩
theorem RO.congr {A : Gm} {F : FP} {H : Hp} : ∀ {ds : List (Option D)} {us us' : List (Option V)} {S : FP}, RO A F H ds us S → us'.length = us.length → (∀ (j : Nat) (d : D), ds[j]? = some (some d) → us'[j]? = us[j]?) → RO A F H ds us' S
  | [], us, us', S, h, l, _ => by
    rw [show us = [] from h] at l
    exact List.eq_nil_of_length_eq_zero l
  | none :: ds, us, us', S, h, l, k => by
    obtain ⟨v, vs, rfl, r⟩ := h
    match us', l with
    | w :: ws, l => exact ⟨w, ws, rfl, RO.congr r (by simpa using l) fun j d hj => by simpa using k (j + 1) d (by simpa using hj)⟩
  | some d :: ds, us, us', S, h, l, k => by
    obtain ⟨v, vs, S1, S2, rfl, r, r2, q1, q2⟩ := h
    match us', l with
    | w :: ws, l =>
      have e : w = some v := by simpa using k 0 d rfl
      subst e
      exact ⟨v, ws, S1, S2, rfl, r, RO.congr r2 (by simpa using l) (fun j d hj => by simpa using k (j + 1) d (by simpa using hj)), q1, q2⟩
theorem RO.wipe {A : Gm} {F : FP} {H : Hp} {ρ τ : List (Option D)} {us : List (Option V)} {S : FP} : ∀ {vs : List Nat}, (∀ v ∈ vs, v < ρ.length) → RO A F H (ρ ++ τ) us S → RO A F H (wipeE ρ vs ++ τ) us S
  | [], _, h => h
  | v :: vs, hv, h => by
    have h1 := RO.wipe (vs := vs) (fun w hw => hv w (by simp [hw])) h
    have h2 := RO.clear v (us.getD v none) h1
    have hl : v < us.length := by rw [h.length, List.length_append]; have := hv v (by simp); omega
    rw [List.set_append_left _ _ (by rw [wipeE_length]; exact hv v (by simp))] at h2
    have e : us.set v (us.getD v none) = us := by
      apply List.ext_getElem?
      intro i
      by_cases q : v = i
      · subst q; simp [hl]
      · rw [List.getElem?_set_ne q]
    rw [e] at h2
    exact h2
section
variable {A : Gm} {pr : List Nat} {e : En} {ρ ρ2 : Env} {σ σ' σ2 : St} {τ : List (Option D)} {ts : List (Option V)} {H : Hp} {d : D} {v : V} {vs : List Nat}
/-- slots that are not looked at any more -/
theorem ST.swap (st : ST A pr e ρ σ τ ts H) (hv : ∀ v ∈ vs, v < ρ.length) (np : ∀ v ∈ vs, v ∉ pr) (hl : σ'.length = σ.length) (hs : ∀ j, j ∉ vs → σ'[j]? = σ[j]?) : ST A pr e (wipeE ρ vs) σ' τ ts H := by
  obtain ⟨F, S, ro, l, w, x, p⟩ := st
  refine ⟨F, S, RO.congr (RO.wipe hv ro) (by simp [hl]) (fun j d hj => ?_), by rw [wipeE_length, hl]; exact l, w, x, fun k hk => ?_⟩
  · by_cases hjl : j < (wipeE ρ vs).length
    · rw [List.getElem?_append_left hjl] at hj
      have q := (wipeE_some hj).1
      rw [wipeE_length] at hjl
      rw [List.getElem?_append_left (by omega), List.getElem?_append_left (by omega), hs j q]
    · rw [wipeE_length] at hjl
      rw [List.getElem?_append_right (by omega), List.getElem?_append_right (by omega), hl]
  · rw [hs k fun z => np k z hk]
    exact p k hk
theorem wipe_set {i : Nat} {x : Option V} : ∀ {vs : List Nat}, i ∈ vs → wipe (σ.set i x) vs = wipe σ vs
  | v :: vs, h => by
    apply List.ext_getElem?
    intro j
    by_cases hj : j ∈ v :: vs
    · have a : ∀ σ : St, j < σ.length → (wipe σ (v :: vs))[j]? = some none := fun σ hl => by
        have hl' : j < (wipe σ (v :: vs)).length := by rw [wipe_length]; exact hl
        cases q : (wipe σ (v :: vs))[j]? with
        | none => rw [List.getElem?_eq_none_iff] at q; omega
        | some o =>
          cases o with
          | none => rfl
          | some y => exact absurd hj (wipe_some q).2
      by_cases hl : j < σ.length
      · rw [a σ hl, a _ (by simpa using hl)]
      · rw [List.getElem?_eq_none (by rw [wipe_length]; simpa using hl), List.getElem?_eq_none (by rw [wipe_length]; simpa using hl)]
    · rw [wipe_out hj, wipe_out hj, List.getElem?_set_ne (fun z => hj (by rw [← z]; exact h))]
theorem isTG_same : ∀ {is : List Nat} {us : List V} {σ : St} {H : Hp} {K : St → Hp → Prop}, (∀ i ∈ is, i ∈ vs) → isTG is us σ H K → isTG is us σ H fun σ2 H2 => K σ2 H2 ∧ wipe σ2 vs = wipe σ vs ∧ σ2.length = σ.length
  | [], us, σ, H, K, _, h => ⟨h.1, h.2, rfl, rfl⟩
  | i :: is, us, σ, H, K, hi, h => by
    obtain ⟨u, us', rfl, h⟩ := h
    refine ⟨u, us', rfl, ?_⟩
    have h2 := isTG_same (is := is) (fun j hj => hi j (by simp [hj])) h
    have e := wipe_set (σ := σ) (x := some u) (hi i (by simp))
    have el : (σ.set i (some u)).length = σ.length := by simp
    show isTG is us' (σ.set i (some u)) H _
    rw [e, el] at h2
    exact h2
theorem isTG_mono : ∀ {is : List Nat} {us : List V} {σ : St} {H : Hp} {K K' : St → Hp → Prop}, isTG is us σ H K → (∀ σ2 H2, K σ2 H2 → K' σ2 H2) → isTG is us σ H K'
  | [], us, σ, H, K, K', h, k => ⟨h.1, k _ _ h.2⟩
  | i :: is, us, σ, H, K, K', h, k => by
    obtain ⟨u, us', rfl, h⟩ := h
    exact ⟨u, us', rfl, isTG_mono (is := is) h k⟩
theorem tg_mono {K : PySem.W.Frag} {t : Tgt} {Kt Kt' : St → Hp → Prop} (h : t.tg K v σ H Kt) (k : ∀ σ2 H2, Kt σ2 H2 → Kt' σ2 H2) : t.tg K v σ H Kt' := by
  cases t with
  | nm i => exact k _ _ h
  | tup is =>
    obtain ⟨a, xs, e, sq, l, h⟩ := h
    exact ⟨a, xs, e, sq, l, isTG_mono h k⟩
def Tgt.slots : Tgt → List Nat
  | .nm i => [i]
  | .tup is => is
theorem Tgt.same {K : PySem.W.Frag} {t : Tgt} {Kt : St → Hp → Prop} (hi : ∀ i ∈ t.slots, i ∈ vs) (h : t.tg K v σ H Kt) : t.tg K v σ H fun σ2 H2 => Kt σ2 H2 ∧ wipe σ2 vs = wipe σ vs ∧ σ2.length = σ.length := by
  cases t with
  | nm i => exact ⟨h, wipe_set (hi i (by simp [Tgt.slots])), by simp⟩
  | tup is =>
    obtain ⟨a, xs, e, sq, l, h⟩ := h
    exact ⟨a, xs, e, sq, l, isTG_same hi h⟩
end

def lcD (t : Tgt) (test : EvT) (elt : EvE) (vs : List Nat) : List D → Env → List D → Res D
  | [], ρ, acc => .ok ρ (.lst true acc)
  | d :: ds, ρ, acc => match t.set d ρ with
    | none => .bad
    | some ρ1 => match test ρ1 with
      | .ok ρ2 true => match elt ρ2 with
        | .ok ρ3 y => if acc.length < 1000000 then lcD t test elt vs ds (wipeE ρ3 vs) (acc ++ [y]) else .bad
        | _ => .bad
      | .ok ρ2 false => lcD t test elt vs ds (wipeE ρ2 vs) acc
      | _ => .bad
def evLc (src : EvI) (t : Tgt) (test : EvT) (elt : EvE) (vs : List Nat) : EvE := fun ρ => (src ρ).bind fun ρ1 ds => if (∀ v ∈ vs, v < ρ1.length) then lcD t test elt vs ds (wipeE ρ1 vs) [] else .bad
def tvT : EvT := fun ρ => .ok ρ true
abbrev GTs (X : Cx) (A : Gm) (pr : List Nat) (W : WX) (ifs : List Expr) (f : EvT) : Prop := PTs X ifs (GT A pr W f)
section
variable {X : Cx} {A : Gm} {pr : List Nat} {W : WX} {ee : Expr} {c : EvT}
theorem gts_nil : GTs X A pr W [] tvT := ⟨fun pins s σ H Q I h => pts_nil.run pins s σ H Q I (by
  obtain ⟨e, ρ, τ, ts, st, h⟩ := h
  exact h H st)⟩
theorem gts_one (h : GB X A pr W ee c) : GTs X A pr W [ee] c := pts_one h
end
abbrev WF0 : WX := fun _ _ _ _ => False
/-- what a comprehension's list is, while it is made -/
theorem ST.accNew {A : Gm} {pr : List Nat} {e : En} {ρ : Env} {σ : St} {τ : List (Option D)} {ts : List (Option V)} {H : Hp} {p : Addr} (st : ST A pr e ρ σ τ ts H) (hp : H p = none) :
    ST A pr e ρ σ (τ ++ [some (.lst true [])]) (ts ++ [some (.ref p)]) (upd H p (.lst [])) := by
  obtain ⟨F, S, ro, l, w, x, pp⟩ := st
  have ch : ∀ b, F b ∨ S b → upd H p (.lst []) b = H b := fun b z => upd_ne (fun e => w.lv b z (by rw [e]; exact hp))
  refine ⟨F, fun b => S b ∨ b = p, ?_, l, w.new hp, x.trans (Ext.new hp), pp⟩
  rw [← List.append_assoc, ← List.append_assoc]
  have r2 : RO A F (upd H p (.lst [])) [some (.lst true [])] [some (.ref p)] (fun b => b = p) :=
    ⟨.ref p, [], fun b => b = p, fun _ => False, rfl, ⟨p, [], fun _ => False, rfl, rfl, upd_same, rfl, fun _ z => z.elim⟩, rfl, fun b hb => ⟨hb, id⟩, fun _ z => z.elim⟩
  exact RO.append (ro.frame (fun _ z => z) ch) r2 (fun b hb => ⟨.inl hb, fun z => w.lv b (.inr hb) (by rw [z]; exact hp)⟩) (fun b hb => .inr hb)
/-- one item more -/
theorem ST.accPush {A : Gm} {pr : List Nat} {e : En} {ρ : Env} {σ : St} {τ : List (Option D)} {ts : List (Option V)} {H : Hp} {p : Addr} {acc : List D} {y : D} {yv : V} (st : ST A pr e ρ σ (τ ++ [some (.lst true acc)] ++ [some y]) (ts ++ [some (.ref p)] ++ [some yv]) H) (lt : τ.length = ts.length) :
    ∃ us, H p = some (.lst us) ∧ us.length = acc.length ∧ ST A pr e ρ σ (τ ++ [some (.lst true (acc ++ [y]))]) (ts ++ [some (.ref p)]) (upd H p (.lst (us ++ [yv]))) := by
  obtain ⟨F, S, ro, l, w, x, pp⟩ := st
  have ll : (ρ ++ τ).length = (σ ++ ts).length := by rw [List.length_append, List.length_append, l, lt]
  rw [List.append_assoc τ, List.append_assoc ts, ← List.append_assoc ρ, ← List.append_assoc σ] at ro
  obtain ⟨us', ws, S0, S1, ev, back, rr, q0, q1⟩ := ro.split
  have hq := List.append_inj ev (by rw [← ll, back.length])
  rw [← hq.1] at back
  rw [← hq.2] at rr
  obtain ⟨v1, w1, A1, A2, e1, r1, r2, a1, a2⟩ := rr
  injection e1 with e1 e2
  injection e1 with e1
  subst e1 e2
  obtain ⟨v2, w2, B1, B2, e3, ry, _, b1, b2⟩ := r2
  injection e3 with e3 e4
  injection e3 with e3
  subst e3
  obtain ⟨a, us, S', ea, sa, g, rl, qs⟩ := r1
  injection ea with ea
  subst ea
  have sS : S p := q1 p (a1 p sa).1
  have hF : ¬ F p := fun z => w.fs p z sS
  have nB : ¬ B1 p := fun z => (a1 p sa).2 (b1 p z).1
  have ch : ∀ b, F b ∨ S0 b → upd H p (.lst (us ++ [yv])) b = H b := fun b z => upd_ne fun e => z.elim (fun z => hF (e ▸ z)) fun z => (q0 b z).2 (by rw [e]; exact (a1 p sa).1)
  refine ⟨us, g, rl.length, F, S, ?_, l, w.set sS, x.trans (Ext.set sS), pp⟩
  rw [← List.append_assoc, ← List.append_assoc]
  have rn : R A F (upd H p (.lst (us ++ [yv]))) (.lst true (acc ++ [y])) (.ref p) (fun b => A1 b ∨ B1 b) := by
    refine ⟨p, us ++ [yv], fun b => S' b ∨ B1 b, rfl, .inl sa, upd_same, RL.append (rl.off hF fun z => (qs p z).2 rfl) (RL.one (ry.off hF nB)) (fun b hb => ⟨.inl hb, fun z => (a1 b (qs b hb).1).2 (b1 b z).1⟩) (fun b hb => .inr hb), fun b hb => ?_⟩
    rcases hb with z | z
    · exact ⟨.inl (qs b z).1, (qs b z).2⟩
    · exact ⟨.inr z, fun e => nB (e ▸ z)⟩
  exact RO.append (back.frame (fun _ z => z) ch) (show RO A F _ [some (.lst true (acc ++ [y]))] [some (.ref p)] (fun b => A1 b ∨ B1 b) from ⟨.ref p, [], fun b => A1 b ∨ B1 b, fun _ => False, rfl, rn, rfl, fun b hb => ⟨hb, id⟩, fun _ z => z.elim⟩)
    (fun b hb => ⟨(q0 b hb).1, fun z => z.elim (fun z => (q0 b hb).2 (a1 b z).1) fun z => (q0 b hb).2 (a2 b (b1 b z).1)⟩) (fun b hb => hb.elim (fun z => q1 b (a1 b z).1) fun z => q1 b (a2 b (b1 b z).1))

theorem wipeE_get {ρ : Env} {j : Nat} : ∀ {vs : List Nat}, (wipeE ρ vs)[j]? = if j ∈ vs ∧ j < ρ.length then some none else ρ[j]?
  | [] => by simp [wipeE]
  | v :: vs => by
    unfold wipeE
    by_cases e : v = j
    · subst e
      by_cases hl : v < ρ.length
      · simp [List.getElem?_set, wipeE_length, hl]
      · simp [List.getElem?_set, wipeE_length, hl]
    · rw [List.getElem?_set_ne e, wipeE_get]
      have : (j ∈ v :: vs ↔ j ∈ vs) := by simp [Ne.symm e]
      simp [this]
theorem wipeE_idem (ρ : Env) (vs : List Nat) : wipeE (wipeE ρ vs) vs = wipeE ρ vs := by
  apply List.ext_getElem?
  intro j
  rw [wipeE_get, wipeE_length, wipeE_get]
  split <;> rfl
theorem wipe_idem (σ : St) (vs : List Nat) : wipe (wipe σ vs) vs = wipe σ vs := by
  apply List.ext_getElem?
  intro j
  by_cases hj : j ∈ vs
  · by_cases hl : j < σ.length
    · have a : ∀ σ : St, j < σ.length → (wipe σ vs)[j]? = some none := fun σ hl => by
        have hl' : j < (wipe σ vs).length := by rw [wipe_length]; exact hl
        cases q : (wipe σ vs)[j]? with
        | none => rw [List.getElem?_eq_none_iff] at q; omega
        | some o =>
          cases o with
          | none => rfl
          | some y => exact absurd hj (wipe_some q).2
      rw [a σ hl, a _ (by rw [wipe_length]; exact hl)]
    · rw [List.getElem?_eq_none (by rw [wipe_length, wipe_length]; omega), List.getElem?_eq_none (by rw [wipe_length]; omega)]
  · rw [wipe_out hj]
section
variable {A : Gm} {pr : List Nat} {W : WX} {e : En} {ρ ρ2 : Env} {σ σ' σ2 : St} {H : Hp} {d : D} {v : V} {vs : List Nat} {Q : VK}
theorem ST.rot {τ1 τ2 : List (Option D)} {ts1 ts2 : List (Option V)} (st : ST A pr e ρ σ (τ1 ++ τ2) (ts1 ++ ts2) H) (lt : τ1.length = ts1.length) : ST A pr e ρ σ (τ2 ++ τ1) (ts2 ++ ts1) H := by
  obtain ⟨F, S, ro, l, w, x, pp⟩ := st
  obtain ⟨u1, u2, S0, S1, ev, r0, r1, q0, q1⟩ := ro.split
  have hq := List.append_inj ev (by rw [← l, r0.length])
  rw [← hq.1] at r0
  obtain ⟨u3, u4, S2, S3, ev2, r2, r3, q2, q3⟩ := r1.split
  rw [ev2] at hq
  have hq2 := List.append_inj hq.2 (by rw [← lt, r2.length])
  rw [← hq2.1] at r2
  rw [← hq2.2] at r3
  refine ⟨F, S, RO.append r0 (RO.append r3 r2 (U := fun b => S1 b) (fun b hb => ⟨q3 b hb, fun z => (q2 b z).2 hb⟩) (fun b hb => (q2 b hb).1)) q0 q1, l, w, x, pp⟩
theorem lc_read {K : PySem.W.Frag} {src : EvI} {t : Tgt} {test : EvT} {elt : EvE} (np : ∀ v ∈ vs, v ∉ pr) (hsl : ∀ i ∈ t.slots, i ∈ vs) (h : G A pr W (evLc src t test elt vs) σ H Q) : tLc (GI A pr W src) (t.tg K) (GT A pr WF0 test) (G A pr WF0 elt) vs σ H Q := by
  obtain ⟨e, ρ, τ, ts, st, h⟩ := h
  have lt := st.lenT
  refine ⟨e, ρ, τ, ts, st, ?_⟩
  unfold evLc at h
  cases hr : src ρ with
  | ok ρ1 ds =>
    simp only [hr, Res.bind_ok] at h
    intro e1 J H1 w1 s1 back sr
    split at h
    · rename_i hvs
      intro Dd hD
      have hσ : ρ1.length = σ.length := s1.len
      have npt : t.all (fun i => i ∉ pr) := by
        cases t with
        | nm i => exact np i (hsl i (by simp [Tgt.slots]))
        | tup is => exact fun i hi => np i (hsl i hi)
      refine ⟨fun i m H => m = ds.length - i ∧ i ≤ ds.length ∧ ∃ ρ0 acc, ST A pr e1 (wipeE ρ0 vs) σ (τ ++ [some (.lst true acc)]) (ts ++ [some (.ref Dd)]) H ∧ SatE A pr W e σ τ ts (lcD t test elt vs (ds.drop i) (wipeE ρ0 vs) acc) Q, ⟨ds.length, by simp, Nat.zero_le _, ρ1, [], ?_, by simpa using h⟩, ?_⟩
      · exact (s1.accNew hD).swap hvs np rfl fun _ _ => rfl
      · rintro i m H ⟨rfl, hi, ρ0, acc, s2, q⟩
        by_cases hlt : i < ds.length
        · refine .inr ⟨sr.go i H hlt (s2.kp w1), fun H' => ∃ ρ0 acc, ST A pr e1 (wipeE ρ0 vs) σ (τ ++ [some (.lst true acc)]) (ts ++ [some (.ref Dd)]) H' ∧ SatE A pr W e σ τ ts (lcD t test elt vs (ds.drop (i + 1)) (wipeE ρ0 vs) acc) Q, fun H' z => ⟨ds.length - (i + 1), by omega, rfl, hlt, z⟩, fun x H' hy => ?_⟩
          obtain ⟨d, hd, s3⟩ := sr.yld i H x H' pr (wipeE ρ0 vs) σ _ _ hlt hy s2
          have ed : ds.drop i = d :: ds.drop (i + 1) := by
            rw [List.drop_eq_getElem_cons hlt]
            have : ds[i] = d := by rw [List.getElem?_eq_getElem hlt] at hd; exact Option.some.inj hd
            rw [this]
          rw [ed] at q
          unfold lcD at q
          have hv0 : ∀ v ∈ vs, v < (wipeE ρ0 vs).length := fun v hv => by
            have := hvs v hv
            have l2 := s2.len
            omega
          have s4 := (s3.rot (by simp [lt])).swap (σ' := wipe σ vs) hv0 np (wipe_length _ _) fun j hj => wipe_out hj
          rw [wipeE_idem] at s4
          cases ht : t.set d (wipeE ρ0 vs) with
          | none => rw [ht] at q; exact q.elim
          | some ρ3 =>
            rw [ht] at q
            dsimp only at q
            have tk := Tgt.same (K := K) (vs := vs) hsl (Tgt.ok (K := K) (Kt := fun σ2 H2 => ST A pr e1 ρ3 σ2 (τ ++ [some (.lst true acc)]) (ts ++ [some (.ref Dd)]) H2) s4 npt ht fun σ2 s5 => s5)
            refine tg_mono tk fun σ2 H2 ⟨s5, we, wl⟩ => ?_
            have we' : wipe σ2 vs = wipe σ vs := by rw [we, wipe_idem]
            refine ⟨we', e1, ρ3, _, _, s5, ?_⟩
            have home : ∀ {ρ' : Env} {τ' : List (Option D)} {ts' : List (Option V)} {H' : Hp}, ST A pr e1 ρ' σ2 τ' ts' H' → ST A pr e1 (wipeE ρ' vs) σ τ' ts' H' := fun s => s.swap (fun v hv => by
              have := hvs v hv
              have l2 := s.len
              rw [wl, wipe_length] at l2
              omega) np (by rw [wl, wipe_length]) fun j hj => by rw [← wipe_out (σ := σ) hj, ← we', wipe_out hj]
            cases hte : test ρ3 with
            | ok ρ4 b =>
              rw [hte] at q
              intro H3 s6
              cases b with
              | true =>
                dsimp only at q
                rw [if_pos rfl]
                refine ⟨e1, ρ4, _, _, s6, ?_⟩
                cases hel : elt ρ4 with
                | ok ρ5 y =>
                  rw [hel] at q
                  dsimp only at q
                  intro yv H4 s7
                  split at q
                  · rename_i hz
                    obtain ⟨us, g, lu, s8⟩ := s7.accPush lt
                    exact ⟨us, g, by rw [lu]; exact Nat.lt_of_lt_of_le hz line6, ρ5, _, home s8, q⟩
                  · exact q.elim
                | ex ρ5 c x => rw [hel] at q; exact q.elim
                | bad => rw [hel] at q; exact q.elim
              | false =>
                rw [if_neg Bool.false_ne_true]
                exact ⟨ρ4, acc, home s6, q⟩
            | ex ρ4 c x => rw [hte] at q; exact q.elim
            | bad => rw [hte] at q; exact q.elim
        · have ei : i = ds.length := by omega
          subst ei
          rw [List.drop_length] at q
          exact .inl ⟨sr.stop H (s2.kp w1), q (.ref Dd) H (back s2)⟩
    · exact h.elim
  | ex ρ1 c x => simp only [hr, Res.bind_ex] at h; exact h
  | bad => simp only [hr, Res.bind_bad] at h; exact h
end
end Fz

namespace Fz
open PySem L2
section
variable {X : Cx} {A : Gm} {pr : List Nat} {W : WX} {tg iter elt : Expr} {ifs : List Expr} {scope : Scope} {own : List (Str × Nat)} {pos spos py : Pos} {src : EvI} {t : Tgt} {test : EvT} {f : EvE} {y : Str} {i : Nat}
theorem ge_lc (hc : X.calm = true) (hN : X.N.Nodup) (hi : GW X A pr W tg iter src) (ok : BlkOk X.N X.env.scope scope own)
    (hg : ∀ (s : Shared) (H : Hp) (C : Addr) (cl : List (Str × Addr)) (fp : List Addr), GTg (X.blk s H scope (compEnvC scope cl C X.env) fp) tg t) (ht : ∀ (s : Shared) (H : Hp) (C : Addr) (cl : List (Str × Addr)) (fp : List Addr), GTs (X.blk s H scope (compEnvC scope cl C X.env) fp) A pr WF0 ifs test)
    (he : ∀ (s : Shared) (H : Hp) (C : Addr) (cl : List (Str × Addr)) (fp : List Addr), GE (X.blk s H scope (compEnvC scope cl C X.env) fp) A pr WF0 elt f)
    (np : ∀ v ∈ own.map (·.2), v ∉ pr := by decide) (hsl : ∀ i ∈ t.slots, i ∈ own.map (·.2) := by decide) (hs : ∀ x, foldedSetIterable iter X.env x = pure x := by intro _; rfl) :
    GE X A pr W (.ListComp elt [⟨tg, iter, ifs, 0⟩] scope pos) (evLc src t test f (own.map (·.2))) := PE_imp (pe_lc hc hN hi ok hg ht he hs) fun σ H Q h => lc_read np hsl h
theorem gs_setLc (hc : X.calm = true) (hN : X.N.Nodup) (hy : X.N[i]? = some y) (hyl : X.env.scope.names.lookup y = some .local) (hp : i ∉ pr) (hi : GW X A pr W tg iter src) (ok : BlkOk X.N X.env.scope scope own)
    (hg : ∀ (s : Shared) (H : Hp) (C : Addr) (cl : List (Str × Addr)) (fp : List Addr), GTg (X.blk s H scope (compEnvC scope cl C X.env) fp) tg t) (ht : ∀ (s : Shared) (H : Hp) (C : Addr) (cl : List (Str × Addr)) (fp : List Addr), GTs (X.blk s H scope (compEnvC scope cl C X.env) fp) A pr WF0 ifs test)
    (he : ∀ (s : Shared) (H : Hp) (C : Addr) (cl : List (Str × Addr)) (fp : List Addr), GE (X.blk s H scope (compEnvC scope cl C X.env) fp) A pr WF0 elt f)
    (np : ∀ v ∈ own.map (·.2), v ∉ pr := by decide) (hsl : ∀ i ∈ t.slots, i ∈ own.map (·.2) := by decide) (hsw : swapsWith (.ListComp elt [⟨tg, iter, ifs, 0⟩] scope pos) (some (.Name y py)) spos.line X.env = pure true := by rfl) (hs : ∀ x, foldedSetIterable iter X.env x = pure x := by intro _; rfl) :
    GQ X A pr W (.Assign [.Name y py] (.ListComp elt [⟨tg, iter, ifs, 0⟩] scope pos) spos) (sSet i (evLc src t test f (own.map (·.2)))) := PS_imp (ps_setLc hc hN hy hyl hsw hi ok hg ht he hs) fun D σ H h => by
  refine lc_read (K := X.K) np hsl (GS.expr h (K := fun v H' => D.nx (σ.set i (some v)) H') fun e ρ1 d v H' _ s1 q => ?_)
  split at q
  · rename_i hl
    exact q _ H' (s1.store (τ := []) (ts := []) hl hp)
  · exact q.elim
end
end Fz

/-! errors as values: isinstance, .value (the library's walk of a caught error, with any own dict) -/
namespace PySem.W
open PySem PySem.Spec PySem.Calls PyProof.Rows
section
variable {prog : Program} {w : World} {A : Around} {E : Value → Shared → Prop} {s : Shared} {K : Frag} {x D : Addr} {ox : Obj}
theorem findObj_dataV {C : Addr} {od : Option Obj} {name : Str} {a g : Value} (hc : (clsIn K C).isSome = true) (ha : findIn K (.ref C) name = some (some a)) (hg : specialIn K a "__get__" = some (some g)) (ht : takesIn K a = some true) : findObj K C od name = some (.bind g a) := by
  obtain ⟨cd, hc⟩ := Option.isSome_iff_exists.mp hc
  unfold findObj
  rw [hc, Option.bind_some, ha, Option.bind_some]
  simp [hg, ht]
theorem kin_classV {Q : Option Value → Shared → Prop} (hga : findIn K (.ref D) "__getattribute__" = some (some (.builtin "BaseException.__getattribute__"))) (hgt : findIn K (.ref D) "__getattr__" = some none) (hsub : subIn K (.ref D) (.type "BaseException") = some true)
    (hdct : hasDictIn K D = true) (ha : findIn K (.ref D) "__class__" = some (some (.builtin "object.__class__")))
    (hn : specialIn K (.builtin "object.__class__") "__get__" = some (some (.builtin "getset_descriptor.__get__"))) (htk : takesIn K (.builtin "object.__class__") = some true) (hm : mroIn K D (.type "object") = some true)
    (X : K.In s.heap) {od : Option Obj} (I : InstAt s.heap x ox D od) (h : Q (some (.ref D)) { s with toks := s.toks + 1 }) : wpAny (model prog w) A (getAttr? (.ref x) "__class__") Q E s := by
  have hf : findObj K D od "__class__" = some (.bind (.builtin "getset_descriptor.__get__") (.builtin "object.__class__")) := findObj_dataV (by obtain ⟨cd, hc, _⟩ := any_some hdct; rw [hc]; rfl) ha hn htk
  obtain ⟨hp, g, d, t, os⟩ := s
  have L0 := I.type (M := model prog w)
  have L1 := looks_findIn (M := model prog w) X hga
  have L2 := looks_findIn (M := model prog w) X hgt
  have L3 := looks_find (M := model prog w) X I hf
  have sub : Looks (model prog w) hp (isInstance (.ref x) (.type "BaseException")) true := L0.andThen (looks_subIn X hsub)
  have hx0 : (false && onTheHeap (Value.builtin "BaseException.__getattribute__")) = false := rfl
  have hx2 : (Value.builtin "BaseException.__getattribute__" == Value.builtin "object.__getattribute__") = false := by decide +kernel
  have hx1 : (onTheHeap (Value.ref D) && Value.builtin "BaseException.__getattribute__" == Value.builtin "object.__getattribute__") = false := by rw [hx2]; rfl
  unfold getAttr? getAttrBy? getAttrBy
  refine wpAny_bind (wpAny_mkText (wpAny_bind (wpAny_attempt (wpAny_holding (wpAny_bind (L0.at (wpAny_bind (L1.at ?_))))))))
  show wpAny _ _ (if (onTheHeap (Value.ref D) && Value.builtin "BaseException.__getattribute__" == Value.builtin "object.__getattribute__") = true then _ else _) _ _ _
  rw [hx1, if_neg Bool.false_ne_true]
  unfold getAttrByItsOwn hookBefore
  refine wpAny_bind ?_
  rw [if_pos (show onTheHeap (Value.ref D) = true from rfl)]
  refine L2.at ?_
  refine wpAny_bind (wpAny_attempt (wpAny_holding ?_))
  unfold callGetattribute
  rw [hx0, if_neg Bool.false_ne_true]
  unfold boundAndCalled
  rw [PySem.F.excAttr_ValueError.ga.bind (.ref x)]
  refine wpAny_bind (wpAny_pure ?_)
  show wpAny _ _ (call (.builtin "BaseException.__getattribute__") [.ref x, .str "__class__" t]) _ _ _
  refine wpAny_call (codeAny_call_builtin PySem.F.excAttr_ValueError.ga.plain PySem.F.entry_bexc_ga ?_)
  refine @check_slot (model prog w) _ _ ⟨hp, g, d, t + 1, os⟩ "BaseException.__getattribute__" "BaseException" "__getattribute__" (.ref x) [.str "__class__" t] [] _ (by decide +kernel) (by decide +kernel) sub (PySem.F.args_bexc_ga (.ref x) (.str "__class__" t)) ?_
  unfold Builtin.«object.__getattribute__»
  refine wpAny_bind (wpAny_of_eq (a := ((Value.ref x : Value), [Value.str "__class__" t])) (by first | rfl | (simp only [slotArgs]; rfl)) ?_)
  refine wpAny_bind (wpAny_pure (wpAny_bind (L0.at (wpAny_bind (L3.at ?_)))))
  show wpAny _ _ (holding [Value.builtin "object.__class__"] (call (.builtin "getset_descriptor.__get__") [.builtin "object.__class__", .ref x, .ref D]) >>= ret) _ _ _
  refine wpAny_bind (wpAny_holding (wpAny_call (class_get (s := ⟨hp, g, d, t + 1, os⟩) (ox := ox) (od := od) X I hm ?_)))
  refine wpAny_pure ?_
  show wpAny _ _ (handedOut (.ref D)) _ _ _
  rw [handedOut_of (v := .ref D) rfl]
  first
    | exact wpAny_pure (wpAny_pure h)
    | exact wpAny_pure h
    | exact wpAny_pure (wpAny_bind (wpAny_pure (wpAny_pure h)))
theorem kitx_excV {od : Option Obj} (hga : findIn K (.ref D) "__getattribute__" = some (some (.builtin "BaseException.__getattribute__"))) (hgt : findIn K (.ref D) "__getattr__" = some none) (hsub : subIn K (.ref D) (.type "BaseException") = some true) (hdct : hasDictIn K D = true) (ha : findIn K (.ref D) "__class__" = some (some (.builtin "object.__class__")))
    (hn : specialIn K (.builtin "object.__class__") "__get__" = some (some (.builtin "getset_descriptor.__get__"))) (htk : takesIn K (.builtin "object.__class__") = some true) (hm : mroIn K D (.type "object") = some true) :
    KitX K (.ref x) (.ref D) (fun h => InstAt h x ox D od) where
  ty := fun _ _ _ I => I.type
  it := fun _ _ X _ => by
    obtain ⟨cdD, hcD, _⟩ := any_some hdct
    unfold clsIn at hcD
    split at hcD
    · rename_i c' d' cd' sl' ho
      intro A' Q' E' s' k q
      unfold isType loadHead
      exact wpAny_bind (wpAny_loadPart (k _ _ (X _ _ ho)) (wpAny_pure q))
    · cases hcD
  ne := fun h tp dd its n sl X htp => by
    obtain ⟨cdD, hcD, _⟩ := any_some hdct
    refine Bool.eq_false_iff.mpr fun q => ?_
    have e : D = tp := Value.ref.inj (beq_iff_eq.mp q)
    subst e
    unfold clsIn at hcD
    split at hcD
    · rename_i c' d' cd' sl' ho
      have z := (X _ _ ho).symm.trans htp
      cases z
    · cases hcD
  ca := fun X I k => kin_classV hga hgt hsub hdct ha hn htk hm X I k
end
end PySem.W
namespace Fz
open PySem L2

theorem exd_ns {P : Program} {w : World} {H : Hp} {h : Heap} {dx : Addr} {fs : List (Str × V)} (hok : HOk P w H h) (he : H dx = some (exd dx fs)) : ∃ mA, h.Ns1 dx mA ∧ ∀ f, RelO (fs.lookup f) (mA f) := exd_at hok he
/-- e.f, e an error that was made -/
theorem pe_errF {X : Cx} {e : Expr} {te : TE} {pos : Pos} {n : Str} (he : PE X e te) (hb : attributeBase e n X.env (eval e X.env) = eval e X.env := by rfl) :
    PE X (.Attribute e n pos) (fun σ H Q => te σ H fun x H1 => ∃ (a C dd : Addr) (fs : List (Str × V)) (v : V), x = .ref a ∧ XfC X.K C ∧ PySem.W.findIn X.K (.ref C) n = some none ∧ H1 a = some (exo a C (some dd)) ∧ H1 dd = some (exd dd fs) ∧ fs.lookup n = some v ∧ Q v H1) := by
  refine ⟨fun pins s σ H Q I h => ?_⟩
  refine attr_of hb (thn (he.run pins s σ H _ I h) fun u s1 hh => ?_)
  obtain ⟨x, H1, I1, rx, a, C, dd, fs, v, ex, T, hno, ea, ed, l, q⟩ := hh
  subst ex
  obtain rfl : u = Value.ref a := rx
  obtain ⟨t1, ha⟩ := exo_at I1.hok ea
  obtain ⟨mA, hns, hr⟩ := exd_ns I1.hok ed
  obtain ⟨od, ho, hl⟩ := lookIn_ns hns
  obtain ⟨u, hu, ru⟩ := RelO.some_of (v := v) (o := mA n) (by rw [← l]; exact hr n)
  have J : PySem.W.InstAt s1.heap a { cls := .ref C, dict := some dd, data := .fields #[.ref t1, .none, .none, .none, .bool false, .none] } C (some od) := ⟨ha, rfl, rfl, ho⟩
  exact HandSPX.exc_get I1.kIn J T.ga T.gg T.exC (PySem.W.findObj_own T.hdC hno rfl (by rw [hl, hu])) (handed_of ru) ⟨v, H1, I1.tok _, ru, q⟩
/-- isinstance(e, c), e an error that was made -/
def rIsErr (K : PySem.W.Frag) : List V → Hp → VK → Prop := fun xs H Q => ∃ (c : V) (a C dd : Addr) (fs : List (Str × V)) (cv : Value) (b : Bool), xs = [.ref a, c] ∧ ClsV c cv ∧ ExcC K C ∧ H a = some (exo a C (some dd)) ∧ H dd = some (exd dd fs) ∧ PySem.W.kitOne K (.ref C) cv = some b ∧ Q (.bl b) H
theorem call_isErr {X : Cx} : CallR X (.builtin "isinstance") (rIsErr X.K) := by
  intro pins s σ H xs us Q I r h
  obtain ⟨c, a, C, dd, fs, cv, b, rfl, k, E, ea, ed, e, q⟩ := h
  obtain ⟨u1, u2, rfl, r1, r2⟩ := vals2 r
  have e2 := k.eq r2
  subst e2
  obtain rfl : u1 = Value.ref a := r1
  obtain ⟨t1, ha⟩ := exo_at I.hok ea
  obtain ⟨mA, hns, hr⟩ := exd_ns I.hok ed
  obtain ⟨od, ho, hl⟩ := lookIn_ns hns
  have J : PySem.W.InstAt s.heap a { cls := .ref C, dict := some dd, data := .fields #[.ref t1, .none, .none, .none, .bool false, .none] } C (some od) := ⟨ha, rfl, rfl, ho⟩
  exact PySem.W.kia_one (PySem.W.kitx_excV E.hg E.hk E.hs E.hd E.ha E.hn E.ht E.hm) I.kIn J e (fun z => nomatch z) fun tk => ⟨.bl b, H, I.kept (t' := tk) fun _ _ z => z, rfl, q⟩
/-- repr(x) -/
def rRepr (K : PySem.W.Frag) : List V → Hp → VK → Prop := fun xs H Q => ∃ x d, xs = [x] ∧ Dp K H x d ∧ d.showable = true ∧ d.hasDict = false ∧ d.depth ≤ 64 ∧ ((∃ i, d = .int i) ∨ d.shown.length ≤ sizeLine) ∧ Q (.str d.shown) H
theorem call_repr {X : Cx} (hg : X.A.guards = some []) (hu : X.A.units + 66 < cLine) : CallR X (.builtin "repr") (rRepr X.K) := by
  intro pins s σ H xs us Q I r h
  obtain ⟨x, d, rfl, dp, hs, hd, hdep, hz, q⟩ := h
  obtain ⟨u, rfl, rx⟩ := vals1 r
  obtain ⟨as, rd⟩ := Dp.reads I d x u dp rx
  cases rd with
  | none => exact PySem.P.repr_of_none ⟨.str _, H, I.kept (t' := _) fun _ _ z => z, ⟨_, rfl⟩, q⟩
  | bool b => exact PySem.P.repr_of_bool ⟨.str _, H, I.kept (t' := _) fun _ _ z => z, ⟨_, rfl⟩, q⟩
  | int i t => exact PySem.P.repr_of_int (of_decide_eq_true hs) ⟨.str _, H, I.kept (t' := _) fun _ _ z => z, ⟨_, rfl⟩, q⟩
  | str z t => exact PySem.P.repr_of_str ⟨.str _, H, I.kept (t' := _) fun _ _ z => z, ⟨_, rfl⟩, q⟩ (hz.resolve_left fun z => by obtain ⟨i, z⟩ := z; cases z)
  | list h1 h2 h3 h4 => exact repr_of_reads' (Reads.list h1 h2 h3 h4) hs (fun z => by rw [hd] at z; cases z) hg (by omega) (fun _ _ z => z) (fun h' u tk hk => ⟨.str _, H, I.kept (t' := tk) hk, ⟨_, rfl⟩, q⟩) (hz.resolve_left fun z => by obtain ⟨i, z⟩ := z; cases z)
  | tuple h1 h2 h3 h4 => exact repr_of_reads' (Reads.tuple h1 h2 h3 h4) hs (fun z => by rw [hd] at z; cases z) hg (by omega) (fun _ _ z => z) (fun h' u tk hk => ⟨.str _, H, I.kept (t' := tk) hk, ⟨_, rfl⟩, q⟩) (hz.resolve_left fun z => by obtain ⟨i, z⟩ := z; cases z)
  | dict h1 h2 h3 h4 h5 => cases hd
def pErrV (el : Nat → Bool) : Prim := fun ds => match ds with
  | [.err c x] => if el c then .ok x [.err c x] else .bad
  | _ => .bad
def pIsErr (tbl : Nat → Option Bool) : Prim := fun ds => match ds with
  | [.err c x] => match tbl c with
    | some b => .ok (.bl b) [.err c x]
    | none => .bad
  | _ => .bad
noncomputable def pRepr : Prim := fun ds => match ds with
  | [d] => open Classical in if pyOk d = true ∧ dep d ≤ 60 ∧ (py d).showable = true ∧ (py d).hasDict = false ∧ ((∃ i, d = .int i) ∨ (py d).shown.length ≤ 1000000) then .ok (.str (py d).shown) [d] else .bad
  | _ => .bad
section
variable {A : Gm} {vs : List V} {x : V} {H : Hp} {Q : VK} {E : XK} {c : Nat}
theorem ok_errV {el : Nat → Bool} (h : Pre A (pErrV el) [x] H Q E) : ∃ (a dd : Addr) (c : Nat) (v : V), el c = true ∧ x = .ref a ∧ H a = some (exo a (A.cl c) (some dd)) ∧ H dd = some (exd dd [(("value" : Str), v)]) ∧ Q v H := by
  obtain ⟨F, S, d, w, r1, q⟩ := h.un
  unfold pErrV at q
  split at q
  · rename_i c y he
    injection he with e1 e2
    subst e1
    split at q
    · rename_i hc
      obtain ⟨a, dd, v, rfl, f1, f2, g1, g2, r⟩ := id r1
      exact ⟨a, dd, c, v, hc, rfl, g1, g2, SatP.same w (RL.one r1) q r⟩
    · exact q.elim
  · exact q.elim
theorem ok_isErr {tbl : Nat → Option Bool} (h : Pre A (pIsErr tbl) [x] H Q E) : ∃ (a dd : Addr) (c : Nat) (v : V) (b : Bool), x = .ref a ∧ H a = some (exo a (A.cl c) (some dd)) ∧ H dd = some (exd dd [(("value" : Str), v)]) ∧ tbl c = some b ∧ Q (.bl b) H := by
  obtain ⟨F, S, d, w, r1, q⟩ := h.un
  unfold pIsErr at q
  split at q
  · rename_i c y he
    injection he with e1 e2
    subst e1
    split at q
    · rename_i b hb
      obtain ⟨a, dd, v, rfl, f1, f2, g1, g2, r⟩ := id r1
      exact ⟨a, dd, c, v, b, rfl, g1, g2, hb, SatP.same w (RL.one r1) q rfl⟩
    · exact q.elim
  · exact q.elim
theorem ok_repr {K : PySem.W.Frag} (h : Pre A pRepr vs H Q E) : rRepr K vs H Q := by
  obtain ⟨F, S, ds, w, rl, q⟩ := h
  unfold pRepr at q
  split at q
  · rename_i d
    split at q
    · rename_i hc
      obtain ⟨x, rfl, r⟩ := rl.un
      exact ⟨x, py d, rfl, R.dp hc.1 r, hc.2.2.1, hc.2.2.2.1, Nat.le_trans (dep_py d) (by omega), hc.2.2.2.2.imp (fun z => by obtain ⟨i, e⟩ := z; exact ⟨i, by rw [e]; rfl⟩) (fun z => Nat.le_trans z line6), SatP.same w rl q rfl⟩
    · exact q.elim
  · exact q.elim
end
section
variable {X : Cx} {A : Gm} {pr : List Nat} {W : WX} {ea ec : Expr} {o : Op} {ops : List Op} {c k : Nat} {x : Str} {p p0 pos kpos : Pos}
theorem ge_errV {el : Nat → Bool} (hx : ∀ c, el c = true → XfC X.K (A.cl c) ∧ PySem.W.findIn X.K (.ref (A.cl c)) "value" = some none) (ha : GP X A pr W ea o) (hb : attributeBase ea "value" X.env (eval ea X.env) = eval ea X.env := by rfl) :
    GE X A pr W (.Attribute ea "value" pos) (evN [o] (pErrV el)) := PE_imp (pe_errF ha hb) fun σ H Q h => GO.mono (g_args1 h) fun x H1 h1 => by
  obtain ⟨a, dd, c, v, hc, e, g1, g2, q⟩ := ok_errV h1
  exact ⟨a, _, dd, _, v, e, (hx c hc).1, (hx c hc).2, g1, g2, rfl, q⟩
theorem ge_isErr {tbl : Nat → Option Bool} {cv : V} {cw : Value} (hc : ClsV cv cw) (hx : ∀ c b, tbl c = some b → ExcC X.K (A.cl c) ∧ PySem.W.kitOne X.K (.ref (A.cl c)) cw = some b) (hg : Gl X "isinstance") (hm : X.mg "isinstance" = none) (ha : GP X A pr W ea o) (he : PE X ec (tC cv))
    (hs1 : starEach [ea, ec] X.env = (false, eval ea X.env) :: starEach [ec] X.env := by rfl) (hs2 : starEach [ec] X.env = (false, eval ec X.env) :: starEach [] X.env := by rfl) (hpl : (backTo pos (starEach [ec] X.env)).any (·.1) = false := by rfl) :
    GE X A pr W (.Call (.Name "isinstance" p0) [ea, ec] [] pos) (evN [o] (pIsErr tbl)) :=
  PE_imp (pe_callB call_isErr hg hm PyProof.Rows.boot_isinstance (pa_cons ha (pa_cons he pa_nil hs2) hs1) (by decide) (by decide) hs1 hpl) fun σ H Q h => GO.mono (g_args1 h) fun x H1 h1 => by
    obtain ⟨a, dd, c, v, b, e, g1, g2, hb, q⟩ := ok_isErr h1
    subst e
    exact ⟨cv, a, _, dd, _, cw, b, rfl, hc, (hx c b hb).1, g1, g2, (hx c b hb).2, q⟩
theorem ge_repr (hgd : X.A.guards = some []) (hu : X.A.units + 66 < cLine) (hg : Gl X "repr") (hm : X.mg "repr" = none) (ha : GL X A pr W [ea] ops) (he : starEach [ea] X.env = (false, eval ea X.env) :: starEach [] X.env := by rfl) (hpl : (backTo pos (starEach [] X.env)).any (·.1) = false := by rfl) :
    GE X A pr W (.Call (.Name "repr" p0) [ea] [] pos) (evN ops pRepr) := ge_callB (call_repr hgd hu) (fun vs H Q E h => ok_repr h) hg hm PyProof.Rows.boot_repr ha (by decide) (by decide) he hpl
end
end Fz

namespace Fz
open PySem L2
/-- frozen for good -/
def evFz (f : EvE) : EvE := fun ρ => (f ρ).bind fun ρ1 d => .ok ρ1 (fz d)
/-- [x, ..] * k, a list just made -/
def pRepL : Prim := fun ds => match ds with
  | [.lst true xs, .int k] => if nwL xs = true ∧ 0 ≤ k ∧ k ≤ 1000 ∧ xs.length * k.toNat ≤ 1000000 then .ok (.lst true (List.replicate k.toNat xs).flatten) [.lst true xs, .int k] else .bad
  | _ => .bad
section
variable {A : Gm} {pr : List Nat} {W : WX} {X : Cx} {H : Hp} {Q : VK} {E : XK} {x y : V} {ea eb : Expr} {f : EvE} {a b : Op} {pos : Pos}
theorem ge_fz (h : GE X A pr W ea f) : GE X A pr W ea (evFz f) := PE_imp h fun σ H Q q => by
  obtain ⟨e, ρ, τ, ts, st, q⟩ := q
  refine ⟨e, ρ, τ, ts, st, ?_⟩
  have lt := st.lenT
  unfold evFz at q
  cases hr : f ρ with
  | ok ρ1 d =>
    simp only [hr, Res.bind_ok] at q
    intro v H' s1
    obtain ⟨e1, w1, rfl, r, s2, back⟩ := s1.freeze lt
    exact q v _ (back (s2.recall w1 r))
  | ex ρ1 c x => simp only [hr, Res.bind_ex] at q; exact q
  | bad => simp only [hr, Res.bind_bad] at q; exact q
theorem RL.rep {A : Gm} {F : FP} {H : Hp} {ds : List D} {vs : List V} (rl : RL A F H ds vs (fun _ => False)) : ∀ k : Nat, RL A F H (List.replicate k ds).flatten (List.replicate k vs).flatten (fun _ => False)
  | 0 => rfl
  | k + 1 => by
    rw [List.replicate_succ, List.replicate_succ, List.flatten_cons, List.flatten_cons]
    exact RL.append rl (RL.rep rl k) (fun _ z => z.elim) (fun _ z => z)
theorem ok_repL : Pre A pRepL [x, y] H Q E → rRep x y H Q := fun h => by
  obtain ⟨F, S, d, e, S1, S2, w, r1, r2, q1, q2, q⟩ := h.bi
  unfold pRepL at q
  split at q
  · rename_i xs k he
    injection he with e1 e2
    injection e2 with e2 e3
    subst e1 e2
    split at q
    · rename_i hc
      obtain ⟨hn, h0, h1, hz⟩ := hc
      obtain ⟨l, us, S', rfl, sa, g, rl, qs⟩ := id r1
      refine ⟨l, k, us, rfl, r2, g, by omega, by omega, by rw [rl.length]; exact Nat.le_trans hz line6, fun p hp => ?_⟩
      exact SatP.newL w (RL.two r1 r2 q1 q2) q (RL.rep (RL.none hn rl) _) hp
    · exact q.elim
  · exact q.elim
theorem ge_repL (ha : GP X A pr W ea a) (hb : GP X A pr W eb b) : GE X A pr W (.BinOp ea .Mult eb pos) (evN [a, b] pRepL) := ge_op op_rep (fun x y H Q E h => ok_repL h) ha hb
end
end Fz

namespace Fz
open PySem L2

/-! ### facts of error classes, as Bools of the written part -/
def oexB (K : PySem.W.Frag) (C : Addr) : Bool := (match K.lookup C with
  | some ⟨.type "type", _, .cls cd, sl⟩ => (match cd.mro, sl.toList with
    | .ref C' :: bm, [_, _, _, _, some (.builtin n), _] => C' == C && n == "ValueError.__new__" && !cd.hasDel && cd.hasDict && PySem.HandSPX.refsVE bm
    | _, _ => false)
  | _ => false) && decide (PySem.W.findIn K (.ref C) "__setattr__" = some (some (.builtin "object.__setattr__"))) && decide (PySem.W.subIn K (.ref C) (.type "BaseException") = some true) &&
    decide (PySem.W.typeIn K (.ref C) = some (.type "type")) && PySem.W.keepIn K (.ref C)
theorem oexB_ok {K : PySem.W.Frag} {C : Addr} (h : oexB K C = true) : OexC K C := by
  unfold oexB at h
  simp only [Bool.and_eq_true, decide_eq_true_eq] at h
  obtain ⟨⟨⟨⟨h1, h2⟩, h3⟩, h4⟩, h5⟩ := h
  refine ⟨?_, h2, h3, h4, h5⟩
  split at h1
  · rename_i dd cd sl ho
    split at h1
    · rename_i C' bm k0 k1 k2 k3 n k5 hm hs
      simp only [Bool.and_eq_true, beq_iff_eq, Bool.not_eq_true'] at h1
      obtain ⟨⟨⟨⟨rfl, rfl⟩, hdel⟩, hd⟩, ht⟩ := h1
      obtain ⟨nm, bs, mro, ns, qn, hd', sn, sub, ab, col, del⟩ := cd
      dsimp only at hm hdel hd
      subst hm hdel hd
      have hsl : sl = #[k0, k1, k2, k3, some (.builtin "ValueError.__new__"), k5] := by
        obtain ⟨l⟩ := sl
        simp only at hs
        rw [hs]
      subst hsl
      exact ⟨nm, qn, ns, bs, bm, sn, sub, ab, col, dd, k0, k1, k2, k3, k5, ho, ht⟩
    · cases h1
  · cases h1
def incB (K : PySem.W.Frag) (D C : Addr) : Bool := oexB K C && decide (PySem.W.findIn K (.ref C) "value" = some none) && decide (PySem.W.mroIn K C (.ref D) = some true) &&
  decide (PySem.W.ks_superIn K C D "__init__" = some (some (.builtin "ValueError.__init__"))) && decide (PySem.W.subIn K (.ref C) (.type "ValueError") = some true)
theorem incB_ok {K : PySem.W.Frag} {D C : Addr} (h : incB K D C = true) : InC K D C := by
  unfold incB at h
  simp only [Bool.and_eq_true, decide_eq_true_eq] at h
  exact ⟨oexB_ok h.1.1.1.1, h.1.1.1.2, h.1.1.2, h.1.2, h.2⟩
def excB (K : PySem.W.Frag) (D : Addr) : Bool := xfB K D && decide (PySem.W.findIn K (.ref D) "__class__" = some (some (.builtin "object.__class__"))) &&
  decide (PySem.W.specialIn K (.builtin "object.__class__") "__get__" = some (some (.builtin "getset_descriptor.__get__"))) && decide (PySem.W.takesIn K (.builtin "object.__class__") = some true) && decide (PySem.W.mroIn K D (.type "object") = some true)
theorem excB_ok {K : PySem.W.Frag} {D : Addr} (h : excB K D = true) : ExcC K D ∧ XfC K D := by
  unfold excB at h
  simp only [Bool.and_eq_true, decide_eq_true_eq] at h
  have x := xfB_ok h.1.1.1.1
  exact ⟨⟨x.ga, x.gg, x.exC, x.hdC, h.1.1.1.2, h.1.1.2, h.1.2, h.2⟩, x⟩

/-! ### the __init__ of the errors -/
abbrev IniW : Type := Option (Str × Str × Arguments × FuncBody × Scope × Addr × List Str × Addr)
def iniObs (K : PySem.W.Frag) (x : Str) : IniW := match K.lookup (He.ma K (He.ga K x) "__init__") with
  | some ⟨_, _, .func fd, _⟩ => some (fd.name, fd.qualname, fd.params, fd.body, fd.scope, fd.globals, fd.closure.map (·.1), fd.builtins)
  | _ => none
def iniB (K : PySem.W.Frag) (x file qual : Str) : Bool := (match K.lookup (He.ma K (He.ga K x) "__init__") with
  | some ⟨_, _, .func fd, _⟩ => (match fd.defaults with
      | .none => true
      | _ => false) && PySem.W.codeIn K fd.code qual && (match fd.code with
      | .ref cda => (match K.lookup cda with
        | some ⟨_, _, .fields vs, _⟩ => (match vs[2]? with
          | some (Value.str f _) => decide (f = file)
          | _ => false)
        | _ => false)
      | _ => false) && (match fd.closure with
      | [(_, cc)] => (match K.lookup cc with
        | some ⟨_, _, .cell (some (.ref D)), _⟩ => decide (D = He.ga K x)
        | _ => false)
      | _ => false)
  | _ => false) && (PySem.W.clsIn K (He.ga K x)).isSome && decide (PySem.W.nsIn K cStatics "thirdparty.any" = some none)
theorem ini_ok {K : PySem.W.Frag} {x qual file : Str} {params : Arguments} {body : List Stmt} {scope : Scope} (e : iniObs K x = some (("__init__" : Str), qual, params, FuncBody.stmts body, scope, mainGlobals, [("__class__" : Str)], builtinsNs)) (c : iniB K x file qual = true) :
    ∃ (fd : FuncData) (kV doc pm ct oc ccl cl : Value) (an od cdd cld : Option Addr) (osl ccs csl : Array (Option Value)) (cc cda : Addr) (vs : Array Value) (tf : Tok) (cdD : ClassData),
      fd = PySem.W.ksFn "__init__" qual params body scope .none kV doc pm an (.ref cda) ct cc ∧ K.lookup (He.ma K (He.ga K x) "__init__") = some ⟨oc, od, .func fd, osl⟩ ∧ PySem.W.codeIn K (.ref cda) qual = true ∧ K.lookup cda = some ⟨ccl, cdd, .fields vs, ccs⟩ ∧
      vs[2]? = some (.str file tf) ∧ K.lookup cc = some ⟨cl, cld, .cell (some (.ref (He.ga K x))), csl⟩ ∧ PySem.W.clsIn K (He.ga K x) = some cdD ∧ PySem.W.nsIn K cStatics "thirdparty.any" = some none := by
  unfold iniB at c
  unfold iniObs at e
  simp only [Bool.and_eq_true, decide_eq_true_eq] at c
  obtain ⟨⟨c1, c2⟩, c3⟩ := c
  obtain ⟨cdD, hcd⟩ := Option.isSome_iff_exists.mp c2
  cases q : K.lookup (He.ma K (He.ga K x) "__init__") with
  | none => rw [q] at c1; cases c1
  | some o =>
    obtain ⟨oc, od, dt, osl⟩ := o
    rw [q] at c1 e
    cases dt with
    | func fd =>
      obtain ⟨n1, n2, n3, n4, n5, n6, n7, n8, n9, n10, n11, n12, n13, n14, n15⟩ := fd
      simp only [Option.some.injEq, Prod.mk.injEq] at e
      obtain ⟨h1, h2, h3, h4, h5, h6, h7, h8⟩ := e
      subst h1 h2 h3 h4 h5 h6 h8
      dsimp only at c1
      simp only [Bool.and_eq_true] at c1
      obtain ⟨⟨⟨k0, k1⟩, k2⟩, k3⟩ := c1
      have e8 : n8 = .none := by cases n8 <;> first | rfl | cases k0
      subst e8
      match n7, h7 with
      | [(y, cc)], h7 =>
        have ey : y = "__class__" := by simpa using h7
        subst ey
        cases n13 with
        | ref cda =>
          dsimp only at k2 k3
          cases q2 : K.lookup cda with
          | none => rw [q2] at k2; cases k2
          | some o2 =>
            obtain ⟨c2c, c2d, c2t, c2s⟩ := o2
            rw [q2] at k2
            cases c2t with
            | fields vs =>
              dsimp only at k2
              cases q3 : vs[2]? with
              | none => rw [q3] at k2; cases k2
              | some v2 =>
                rw [q3] at k2
                cases v2 with
                | str f tf =>
                  have ef : f = file := of_decide_eq_true k2
                  subst ef
                  cases q4 : K.lookup cc with
                  | none => rw [q4] at k3; cases k3
                  | some o4 =>
                    obtain ⟨d1, d2, d3, d4⟩ := o4
                    rw [q4] at k3
                    cases d3 with
                    | cell cv =>
                      cases cv with
                      | none => cases k3
                      | some v4 =>
                        cases v4 with
                        | ref D =>
                          have eD : D = He.ga K x := of_decide_eq_true k3
                          exact ⟨_, n9, n10, n11, n14, oc, c2c, d1, n12, od, c2d, d2, osl, c2s, d4, cc, cda, vs, tf, cdD, rfl, rfl, k1, q2, q3, by rw [q4, eD], hcd, c3⟩
                        | _ => cases k3
                    | _ => cases k3
                | _ => cases k2
            | _ => cases k2
        | _ => cases k2
    | _ => cases c1

/-! ### the Hook -/
/-- what is asked of the head: facts, defs, the class whose __init__ is to be told (with its file and qualified name), a further Bool -/
structure Ask where
  fa : List He.Fa
  fn : List He.DefD
  ini : Option (Str × Str × Str × Arguments × List Stmt × Scope)
  ex : PySem.W.Frag → Bool
abbrev AlF : Type := He.AlD × IniW × Bool
def obsF (a : Ask) (K : PySem.W.Frag) : AlF := (He.obsD a.fa a.fn K, (match a.ini with
  | some (x, _) => iniObs K x
  | none => none), a.ex K && (match a.ini with
  | some (x, file, qual, _) => iniB K x file qual
  | none => true))
def valF (a : Ask) : AlF := (He.valD a.fn, (match a.ini with
  | some (_, _, qual, params, body, scope) => some (("__init__" : Str), qual, params, FuncBody.stmts body, scope, mainGlobals, [("__class__" : Str)], builtinsNs)
  | none => none), true)
def obsFG (n : Nat) (a : Ask) (g : Addr → Option Obj) : AlF := obsF a (He.frG g (He.asD g n ++ [cStatics]))
def hookF (n : Nat) (a : Ask) : PySem.W.Hook where
  α := AlF
  obs := fun s => obsFG n a s.heap.get?
  val := fun _ => valF a
  says := fun _ h => ∃ K : PySem.W.Frag, K.In h ∧ obsF a K = valF a
  of := fun _ _ e => ⟨_, He.frG_in, e⟩
  keeps := fun _ _ _ ⟨K, hK, c⟩ k => ⟨K, PySem.W.Frag.In.keeps hK k, c⟩
theorem obsFG_eq {n : Nat} {a : Ask} {g : Addr → Option Obj} {s : Shared} (h : ∀ a, g a = s.heap.get? a) : obsFG n a g = (hookF n a).obs s := by
  have e : g = s.heap.get? := funext h
  rw [e] <;> rfl
theorem saysF {a : Ask} {K : PySem.W.Frag} (c : obsF a K = valF a) : He.SaysD a.fa a.fn K ∧ a.ex K = true ∧ (∀ x file qual params body scope, a.ini = some (x, file, qual, params, body, scope) → iniObs K x = some (("__init__" : Str), qual, params, FuncBody.stmts body, scope, mainGlobals, [("__class__" : Str)], builtinsNs) ∧ iniB K x file qual = true) := by
  have c1 : He.obsD a.fa a.fn K = He.valD a.fn := congrArg (fun z : AlF => z.1) c
  have c2 := congrArg (fun z : AlF => z.2.1) c
  have c3 := congrArg (fun z : AlF => z.2.2) c
  have c3' := Bool.and_eq_true_iff.mp (show (_ && _) = true from c3)
  refine ⟨c1, c3'.1, fun x file qual params body scope e => ?_⟩
  have c4 := c3'.2
  dsimp only [obsF, valF] at c2 c4
  rw [e] at c2 c4
  exact ⟨c2, c4⟩
end Fz

/-! the law's own def, run where no guard stands (for repr); the library's fn_of, law_call, walk_ofE with that said -/
namespace L2
open PySem PySem.Spec PyProof.Rows
structure FnT (P : Program) (w : World) (K : PySem.W.Frag) (mg : Str → Option Value) (base : Heap) (CX : CXT) (k : Nat) (f : Addr) (fd : FuncData) (ps : List Str) (sp : Sp) : Prop where
  len : ∀ vs H Q E, sp vs H Q E → vs.length = ps.length
  run : ∀ (A : Around) (outer : List Env) (s : Shared) (H : Hp) (args : Args) (us : List Value) (vs : List V) (Q : VK) (E : XK), A.guards = some [] → Room k A → Env0 P w K mg base A outer s H → BindsTo s fd args (ps.zip us) → Vals vs us → sp vs H Q E →
    codeAny (model P w) A (.call (.ref f) args) (CR CX outer P w H s Q E) s
theorem fn_ofT {CX : CXT} {P : Program} {w : World} {K : PySem.W.Frag} {mg : Str → Option Value} {base : Heap} {k : Nat} {f : Addr} {name qual : Str} {params : Arguments} {body : List Stmt} {scope : Scope} {dV kV doc pm cdv ct oc : Value} {an od : Option Addr}
    {osl : Array (Option Value)} {N ps : List Str} {sp : Sp} (lk : K.lookup f = some ⟨oc, od, .func (PySem.W.fnOf name qual params body scope dV kV doc pm an cdv ct), osl⟩) (hcd : PySem.W.codeIn K cdv qual = true) (S : FnScope N ps scope)
    (len : ∀ vs H Q E, sp vs H Q E → vs.length = ps.length)
    (hbody : ∀ (A : Around) (outer : List Env) (s : Shared) (H : Hp) (vs : List V) (Q : VK) (E : XK), A.guards = some [] → Room k (A.deeper (envOfC qual scope s.heap.objs.size f cdv)) → sp vs H Q E →
      ∃ t, PSs (cxOf CX P w K mg base N qual scope f cdv A outer s H E) body t ∧ t { nx := fun _ H' => Q .non H', rt := Q } (start N vs) H) :
    FnT P w K mg base CX (k + 1) f (PySem.W.fnOf name qual params body scope dV kV doc pm an cdv ct) ps sp := by
  refine ⟨len, fun A outer s H args us vs Q E hgd hr e0 hb r hsp => ?_⟩
  have hl := len _ _ _ _ hsp
  have KX : K.In s.heap := e0.mod.kin.keeps fun b o e => (e0.bs b o e).1
  have lim : s.heap.NoLimit := e0.mod.nolimit.keeps fun b o e => (e0.bs b o e).1
  have hkind : ∀ y ∈ ps.zip us, scope.names.lookup y.1 = some .local ∨ (scope.names.lookup y.1 = some .cell ∧ ((cellsFrom (s.heap.objs.size + 1) scope.names []).lookup y.1).isSome = true) := fun ⟨n, v⟩ hy => by
    rcases S.par n (List.of_mem_zip hy).1 with q | q
    · exact .inl q
    · exact .inr ⟨q, PySem.W.cellsFrom_some _ _ _ (.inl q)⟩
  refine codeAny_call_function hr.depth (KX _ _ lk) rfl S.co S.gen rfl (PySem.W.codeRec_of KX hcd) (hb _ _ _ _ ?_)
  refine wpAny_newFunctionEnv_cells S.kind hkind fun env he s1 x => ?_
  subst he
  refine ⟨lim.keeps x.toInCall.keep, codeAny_func ?_⟩
  obtain ⟨t, ht, hq⟩ := hbody A outer s H vs Q E hgd (hr.deeper _) hsp
  have I : Inv (cxOf CX P w K mg base N qual scope f cdv A outer s H E) [] (start N vs) H s1 := inv_start S hr.hd e0 hl r x
  refine wpAny_mono (ht.run [] s1 (start N vs) H _ I hq) (fun fl s' hs => ?_) fun e s' hs => hs
  have fin : ∀ {σ' : St} {H' : Hp} {v : V} {u : Value}, Inv (cxOf CX P w K mg base N qual scope f cdv A outer s H E) [] σ' H' s' → RelV v u → Q v H' → CE outer P w H s Q u s' :=
    fun {σ' H' v u} J rv q => ⟨v, H', J.os, J.bare, J.base, J.hok, rv, q⟩
  cases fl with
  | ret u =>
    obtain ⟨v, σ', H', J, rv, q⟩ := hs
    exact fin J rv q
  | next =>
    obtain ⟨σ', H', J, q⟩ := hs
    exact fin (v := V.non) (u := Value.none) J rfl q
  | brk =>
    obtain ⟨_, _, _, q⟩ := hs
    exact False.elim q
  | cont =>
    obtain ⟨_, _, _, q⟩ := hs
    exact False.elim q
section
variable {P : Program} {w : World} {K : PySem.W.Frag} {mg : Str → Option Value} {base : Heap}
theorem Fun.okXT {x qual : Str} {st : Stmt} {f : Addr} {fd : FuncData} {N ps : List Str} {k : Nat} {sp : Sp} (F : Fun K x qual st f fd) (S : FnScope N ps (defScope st)) (len : ∀ vs H Q E, sp vs H Q E → vs.length = ps.length)
    (hbody : ∀ (cdv : Value) (A : Around) (outer : List Env) (s : Shared) (H : Hp) (vs : List V) (Q : VK) (E : XK), A.guards = some [] → Room k (A.deeper (envOfC qual (defScope st) s.heap.objs.size f cdv)) → sp vs H Q E →
      ∃ t, PSs (cxOf (L2.CX P w) P w K mg base N qual (defScope st) f cdv A outer s H E) (defBody st) t ∧ t { nx := fun _ H' => Q .non H', rt := Q } (start N vs) H) : FnT P w K mg base (L2.CX P w) (k + 1) f fd ps sp := by
  obtain ⟨oc, od, kV, doc, pm, an, cdv, ct, osl, rfl, lk, hcd⟩ := F.ex
  exact fn_ofT lk hcd S len fun A outer s H vs Q E hgd hr hsp => hbody cdv A outer s H vs Q E hgd hr hsp
end
theorem law_callT {P : Program} {w : World} {K : PySem.W.Frag} {mg mb : Str → Option Value} {CX : CXT} {k : Nat} {fa a : Addr} {fd : FuncData} {x : Str} {sp : Sp} {s₁ : Shared} {vs : List Value} {ns : List Int}
    (KX : K.In s₁.heap) (hns : s₁.heap.Ns mainGlobals mg) (hb : s₁.heap.Ns builtinsNs mb) (hbb : ∀ x : Str, x ≠ "__name__" → mb x = bootBuiltins x) (hlim : s₁.heap.NoLimit) (hg : s₁.gens = #[])
    (ha : s₁.heap.get? a = some { cls := .type "list", data := .seq vs.toArray }) (hi : IntsAre vs ns) (hl : ns.length ≤ sizeLine) (hr : Room k callerA)
    (F : ∀ base : Heap, K.In base → base.Ns mainGlobals mg → FnT P w K mg base CX k fa fd [x] sp) (hbind : ∀ (s : Shared) (u : Value), BindsTo s fd ⟨[u], []⟩ [(x, u)])
    (hsp : ∀ H : Hp, Only H → SqL K H a (ns.map V.int) → sp [.ref a] H (fun v _ => v = .bl true) fun _ _ _ => False)
    (hCX : ∀ H e s', CX [] H s₁ (fun _ _ _ => False) e s' → False) :
    codeAny (model P w) callerA (.call (.ref fa) ⟨[.ref a], []⟩) (fun r s' => r = .ok (.ret (.bool true)) ∧ OldK s₁.heap s'.heap ∧ s'.os = s₁.os ∧ AllBare s'.gens) s₁ := by
  have rv := vals_ints hi
  have lenV := hi.length
  -- from an abstract heap in which nothing but the script may be tracked
  have core : ∀ H : Hp, Only H → SqL K H a (ns.map V.int) → HOk P w H s₁.heap → (∀ b, H b ≠ none → b = a) → (H a ≠ none → K.lookup a = none) →
      codeAny (model P w) callerA (.call (.ref fa) ⟨[.ref a], []⟩) (fun r s' => r = .ok (.ret (.bool true)) ∧ OldK s₁.heap s'.heap ∧ s'.os = s₁.os ∧ AllBare s'.gens) s₁ := by
    intro H hO hS hok hA hK
    have base_of : ∀ {b : Addr} {o : Obj}, s₁.heap.get? b = some o → H b = none → (hidT s₁.heap H).get? b = some o := fun e n => hidT_get e n
    have noA : ∀ {b : Addr} {o : Obj} {es : Array DictEntry} {ep : Nat}, s₁.heap.get? b = some o → o.data = .dict es ep → H b = none := fun {b o es ep} e d => by
      cases q : H b with
      | none => rfl
      | some u =>
        have e' : b = a := hA b (by rw [q]; simp)
        subst e'
        rw [ha] at e; cases e
        have d' : Data.seq vs.toArray _ = Data.dict es ep := d
        cases d'
    have nsK : ∀ {b : Addr} {m : Str → Option Value}, s₁.heap.Ns b m → (hidT s₁.heap H).Ns b m := fun {b m} ⟨o, es, ep, e, d, r⟩ => ⟨o, es, ep, base_of e (noA e d), d, r⟩
    have hKb : K.In (hidT s₁.heap H) := fun b o e => base_of (KX b o e) (by
      cases q : H b with
      | none => rfl
      | some u =>
        have e' : b = a := hA b (by rw [q]; simp)
        subst e'
        rw [hK (by rw [q]; simp)] at e; cases e)
    have hM : Mod K mg (hidT s₁.heap H) := ⟨hKb, nsK hns, ⟨mb, nsK hb, hbb⟩, let ⟨mc, h1, h2⟩ := hlim; ⟨mc, nsK h1, h2⟩⟩
    have e0 : Env0 P w K mg (hidT s₁.heap H) callerA [] s₁ H := ⟨rfl, hM, fun b o e => of_hidT e, Nat.le_of_eq (hidT_size _ _), trivial, fun b hb => absurd (show b ∈ ([] : List Addr) from hb) (by simp), hok, .of_eq hg⟩
    refine codeAny_mono ((F _ hKb (nsK hns)).run callerA [] s₁ H ⟨[.ref a], []⟩ [.ref a] [.ref a] _ _ rfl hr e0 (hbind s₁ (.ref a)) (.cons rfl .nil) (hsp H hO hS)) fun r s' h => ?_
    cases r with
    | error e => exact (hCX H e s' h).elim
    | ok fl =>
      cases fl with
      | next => exact False.elim h
      | brk => exact False.elim h
      | cont => exact False.elim h
      | ret u =>
        obtain ⟨v, H', os, bare, un, hok', r', q⟩ := h
        have q' : v = .bl true := q
        subst q'
        obtain rfl : u = Value.bool true := r'
        refine ⟨rfl, OldK.of_keep fun b o e => ?_, os, bare⟩
        cases q : H b with
        | none => exact un.keep b o e q (by intro z; exact absurd (show b ∈ ([] : List Addr) from z) (by simp)) (by simp)
        | some u =>
          rcases hO b with z | ⟨ob, xs, z⟩
          · rw [q] at z; cases z
          · have z2 := un.frzs b ob _ z
            obtain ⟨e1, _⟩ := hok b _ z
            obtain ⟨e2, _⟩ := hok' b _ z2
            rw [e] at e1; cases e1
            exact e2
  cases hk : K.lookup a with
  | some o =>
    -- the script is one of the module's own objects
    have e := KX a o hk
    rw [ha] at e
    cases e
    refine core (fun _ => none) (fun _ => .inl rfl) (.inr ⟨_, vs.toArray, _, hk, rfl, rfl, rfl, by rw [List.size_toArray, lenV]; exact hl, by simpa using rv⟩) (fun b u z => by have z' : (none : Option HO) = some u := z; cases z') (fun b z => absurd rfl z) fun z => absurd rfl z
  | none =>
    refine core (fun b => if b = a then some (.frz { cls := .type "list", data := .seq vs.toArray } (.lst (ns.map V.int))) else none) (fun b => ?_) (.inl (.inr ⟨{ cls := .type "list", data := .seq vs.toArray }, if_pos rfl⟩)) (fun b u z => ?_) (fun b z => ?_) fun _ => hk
    · by_cases hb : b = a
      · exact .inr ⟨_, _, if_pos hb⟩
      · exact .inl (if_neg hb)
    · by_cases hb : b = a
      · have z' := (if_pos hb).symm.trans z
        cases z'
        subst hb
        exact ⟨ha, by rw [List.length_map]; exact hl, vs, _, rv, ha⟩
      · have z' := (if_neg hb).symm.trans z
        cases z'
    · by_cases hb : b = a
      · exact hb
      · exact absurd (if_neg hb) z
theorem walk_ofT {l : PySem.W.OpenLaw} {k : Nat} {q : Program} {loose : List Str} {XP : (Str → Option Value) → Heap → Prop} {YP : World → Heap → Prop} {d : DefRec} {x : Str} (h1 : l.most = some 63) (h2 : d.params.defaults = []) (h3 : Room k callerA)
    (F : ∀ (w : World) (mg : Str → Option Value) (fl : Addr) (h : Heap), YP w h → h.Ns mainGlobals mg → mg d.name = some (.ref fl) → ∃ (K : PySem.W.Frag) (fd : FuncData) (sp : Sp), K.In h ∧ (∀ (s : Shared) (v : Value), BindsTo s fd ⟨[v], []⟩ [(x, v)]) ∧
      (∀ (H : Hp) (a : Addr) (ns : List Int), ns.length ≤ 63 → SqL K H a (ns.map V.int) → sp [.ref a] H (fun v _ => v = .bl true) fun _ _ _ => False) ∧ ∀ base : Heap, K.In base → base.Ns mainGlobals mg → FnT l.prog w K mg base (L2.CX l.prog w) k fl fd [x] sp) :
    PySem.W.WalkO q loose XP YP l.row.toRowW d [] (fun f vs => PySem.call f vs) := by
  refine Att.attach_call h1 h2 ?_
  intro w s₀ s₁ mg mb fl o pm cd doc a vs ns G Y ho hd hcd hmg hobj hints hlen hg
  obtain ⟨K, fd, sp, KX, hb, hsp, hF⟩ := F w mg fl _ Y G.T.g hmg
  refine law_callT KX G.T.g G.T.b G.T.builtins G.T.nolimit hg hobj hints (Nat.le_trans hlen (by decide)) h3 hF hb ?_ ?_
  · exact fun H _ sq => hsp H a ns hlen sq
  · rintro H e s' ⟨_, _, _, _, _, _, _, _, _, _, _, _, z⟩
    exact z
end L2
namespace Fz
open PySem L2
section
variable {P : Program} {w : World} {K : PySem.W.Frag} {mg : Str → Option Value} {base : Heap} {A : Gm}
theorem fn_okT {x qual : Str} {st : Stmt} {f : Addr} {fd : FuncData} {N ps : List Str} {k n np : Nat} {pr : List Nat} {s : SM} (Fd : Fun K x qual st f fd) (Sc : FnScope N ps (defScope st)) (hN : N.length = n) (hp : ps.length = np) (hpr : ∀ k ∈ pr, k < np)
    (hb : ∀ (cdv : Value) (A' : Around) (outer : List PySem.Env) (sh : Shared) (H : Hp) (E : XK), A'.guards = some [] → Room k (A'.deeper (PyProof.Rows.envOfC qual (defScope st) sh.heap.objs.size f cdv)) →
      GQs (cxOf (L2.CX P w) P w K mg base N qual (defScope st) f cdv A' outer sh H E) A pr (fun cls d _ H' => E cls d H') (defBody st) s) : FnT P w K mg base (L2.CX P w) (k + 1) f fd ps (spF A np (mkFn n np pr s)) := by
  refine Fun.okXT Fd Sc (fun vs H Q E h => ?_) (fun cdv A' outer sh H vs Q E hgd hr h => ⟨_, hb cdv A' outer sh H E hgd hr, ?_⟩)
  · rw [hp]; exact h.1
  · obtain ⟨hnp, F, S, ds, wd, rl, sat⟩ := h
    have hl : ds.length = np := by rw [← hnp, rl.length]
    obtain ⟨F1, S1, rl1, a1, a2, a3, a4⟩ := msk_ok (pr := pr) (k := 0) rl wd.fs
    have w1 : Wd F1 S1 H := ⟨a4, fun b z => wd.lv b (z.elim (a2 b) (fun z => .inr (a3 b z)))⟩
    have x1 : Ext F S H F1 S1 H := ⟨fun _ _ _ => rfl, a1, fun b z => (a2 b z).imp id .inl, fun b z => .inl (a3 b z), fun _ z => z⟩
    have har : ∀ k x, vs[k]? = some x → (fun k => vs.getD k .non) k = x := fun k x hx => by simp [hx]
    have ro : RO A F1 H ((msk pr 0 ds).map some ++ List.replicate (n - np) none) (L2.start N vs) S1 := by
      unfold L2.start
      rw [hN, hnp]
      exact RO.append (RO.ofL rl1) (RO.nones (n - np) _ (fun _ => False) (by simp)) (fun b hb => ⟨hb, id⟩) (fun _ z => z.elim)
    refine ⟨⟨F1, S1, H, fun k => vs.getD k .non⟩, (msk pr 0 ds).map some ++ List.replicate (n - np) none, ⟨F1, S1, by rw [List.append_nil, List.append_nil]; exact ro, ro.length.symm, w1, Ext.refl, fun k hk => ?_⟩, ?_⟩
    · have hk' : k < vs.length := by rw [hnp]; exact hpr k hk
      unfold L2.start
      rw [List.getElem?_append_left (by simpa using hk')]
      simp [hk']
    · unfold mkFn at sat
      cases hbo : s ((msk pr 0 ds).map some ++ List.replicate (n - np) none) with
      | ok ρ fl =>
        rw [hbo] at sat
        cases fl with
        | nx =>
          intro σ' H' s1
          dsimp only at sat
          cases hbk : bck pr ρ 0 (msk pr 0 ds) with
          | none => rw [hbk] at sat; exact sat.elim
          | some ds' =>
            rw [hbk] at sat
            obtain ⟨F', S', x2, w2, r2⟩ := fn_end hnp hl hpr har w1 rl1 x1 (d := .non) (v := .non) (by simpa using s1.push (d := .non) (v := .non) fun F => rfl) hbk
            exact sat .non F' S' H' x2 w2 r2
        | ct => exact sat.elim
        | rt d =>
          intro v σ' H' s1
          dsimp only at sat
          cases hbk : bck pr ρ 0 (msk pr 0 ds) with
          | none => rw [hbk] at sat; exact sat.elim
          | some ds' =>
            rw [hbk] at sat
            obtain ⟨F', S', x2, w2, r2⟩ := fn_end hnp hl hpr har w1 rl1 x1 s1 hbk
            exact sat v F' S' H' x2 w2 r2
      | ex ρ c x =>
        rw [hbo] at sat
        intro dd σ' H' s1
        obtain ⟨F', S', ro', l', w', x', p'⟩ := s1
        obtain ⟨T1, T2, r, back, q1, q2⟩ := ro'.takeMid (Y := []) (VY := []) l'
        refine sat dd F' H' ((x1.trans x').less fun _ z => z.elim) (w'.less fun _ z => z.elim) ?_
        exact r
      | bad =>
        rw [hbo] at sat
        exact sat.elim
end

/-! ### calls -/
section
variable {A : Gm} {pr : List Nat} {W : WX} {σ : St} {H : Hp} {Q : VK}

end
end Fz

namespace Fz
open PySem L2
abbrev FnP (K : PySem.W.Frag) (x qual : Str) (st : Stmt) (f : Addr) (fd : FuncData) : Prop := FunD K x qual (defArgs st) (defBody st) (defScope st) [] [] f fd
theorem FnP.fun {K : PySem.W.Frag} {x qual : Str} {st : Stmt} {f : Addr} {fd : FuncData} (F : FnP K x qual st f fd) : Fun K x qual st f fd := by
  obtain ⟨oc, od, dV, kV, doc, pm, an, cdv, ct, osl, rfl, lk, hcd, hd, hk⟩ := F.ex
  have e : dV = .none := by
    rcases hd with ⟨_, e⟩ | ⟨e, _⟩
    · exact e
    · exact absurd rfl e
  subst e
  exact ⟨⟨oc, od, kV, doc, pm, an, cdv, ct, osl, rfl, lk, hcd⟩, F.kp⟩
section
variable {X : Cx} {A : Gm} {pr : List Nat} {W : WX} {x : Str} {pos : Pos}
theorem vnm (i : Nat) (hN : X.N[i]? = some x := by rfl) (hv : Vis X.env.scope x := by first | exact Or.inl rfl | exact Or.inr (Or.inl rfl) | exact Or.inr (Or.inr rfl)) (hd : (x == ("__debug__" : Str)) = false := by decide) (hcd : (x == ("__classdict__" : Str)) = false := by decide) : GP X A pr W (.Name x pos) (.nm i) := gp_nm hN hv hd hcd
theorem vvr (i : Nat) (hN : X.N[i]? = some x := by rfl) (hv : Vis X.env.scope x := by first | exact Or.inl rfl | exact Or.inr (Or.inl rfl) | exact Or.inr (Or.inr rfl)) (hd : (x == ("__debug__" : Str)) = false := by decide) (hcd : (x == ("__classdict__" : Str)) = false := by decide) : GE X A pr W (.Name x pos) (evVar i) := ge_var hN hv hd hcd
theorem vmv (i : Nat) (hN : X.N[i]? = some x := by rfl) (hv : Vis X.env.scope x := by first | exact Or.inl rfl | exact Or.inr (Or.inl rfl) | exact Or.inr (Or.inr rfl)) (hd : (x == ("__debug__" : Str)) = false := by decide) (hcd : (x == ("__classdict__" : Str)) = false := by decide) : GE X A pr W (.Name x pos) (evMove i) := ge_move hN hv hd hcd
/-- an operation as an operand -/
theorem ope {ea : Expr} {f : EvE} (h : GE X A pr W ea f) : GP X A pr W ea (.ex f) := gp_ex h
end
theorem room_le {k j : Nat} {A : Around} (h : Room k A) (l : j ≤ k := by decide) : Room j A := h.mono l
theorem units64 {k : Nat} {A : Around} (h : Room k A) : A.units + 64 < cLine := by have := h.un; omega
theorem units66 {k : Nat} {A : Around} (h : Room k A) : A.units + 66 < cLine := by have := h.un; omega
theorem units1 {k : Nat} {A : Around} (h : Room k A) : A.units + 1 < cLine := by have := h.un; omega
theorem augAdd {X : Cx} : ∃ rd, InOp X .Add rd ∧ ∀ x y H Q, rI0 (fun i j => .int (i + j)) x y H Q → rd x y H Q := ⟨_, in_add, fun _ _ _ _ h => h⟩
theorem augSub {X : Cx} : ∃ rd, InOp X .Sub rd ∧ ∀ x y H Q, rI0 (fun i j => .int (i - j)) x y H Q → rd x y H Q := ⟨_, in_sub, fun _ _ _ _ h => h⟩
end Fz
namespace Fz
open PySem L2
theorem np_nm {i : Nat} {pr : List Nat} (h : i ∉ pr := by decide) : (Tgt.nm i).all (fun i => i ∉ pr) := h
theorem np_tup {is : List Nat} {pr : List Nat} (h : ∀ i ∈ is, i ∉ pr := by decide) : (Tgt.tup is).all (fun i => i ∉ pr) := h
/-- a, b = x, y -/
def pk2 : Prim := fun ds => match ds with
  | [a, b] => .ok (.tup [a, b]) [.any, .any]
  | _ => .bad
def sPar (is : List Nat) (ops : List Op) : SM := fun ρ => (evOps ops ρ).bind fun ρ1 tds => match allS tds with
  | some ds => match setAll is ds ρ1 with
    | some ρ2 => .ok ρ2 .nx
    | none => .bad
  | none => .bad
section
variable {X : Cx} {A : Gm} {pr : List Nat} {W : WX} {pos : Pos}
theorem par_read {is : List Nat} {ops : List Op} {D : Ends} {σ : L2.St} {H : Hp} (h : GS A pr W (sPar is ops) D σ H) (np : ∀ i ∈ is, i ∉ pr) : GA A pr W ops σ H fun vs H1 => isTG is vs σ H1 D.nx := by
  obtain ⟨e, ρ, st, h⟩ := h
  refine ⟨e, ρ, [], [], st, ?_⟩
  unfold sPar at h
  cases hr : evOps ops ρ with
  | ok ρ1 tds =>
    simp only [hr, Res.bind_ok] at h
    intro vs H' s1 nk
    cases ha : allS tds with
    | none => rw [ha] at h; exact h.elim
    | some ds =>
      rw [ha] at h
      dsimp only at h
      cases hs : setAll is ds ρ1 with
      | none => rw [hs] at h; exact h.elim
      | some ρ2 =>
        rw [hs] at h
        rw [allS_eq ha] at s1
        have lv : vs.length = ds.length := by
          have := s1.lenT
          simpa using this.symm
        exact isTG_ok (τ := []) (ts := []) (by simpa using s1) lv np hs fun σ2 s2 => h σ2 H' s2
  | ex ρ1 c x => simp only [hr, Res.bind_ex] at h; exact fun dd H' s1 => h dd σ H' s1
  | bad => simp only [hr, Res.bind_bad] at h; exact h
theorem gs_par2 {i j : Nat} {x y : Str} {a b : Expr} {ops : List Op} {px py pt pt2 : Pos} {kt k2 : Nat} (hc : X.calm = true) (hN : X.N.Nodup) (hi : X.N[i]? = some x) (hj : X.N[j]? = some y) (ha : GL X A pr W [a, b] ops) (np : ∀ k ∈ [i, j], k ∉ pr := by decide) (hij : i ≠ j := by decide)
    (hx : X.env.scope.names.lookup x = some .local := by rfl) (hy : X.env.scope.names.lookup y = some .local := by rfl) (hw : swappedStores [.Tuple [.Name x px, .Name y py] kt pt] (.Tuple [a, b] k2 pt2) X.env = pure (some [x, y]) := by rfl) (hs : swapsWithSole [.Tuple [.Name x px, .Name y py] kt pt] (.Tuple [a, b] k2 pt2) pos.line X.env = pure false := by rfl) :
    GQ X A pr W (.Assign [.Tuple [.Name x px, .Name y py] kt pt] (.Tuple [a, b] k2 pt2) pos) (sPar [i, j] ops) := PS_imp (ps_par hc hN hi hj hij hx hy ha hw hs) fun D σ H h => by
  refine GA.mono (par_read h np) fun vs H1 q => ?_
  obtain ⟨v, r, rfl, w, r2, rfl, rfl, q⟩ := q
  exact ⟨v, w, rfl, q⟩
end
end Fz

namespace Fz
open PySem L2

/-! ### plain laws: readings reckoned at data -/
theorem sm_of {i : Int} (h : i.natAbs < 2 ^ 200) : Sm i := Nat.lt_of_lt_of_le h (Nat.pow_le_pow_right (by decide) (by decide))
theorem smD_of {i : Int} (h : i.natAbs < 2 ^ 200) : SmD i := Nat.lt_of_lt_of_le h (Nat.pow_le_pow_right (by decide) (by decide))
theorem pI2_eq {C : Int → Int → Prop} [∀ i j, Decidable (C i j)] {g : Int → Int → D} {i j : Int} (h : C i j) : pI2 C g [.int i, .int j] = .ok (g i j) [.int i, .int j] := by
  unfold pI2
  exact if_pos h
theorem pAdd_eq {i j : Int} : pAdd [.int i, .int j] = .ok (.int (i + j)) [.int i, .int j] := pI2_eq trivial
theorem pSub_eq {i j : Int} : pSub [.int i, .int j] = .ok (.int (i - j)) [.int i, .int j] := pI2_eq trivial
theorem pMul_eq {i j : Int} (h1 : i.natAbs < 2 ^ 200) (h2 : j.natAbs < 2 ^ 200) : pMul [.int i, .int j] = .ok (.int (i * j)) [.int i, .int j] := pI2_eq ⟨sm_of h1, sm_of h2⟩
theorem pDiv_eq {i j : Int} (h1 : 0 < j) (h2 : j.natAbs < 2 ^ 200) : pDiv [.int i, .int j] = .ok (.int (i / j)) [.int i, .int j] := pI2_eq ⟨h1, smD_of h2⟩
theorem pMod_eq {i j : Int} (h1 : 0 < j) : pMod [.int i, .int j] = .ok (.int (i % j)) [.int i, .int j] := pI2_eq h1
theorem pPow_eq {i j : Int} (h1 : 0 ≤ j ∧ j ≤ 1000) (h2 : i.natAbs < 2 ^ 200) : pPow [.int i, .int j] = .ok (.int (i ^ j.toNat)) [.int i, .int j] := pI2_eq ⟨h1, smD_of h2⟩
theorem pLt_eq {i j : Int} : pLt [.int i, .int j] = .ok (.bl (decide (i < j))) [.int i, .int j] := pI2_eq trivial
theorem pLe_eq {i j : Int} : pLe [.int i, .int j] = .ok (.bl (decide (i ≤ j))) [.int i, .int j] := pI2_eq trivial
theorem pGt_eq {i j : Int} : pGt [.int i, .int j] = .ok (.bl (decide (j < i))) [.int i, .int j] := pI2_eq trivial
theorem pGe_eq {i j : Int} : pGe [.int i, .int j] = .ok (.bl (decide (j ≤ i))) [.int i, .int j] := pI2_eq trivial
theorem sSeq_nx {s t : SM} {ρ ρ1 : Env} (h : s ρ = .ok ρ1 .nx) : sSeq s t ρ = t ρ1 := by unfold sSeq; rw [h]; rfl
theorem sSeq_rt {s t : SM} {ρ ρ1 : Env} {d : D} (h : s ρ = .ok ρ1 (.rt d)) : sSeq s t ρ = .ok ρ1 (.rt d) := by unfold sSeq; rw [h]; rfl
theorem mkFn_rt {n np : Nat} {pr : List Nat} {b : SM} {ds ds' : List D} {ρ : Env} {d : D} (h : b ((msk pr 0 ds).map some ++ List.replicate (n - np) none) = .ok ρ (.rt d)) (h2 : bck pr ρ 0 (msk pr 0 ds) = some ds') : mkFn n np pr b ds = .ok d ds' := by
  unfold mkFn; rw [h]; dsimp only; rw [h2]
/-- the law's end -/
theorem law_sp {A : Gm} {p : Prim} {ns : List Int} {H : Hp} {a : Addr} {ds' : List D} (sq : SqL A.K H a (ns.map V.int)) (h : p [.scr ns] = .ok (.bl true) ds') : spF A 1 p [.ref a] H (fun v _ => v = .bl true) (fun _ _ _ => False) := by
  refine ⟨rfl, fun b => b = a ∧ H b ≠ none, fun _ => False, [.scr ns], ⟨fun _ _ z => z, fun b z => z.elim (fun z => z.2) fun z => z.elim⟩, RL.one ⟨a, rfl, ?_⟩, ?_⟩
  · rcases sq with g | g
    · exact .inl ⟨⟨rfl, by rcases g with g | ⟨o, g⟩ <;> rw [g] <;> simp⟩, g⟩
    · exact .inr g
  · rw [h]
    intro v F' S' H' _ _ rl
    obtain ⟨u, us, S1, S2, e, r, _⟩ := rl
    injection e with e1 e2
    rw [e1]
    exact r
end Fz
namespace Fz
theorem forD_nx {t : Tgt} {body : SM} {d : D} {ds : List D} {ρ ρ1 ρ2 : Env} (h : t.set d ρ = some ρ1) (h2 : body ρ1 = .ok ρ2 .nx) : forD t body (d :: ds) ρ = forD t body ds ρ2 := by
  show (match t.set d ρ with
    | none => Res.bad
    | some ρ1 => (body ρ1).bind fun ρ2 fl => match fl with
      | Fl.rt d => .ok ρ2 (Fl.rt d)
      | _ => forD t body ds ρ2) = _
  rw [h]
  dsimp only
  rw [h2]
  rfl
theorem sFor_ok {src : EvI} {t : Tgt} {body : SM} {ρ ρ1 : Env} {ds : List D} (h : src ρ = .ok ρ1 ds) : sFor src t body ρ = forD t body ds ρ1 := by unfold sFor; rw [h]; rfl
end Fz
namespace Fz
open PySem L2
theorem fnT_of {P : Program} {w : World} {K : PySem.W.Frag} {mg : Str → Option Value} {base : Heap} {CX : CXT} {k : Nat} {f : Addr} {fd : FuncData} {ps : List Str} {sp : Sp} (F : FnOk P w K mg base CX k f fd ps sp) : FnT P w K mg base CX k f fd ps sp :=
  ⟨F.len, fun A outer s H args us vs Q E _ => F.run A outer s H args us vs Q E⟩
def clsBody (s : Stmt) : List Stmt := match s with
  | .ClassDef _ _ _ b _ _ _ _ _ _ _ => b
  | _ => []
def dD (n : Str) (st : Stmt) : He.DefD := ⟨(n, none), n, n, defArgs st, defBody st, defScope st, [], []⟩
/-- the errors' facts: every one of them over the first, whose __init__ is told -/
def errB (K : PySem.W.Frag) (names : List Str) : Bool := names.all fun x => incB K (He.ga K (names.headD "")) (He.ga K x) && excB K (He.ga K x) &&
  decide (PySem.W.findIn K (.ref (He.ga K x)) "__init__" = some (some (.ref (He.ma K (He.ga K (names.headD "")) "__init__")))) && decide (PySem.W.typeIn K (.ref (He.ma K (He.ga K (names.headD "")) "__init__")) = some (.type "function")) &&
  decide (PySem.W.kitOne K (.ref (He.ga K x)) (.type "ValueError") = some true)
theorem errB_ok {K : PySem.W.Frag} {names : List Str} (h : errB K names = true) {x : Str} (hx : x ∈ names) : InC K (He.ga K (names.headD "")) (He.ga K x) ∧ ExcC K (He.ga K x) ∧ XfC K (He.ga K x) ∧
    PySem.W.findIn K (.ref (He.ga K x)) "__init__" = some (some (.ref (He.ma K (He.ga K (names.headD "")) "__init__"))) ∧ PySem.W.typeIn K (.ref (He.ma K (He.ga K (names.headD "")) "__init__")) = some (.type "function") ∧ PySem.W.kitOne K (.ref (He.ga K x)) (.type "ValueError") = some true := by
  have q := List.all_eq_true.mp h x hx
  simp only [Bool.and_eq_true, decide_eq_true_eq] at q
  obtain ⟨⟨⟨⟨q1, q2⟩, q3⟩, q4⟩, q5⟩ := q
  exact ⟨incB_ok q1, (excB_ok q2).1, (excB_ok q2).2, q3, q4, q5⟩
/-- which class an error is of -/
def isB (K : PySem.W.Frag) (names : List Str) (is : Nat → Nat → Bool) : Bool := (List.range names.length).all fun c => (List.range names.length).all fun i =>
  decide (PySem.W.kitOne K (.ref (He.ga K (names.getD c ""))) (.ref (He.ga K (names.getD i ""))) = some (is i c))
theorem isB_ok {K : PySem.W.Frag} {names : List Str} {is : Nat → Nat → Bool} (h : isB K names is = true) {c i : Nat} (hc : c < names.length) (hi : i < names.length) :
    PySem.W.kitOne K (.ref (He.ga K (names.getD c ""))) (.ref (He.ga K (names.getD i ""))) = some (is i c) :=
  of_decide_eq_true (List.all_eq_true.mp (List.all_eq_true.mp h c (List.mem_range.mpr hc)) i (List.mem_range.mpr hi))
end Fz

namespace Lw
open PySem L2 Fz
abbrev P0 : Program := PySem.Challenge.pw_fitsizes_k54_errors_made
def top (i : Nat) : Stmt := P0.main.body.getD i (.Pass ⟨0, 0, 0, 0⟩)
/-- class numbers to names -/
def errN : List Str := ["SizeError", "InvalidLine", "InvalidPipeline", "InvalidNumber", "InvalidRow", "InvalidCell", "InvalidPlaces", "NotFitting", "NotSteady", "NothingToUndo", "Unreadable"]
def clA (K : PySem.W.Frag) (c : Nat) : Addr := He.ga K (errN.getD c "")
abbrev GmK (K : PySem.W.Frag) : Gm := ⟨clA K, K⟩
def isE (i c : Nat) : Option Bool := if c < errN.length then some (decide (i = 0) || decide (i = c)) else none
def isVE (c : Nat) : Option Bool := if c < errN.length then some true else none
def elC (c : Nat) : Bool := decide (c < errN.length)
abbrev s__law_bag : Stmt := top 13
noncomputable def L__law_bag_0 : SM := (sSeq (sSet 1 (evN [(.ex (evN [(.ex (evN [(.ex (evN [(.nm 1), (.ex (evK (.int 1000003)))] pMul)), (.nm 3)] pAdd))] pInt)), (.ex (evK (.int 2305843009213693951)))] pMod))
    (sIf (tvB (evN [(.ex (evN [(.nm 3)] pAbs)), (.ex (evN [(.ex (evK (.int 10))), (.ex (evK (.int 18)))] pPow))] pGe)) (sDrop (evMt isLst (.nm 2) [(.ex (evN [(.nm 3)] pAbs))] pAppend)) sNx))
noncomputable def B__law_bag : SM := (sSeq (sPar [1, 2] [(.ex (evK (.int 11))), (.ex (evN [] pLst))])
    (sSeq (sFor (evIt (evVar 0)) (.nm 3) L__law_bag_0)
    (sRet (evN [.ex evNewD, .ex (evMove 2), .ex (evK (.int 0)), .ex (evK (.int 0)), .ex (evMove 1)] (pDct ["great", "left", "turn", "blend"])))))
noncomputable def F__law_bag : Prim := mkFn 4 1 [0] B__law_bag
abbrev s__law_draw : Stmt := top 14
noncomputable def B__law_draw : SM := (sSeq (sIf (tvAnd (tvB (evN [(.ex (evN [(.nm 0), (.ex (evK (.str "left")))] pDGet)), (.nm 1)] pLt)) (tvB (evN [(.ex (evN [(.nm 0)] (pDLen "great"))), (.ex (evK (.int 0)))] pGt))) (sDrop (evN [(.ex (evN [(.nm 0)] (pDPop0 "great"))), (.nm 0), (.ex (evK (.str "left")))] pDSet)) sNx)
    (sSeq (sIf (tvB (evN [(.ex (evN [(.nm 0), (.ex (evK (.str "left")))] pDGet)), (.nm 1)] pGe)) (sSeq (sSet 2 (evN [(.ex (evN [(.ex (evN [(.nm 0), (.ex (evK (.str "left")))] pDGet))] pInt)), (.nm 1)] pMod))
    (sSeq (sDrop (evN [(.ex (evN [(.ex (evN [(.ex (evN [(.nm 0), (.ex (evK (.str "left")))] pDGet))] pInt)), (.nm 1)] pDiv)), (.nm 0), (.ex (evK (.str "left")))] pDSet))
    (sRet (evMove 2)))) sNx)
    (sSeq (sDrop (evN [(.nm 0)] (pDAug "turn" fun n => n + 1)))
    (sSeq (sSet 3 (evN [(.nm 0), (.ex (evK (.str "turn")))] pDGet))
    (sSeq (sSet 4 (evN [(.ex (evN [(.ex (evN [(.ex (evN [(.nm 0), (.ex (evK (.str "blend")))] pDGet)), (.ex (evN [(.ex (evK (.int 17))), (.nm 3)] pMul))] pAdd)), (.ex (evN [(.ex (evN [(.nm 3), (.ex (evK (.int 29)))] pAdd)), (.ex (evK (.int 2)))] pPow))] pMul)), (.ex (evN [(.ex (evK (.int 7919))), (.nm 3)] pMul))] pAdd))
    (sSeq (sSet 4 (evN [(.ex (evN [(.nm 4)] pInt)), (.ex (evK (.int 2305843009213693951)))] pMod))
    (sRet (evN [(.ex (evN [(.ex (evN [(.ex (evN [(.ex (evN [(.ex (evN [(.nm 4), (.ex (evK (.int 3)))] pPow))] pInt)), (.ex (evN [(.ex (evN [(.ex (evK (.int 10))), (.ex (evK (.int 18)))] pPow)), (.ex (evK (.int 9)))] pAdd))] pMod)), (.ex (evK (.int 64)))] pDiv))] pInt)), (.nm 1)] pMod))))))))
noncomputable def F__law_draw : Prim := mkFn 5 2 [0, 1] B__law_draw
abbrev s__law_made : Stmt := top 15
noncomputable def B__law_made : SM := (sSeq (sSet 1 (evN [(.ex (evN [(.ex (evN [.ex (evVar 0)] (pErr 1))), (.ex (evN [.ex (evVar 0)] (pErr 1)))] pTup)), (.ex (evN [(.ex (evN [.ex (evVar 0)] (pErr 2))), (.ex (evN [.ex (evVar 0)] (pErr 2)))] pTup))] pLst))
    (sSeq (sDrop (evMt isLst (.nm 1) [(.ex (evN [(.ex (evN [.ex (evVar 0)] (pErr 3))), (.ex (evN [.ex (evVar 0)] (pErr 3)))] pTup))] pAppend))
    (sSeq (sDrop (evMt isLst (.nm 1) [(.ex (evN [(.ex (evN [.ex (evVar 0)] (pErr 4))), (.ex (evN [.ex (evVar 0)] (pErr 4)))] pTup))] pAppend))
    (sSeq (sDrop (evMt isLst (.nm 1) [(.ex (evN [(.ex (evN [.ex (evVar 0)] (pErr 5))), (.ex (evN [.ex (evVar 0)] (pErr 5)))] pTup))] pAppend))
    (sSeq (sDrop (evMt isLst (.nm 1) [(.ex (evN [(.ex (evN [.ex (evVar 0)] (pErr 6))), (.ex (evN [.ex (evVar 0)] (pErr 6)))] pTup))] pAppend))
    (sSeq (sDrop (evMt isLst (.nm 1) [(.ex (evN [(.ex (evN [.ex (evVar 0)] (pErr 7))), (.ex (evN [.ex (evVar 0)] (pErr 7)))] pTup))] pAppend))
    (sSeq (sDrop (evMt isLst (.nm 1) [(.ex (evN [(.ex (evN [.ex (evVar 0)] (pErr 8))), (.ex (evN [.ex (evVar 0)] (pErr 8)))] pTup))] pAppend))
    (sSeq (sDrop (evMt isLst (.nm 1) [(.ex (evN [(.ex (evN [.ex (evVar 0)] (pErr 9))), (.ex (evN [.ex (evVar 0)] (pErr 9)))] pTup))] pAppend))
    (sSeq (sDrop (evMt isLst (.nm 1) [(.ex (evN [(.ex (evN [.ex (evVar 0)] (pErr 10))), (.ex (evN [.ex (evVar 0)] (pErr 10)))] pTup))] pAppend))
    (sRet (evMove 1)))))))))))
noncomputable def F__law_made : Prim := mkFn 2 1 [0] B__law_made
abbrev s__law_flags : Stmt := top 16
noncomputable def B__law_flags : SM := (sSeq (sSet 1 (evN [(.ex (evN [(.nm 0)] (pIsErr (isE 1)))), (.ex (evN [(.nm 0)] (pIsErr (isE 2)))), (.ex (evN [(.nm 0)] (pIsErr (isE 3))))] pLst))
    (sSeq (sDrop (evMt isLst (.nm 1) [(.ex (evN [(.ex (evN [(.nm 0)] (pIsErr (isE 4)))), (.ex (evN [(.nm 0)] (pIsErr (isE 5)))), (.ex (evN [(.nm 0)] (pIsErr (isE 6))))] pLst))] pExtend))
    (sSeq (sDrop (evMt isLst (.nm 1) [(.ex (evN [(.ex (evN [(.nm 0)] (pIsErr (isE 7)))), (.ex (evN [(.nm 0)] (pIsErr (isE 8)))), (.ex (evN [(.nm 0)] (pIsErr (isE 9))))] pLst))] pExtend))
    (sSeq (sDrop (evMt isLst (.nm 1) [(.ex (evN [(.nm 0)] (pIsErr (isE 10))))] pAppend))
    (sRet (evMove 1))))))
noncomputable def F__law_flags : Prim := mkFn 2 1 [0] B__law_flags
abbrev s_law : Stmt := top 17
noncomputable def E_law_0 : EvE := (evN [(.nm 7), (.nm 5)] pEq)
noncomputable def L_law_1 : SM := (sSeq (sIf (tvOr (tvB (evN [(.ex (evN [(.ex (evN [(.nm 6)] (pErrV elC)))] pRepr)), (.ex (evN [(.nm 3)] pRepr))] pNe)) (tvOr (tvNot (tvB (evN [(.nm 6)] (pIsErr (isE 0))))) (tvNot (tvB (evN [(.nm 6)] (pIsErr isVE)))))) (sRet (evK (.bl false))) sNx)
    (sIf (tvB (evN [(.ex (evN [(.nm 6)] F__law_flags)), (.ex (evLc (evNI [(.ex (evK (.int 10)))] pRng1) (.nm 7) tvT E_law_0 [7]))] pNe)) (sRet (evK (.bl false))) sNx))
noncomputable def L_law_2 : SM := (sFor (evIt (evN [(.nm 4), (.nm 5)] pIx)) (.nm 6) L_law_1)
noncomputable def L_law_3 : SM := (sSeq (sSet 3 (evN [(.ex (evFz (evN [(.ex (evK .non)), (.ex (evN [(.ex (evK (.int 1))), (.ex (evK (.int 0)))] pLst)), (.ex (evK (.str "text"))), (.ex (evN [(.nm 1), (.ex (evN [(.ex (evK (.int 10))), (.ex (evK (.int 20)))] pPow))] F__law_draw)), (.ex (evK (.int 0))), (.ex (evN [(.ex (evK (.int 1)))] pNeg))] pTup))), (.ex (evN [(.nm 1), (.ex (evK (.int 6)))] F__law_draw))] pIx))
    (sSeq (sSet 4 (evN [(.nm 3)] F__law_made))
    (sSeq (sFor (evNI [(.ex (evK (.int 10)))] pRng1) (.nm 5) L_law_2)
    (sIf (tvOr (tvB (evN [(.ex (evN [(.ex (evN [(.ex (evN [.ex (evVar 3)] (pErr 0)))] (pErrV elC)))] pRepr)), (.ex (evN [(.nm 3)] pRepr))] pNe)) (tvB (evN [(.ex (evN [(.ex (evN [(.ex (evN [.ex (evVar 3)] (pErr 0)))] (pErrV elC)))] pRepr)), (.ex (evN [(.nm 3)] pRepr))] pNe))) (sRet (evK (.bl false))) sNx))))
noncomputable def B_law : SM := (sSeq (sSet 1 (evN [(.nm 0)] F__law_bag))
    (sSeq (sFor (evNI [(.ex (evN [(.ex (evK (.int 4))), (.ex (evN [(.ex (evK (.int 8))), (.ex (evN [(.nm 0)] pLen))] pMin2))] pAdd))] pRng1) (.nm 2) L_law_3)
    (sRet (evN [(.ex (evN [(.ex (evN [.ex (evK (.str "a"))] (pErr 0)))] F__law_flags)), (.ex (evN [(.ex (evN [(.ex (evK (.bl false)))] pLst)), (.ex (evK (.int 10)))] pRepL))] pEq))))
noncomputable def F_law : Prim := mkFn 8 1 [0] B_law
section
variable {w : World} {K : PySem.W.Frag} {mg : Str → Option Value} {base : Heap}
theorem sc__law_bag : FnScope ["script", "blend", "great", "cell"] ["script"] (defScope s__law_bag) := ⟨rfl, rfl, rfl, by decide +kernel, rfl, by decide +kernel, by decide +kernel⟩
theorem ok__law_bag {f__law_bag : Addr} {fd__law_bag : FuncData} (Fd : FnP K "_law_bag" "_law_bag" s__law_bag f__law_bag fd__law_bag)
    (m_abs : mg "abs" = none)
    (m_int : mg "int" = none) : FnOk P0 w K mg base (L2.CX P0 w) 1 f__law_bag fd__law_bag ["script"] (spF (GmK K) 1 F__law_bag) := by
  have nd := sc__law_bag.nd
  refine fn_ok (A := GmK K) (pr := [0]) (n := 4) (np := 1) (s := B__law_bag) Fd.fun sc__law_bag rfl rfl (by decide) (fun cdv A' outer sh H E hr => ?_)
  have tk : Takes (cxOf (L2.CX P0 w) P0 w K mg base ["script", "blend", "great", "cell"] "_law_bag" (defScope s__law_bag) f__law_bag cdv A' outer sh H E) (fun cls d _ H' => E cls d H') := takes_of rfl rfl rfl rfl
  have hK : K = (GmK K).K := rfl
  exact (gss_cons (gs_par2 (i := 1) (j := 2) rfl nd rfl rfl (gl_cons (ope ge_int) (gl_cons (ope (ge_lst gl_nil)) gl_nil)))
    (gss_cons (gs_for (tt := (.nm 3)) (passes_of rfl) rfl (gw_any hK (vvr 0)) (gt_nm (i := 3) nd rfl (by first | exact .inl rfl | exact .inr rfl)) (gss_cons (gs_set (i := 1) nd rfl (by first | exact .inl rfl | exact .inr rfl) (ge_mod (ope (ge_callTy call_int1 (fun _ _ _ _ h => ok_int h) rfl m_int (by decide +kernel) (gl_cons (ope (ge_add (ope (ge_mul (vnm 1) (ope ge_int))) (vnm 3))) gl_nil))) (ope ge_int)) (by decide))
    (gss_one (gs_if (gb_ge (ope (ge_callB call_abs (fun _ _ _ _ h => ok_abs h) rfl m_abs (by decide +kernel) (gl_cons (vnm 3) gl_nil))) (ope (ge_pow (ope ge_int) (ope ge_int)))) (gss_one (gs_drop (ge_append (vnm 2) (gl_cons (ope (ge_callB call_abs (fun _ _ _ _ h => ok_abs h) rfl m_abs (by decide +kernel) (gl_cons (vnm 3) gl_nil))) gl_nil)))) gss_nil))) np_nm)
    (gss_one (gs_ret (ge_dct (GD.cons (ope (vmv 2)) (GD.cons (ope ge_int) (GD.cons (ope ge_int) (GD.cons (ope (vmv 1)) GD.nil)))))))))
theorem sc__law_draw : FnScope ["bag", "many", "drawn", "turn", "mixed"] ["bag", "many"] (defScope s__law_draw) := ⟨rfl, rfl, rfl, by decide +kernel, rfl, by decide +kernel, by decide +kernel⟩
theorem ok__law_draw {f__law_draw : Addr} {fd__law_draw : FuncData} (Fd : FnP K "_law_draw" "_law_draw" s__law_draw f__law_draw fd__law_draw)
    (m_int : mg "int" = none)
    (m_len : mg "len" = none) : FnOk P0 w K mg base (L2.CX P0 w) 1 f__law_draw fd__law_draw ["bag", "many"] (spF (GmK K) 2 F__law_draw) := by
  have nd := sc__law_draw.nd
  refine fn_ok (A := GmK K) (pr := [0, 1]) (n := 5) (np := 2) (s := B__law_draw) Fd.fun sc__law_draw rfl rfl (by decide) (fun cdv A' outer sh H E hr => ?_)
  have tk : Takes (cxOf (L2.CX P0 w) P0 w K mg base ["bag", "many", "drawn", "turn", "mixed"] "_law_draw" (defScope s__law_draw) f__law_draw cdv A' outer sh H E) (fun cls d _ H' => E cls d H') := takes_of rfl rfl rfl rfl
  have hK : K = (GmK K).K := rfl
  exact (gss_cons (gs_if (gb_w (gw_and (gb_lt (ope (ge_dget (units1 hr) (vnm 0) (ope ge_str) (fun _ _ => rfl))) (vnm 1)) (gw_and1 (gb_gt (ope (ge_dlen hK (units1 hr) rfl m_len (vnm 0) (fun _ _ => rfl))) (ope ge_int))))) (gss_one (gs_setD (units1 hr) (ope (ge_dpop0 (units1 hr) (vnm 0) (fun _ _ => rfl))) (vnm 0) (ope ge_str))) gss_nil)
    (gss_cons (gs_if (gb_ge (ope (ge_dget (units1 hr) (vnm 0) (ope ge_str) (fun _ _ => rfl))) (vnm 1)) (gss_cons (gs_set (i := 2) nd rfl (by first | exact .inl rfl | exact .inr rfl) (ge_mod (ope (ge_callTy call_int1 (fun _ _ _ _ h => ok_int h) rfl m_int (by decide +kernel) (gl_cons (ope (ge_dget (units1 hr) (vnm 0) (ope ge_str) (fun _ _ => rfl))) gl_nil))) (vnm 1)) (by decide))
    (gss_cons (gs_setD (units1 hr) (ope (ge_div (ope (ge_callTy call_int1 (fun _ _ _ _ h => ok_int h) rfl m_int (by decide +kernel) (gl_cons (ope (ge_dget (units1 hr) (vnm 0) (ope ge_str) (fun _ _ => rfl))) gl_nil))) (vnm 1))) (vnm 0) (ope ge_str))
    (gss_one (gs_ret (vmv 2))))) gss_nil)
    (gss_cons (gs_augD (units1 hr) augAdd (vnm 0))
    (gss_cons (gs_set (i := 3) nd rfl (by first | exact .inl rfl | exact .inr rfl) (ge_dget (units1 hr) (vnm 0) (ope ge_str) (fun _ _ => rfl)) (by decide))
    (gss_cons (gs_set (i := 4) nd rfl (by first | exact .inl rfl | exact .inr rfl) (ge_add (ope (ge_mul (ope (ge_add (ope (ge_dget (units1 hr) (vnm 0) (ope ge_str) (fun _ _ => rfl))) (ope (ge_mul (ope ge_int) (vnm 3))))) (ope (ge_pow (ope (ge_add (vnm 3) (ope ge_int))) (ope ge_int))))) (ope (ge_mul (ope ge_int) (vnm 3)))) (by decide))
    (gss_cons (gs_set (i := 4) nd rfl (by first | exact .inl rfl | exact .inr rfl) (ge_mod (ope (ge_callTy call_int1 (fun _ _ _ _ h => ok_int h) rfl m_int (by decide +kernel) (gl_cons (vnm 4) gl_nil))) (ope ge_int)) (by decide))
    (gss_one (gs_ret (ge_mod (ope (ge_callTy call_int1 (fun _ _ _ _ h => ok_int h) rfl m_int (by decide +kernel) (gl_cons (ope (ge_div (ope (ge_mod (ope (ge_callTy call_int1 (fun _ _ _ _ h => ok_int h) rfl m_int (by decide +kernel) (gl_cons (ope (ge_pow (vnm 4) (ope ge_int))) gl_nil))) (ope (ge_add (ope (ge_pow (ope ge_int) (ope ge_int))) (ope ge_int))))) (ope ge_int))) gl_nil))) (vnm 1))))))))))
theorem sc__law_made : FnScope ["thing", "found"] ["thing"] (defScope s__law_made) := ⟨rfl, rfl, rfl, by decide +kernel, rfl, by decide +kernel, by decide +kernel⟩
theorem ok__law_made {f__law_made : Addr} {fd__law_made : FuncData} (Fd : FnP K "_law_made" "_law_made" s__law_made f__law_made fd__law_made)
    {Dd : Addr} (he : ∀ (c : Nat), c < errN.length → ∀ X : Cx, X.prog = P0 → X.w = w → X.K = K → X.mg = mg → X.base = base → ErrC X Dd (clA K c) 1)
    (m_InvalidCell : mg "InvalidCell" = some (.ref (clA K 5)))
    (m_InvalidLine : mg "InvalidLine" = some (.ref (clA K 1)))
    (m_InvalidNumber : mg "InvalidNumber" = some (.ref (clA K 3)))
    (m_InvalidPipeline : mg "InvalidPipeline" = some (.ref (clA K 2)))
    (m_InvalidPlaces : mg "InvalidPlaces" = some (.ref (clA K 6)))
    (m_InvalidRow : mg "InvalidRow" = some (.ref (clA K 4)))
    (m_NotFitting : mg "NotFitting" = some (.ref (clA K 7)))
    (m_NotSteady : mg "NotSteady" = some (.ref (clA K 8)))
    (m_NothingToUndo : mg "NothingToUndo" = some (.ref (clA K 9)))
    (m_Unreadable : mg "Unreadable" = some (.ref (clA K 10))) : FnOk P0 w K mg base (L2.CX P0 w) 3 f__law_made fd__law_made ["thing"] (spF (GmK K) 1 F__law_made) := by
  have nd := sc__law_made.nd
  refine fn_ok (A := GmK K) (pr := [0]) (n := 2) (np := 1) (s := B__law_made) Fd.fun sc__law_made rfl rfl (by decide) (fun cdv A' outer sh H E hr => ?_)
  have tk : Takes (cxOf (L2.CX P0 w) P0 w K mg base ["thing", "found"] "_law_made" (defScope s__law_made) f__law_made cdv A' outer sh H E) (fun cls d _ H' => E cls d H') := takes_of rfl rfl rfl rfl
  exact (gss_cons (gs_set (i := 1) nd rfl (by first | exact .inl rfl | exact .inr rfl) (ge_lst (gl_cons (ope (ge_tup (gl_cons (ope (ge_err (he 1 (by decide) _ rfl rfl rfl rfl rfl) (room_le hr) rfl m_InvalidLine (gl_cons (ope (vvr 0)) gl_nil))) (gl_cons (ope (ge_errK (he 1 (by decide) _ rfl rfl rfl rfl rfl) (room_le hr) rfl m_InvalidLine (glk_cons (ope (vvr 0)) glk_nil))) gl_nil)))) (gl_cons (ope (ge_tup (gl_cons (ope (ge_err (he 2 (by decide) _ rfl rfl rfl rfl rfl) (room_le hr) rfl m_InvalidPipeline (gl_cons (ope (vvr 0)) gl_nil))) (gl_cons (ope (ge_errK (he 2 (by decide) _ rfl rfl rfl rfl rfl) (room_le hr) rfl m_InvalidPipeline (glk_cons (ope (vvr 0)) glk_nil))) gl_nil)))) gl_nil))) (by decide))
    (gss_cons (gs_drop (ge_append (vnm 1) (gl_cons (ope (ge_tup (gl_cons (ope (ge_err (he 3 (by decide) _ rfl rfl rfl rfl rfl) (room_le hr) rfl m_InvalidNumber (gl_cons (ope (vvr 0)) gl_nil))) (gl_cons (ope (ge_errK (he 3 (by decide) _ rfl rfl rfl rfl rfl) (room_le hr) rfl m_InvalidNumber (glk_cons (ope (vvr 0)) glk_nil))) gl_nil)))) gl_nil)))
    (gss_cons (gs_drop (ge_append (vnm 1) (gl_cons (ope (ge_tup (gl_cons (ope (ge_err (he 4 (by decide) _ rfl rfl rfl rfl rfl) (room_le hr) rfl m_InvalidRow (gl_cons (ope (vvr 0)) gl_nil))) (gl_cons (ope (ge_errK (he 4 (by decide) _ rfl rfl rfl rfl rfl) (room_le hr) rfl m_InvalidRow (glk_cons (ope (vvr 0)) glk_nil))) gl_nil)))) gl_nil)))
    (gss_cons (gs_drop (ge_append (vnm 1) (gl_cons (ope (ge_tup (gl_cons (ope (ge_err (he 5 (by decide) _ rfl rfl rfl rfl rfl) (room_le hr) rfl m_InvalidCell (gl_cons (ope (vvr 0)) gl_nil))) (gl_cons (ope (ge_errK (he 5 (by decide) _ rfl rfl rfl rfl rfl) (room_le hr) rfl m_InvalidCell (glk_cons (ope (vvr 0)) glk_nil))) gl_nil)))) gl_nil)))
    (gss_cons (gs_drop (ge_append (vnm 1) (gl_cons (ope (ge_tup (gl_cons (ope (ge_err (he 6 (by decide) _ rfl rfl rfl rfl rfl) (room_le hr) rfl m_InvalidPlaces (gl_cons (ope (vvr 0)) gl_nil))) (gl_cons (ope (ge_errK (he 6 (by decide) _ rfl rfl rfl rfl rfl) (room_le hr) rfl m_InvalidPlaces (glk_cons (ope (vvr 0)) glk_nil))) gl_nil)))) gl_nil)))
    (gss_cons (gs_drop (ge_append (vnm 1) (gl_cons (ope (ge_tup (gl_cons (ope (ge_err (he 7 (by decide) _ rfl rfl rfl rfl rfl) (room_le hr) rfl m_NotFitting (gl_cons (ope (vvr 0)) gl_nil))) (gl_cons (ope (ge_errK (he 7 (by decide) _ rfl rfl rfl rfl rfl) (room_le hr) rfl m_NotFitting (glk_cons (ope (vvr 0)) glk_nil))) gl_nil)))) gl_nil)))
    (gss_cons (gs_drop (ge_append (vnm 1) (gl_cons (ope (ge_tup (gl_cons (ope (ge_err (he 8 (by decide) _ rfl rfl rfl rfl rfl) (room_le hr) rfl m_NotSteady (gl_cons (ope (vvr 0)) gl_nil))) (gl_cons (ope (ge_errK (he 8 (by decide) _ rfl rfl rfl rfl rfl) (room_le hr) rfl m_NotSteady (glk_cons (ope (vvr 0)) glk_nil))) gl_nil)))) gl_nil)))
    (gss_cons (gs_drop (ge_append (vnm 1) (gl_cons (ope (ge_tup (gl_cons (ope (ge_err (he 9 (by decide) _ rfl rfl rfl rfl rfl) (room_le hr) rfl m_NothingToUndo (gl_cons (ope (vvr 0)) gl_nil))) (gl_cons (ope (ge_errK (he 9 (by decide) _ rfl rfl rfl rfl rfl) (room_le hr) rfl m_NothingToUndo (glk_cons (ope (vvr 0)) glk_nil))) gl_nil)))) gl_nil)))
    (gss_cons (gs_drop (ge_append (vnm 1) (gl_cons (ope (ge_tup (gl_cons (ope (ge_err (he 10 (by decide) _ rfl rfl rfl rfl rfl) (room_le hr) rfl m_Unreadable (gl_cons (ope (vvr 0)) gl_nil))) (gl_cons (ope (ge_errK (he 10 (by decide) _ rfl rfl rfl rfl rfl) (room_le hr) rfl m_Unreadable (glk_cons (ope (vvr 0)) glk_nil))) gl_nil)))) gl_nil)))
    (gss_one (gs_ret (vmv 1))))))))))))
theorem sc__law_flags : FnScope ["e", "flags"] ["e"] (defScope s__law_flags) := ⟨rfl, rfl, rfl, by decide +kernel, rfl, by decide +kernel, by decide +kernel⟩
theorem ok__law_flags {f__law_flags : Addr} {fd__law_flags : FuncData} (Fd : FnP K "_law_flags" "_law_flags" s__law_flags f__law_flags fd__law_flags)
    (m_isinstance : mg "isinstance" = none)
    {Dd : Addr} (he : ∀ (c : Nat), c < errN.length → ∀ X : Cx, X.prog = P0 → X.w = w → X.K = K → X.mg = mg → X.base = base → ErrC X Dd (clA K c) 1)
    (m_InvalidCell : mg "InvalidCell" = some (.ref (clA K 5)))
    (m_InvalidLine : mg "InvalidLine" = some (.ref (clA K 1)))
    (m_InvalidNumber : mg "InvalidNumber" = some (.ref (clA K 3)))
    (m_InvalidPipeline : mg "InvalidPipeline" = some (.ref (clA K 2)))
    (m_InvalidPlaces : mg "InvalidPlaces" = some (.ref (clA K 6)))
    (m_InvalidRow : mg "InvalidRow" = some (.ref (clA K 4)))
    (m_NotFitting : mg "NotFitting" = some (.ref (clA K 7)))
    (m_NotSteady : mg "NotSteady" = some (.ref (clA K 8)))
    (m_NothingToUndo : mg "NothingToUndo" = some (.ref (clA K 9)))
    (m_Unreadable : mg "Unreadable" = some (.ref (clA K 10)))
    (hIs : ∀ i, i < errN.length → ∀ c b, isE i c = some b → ExcC K (clA K c) ∧ PySem.W.kitOne K (.ref (clA K c)) (.ref (clA K i)) = some b) : FnOk P0 w K mg base (L2.CX P0 w) 3 f__law_flags fd__law_flags ["e"] (spF (GmK K) 1 F__law_flags) := by
  have nd := sc__law_flags.nd
  refine fn_ok (A := GmK K) (pr := [0]) (n := 2) (np := 1) (s := B__law_flags) Fd.fun sc__law_flags rfl rfl (by decide) (fun cdv A' outer sh H E hr => ?_)
  have tk : Takes (cxOf (L2.CX P0 w) P0 w K mg base ["e", "flags"] "_law_flags" (defScope s__law_flags) f__law_flags cdv A' outer sh H E) (fun cls d _ H' => E cls d H') := takes_of rfl rfl rfl rfl
  exact (gss_cons (gs_set (i := 1) nd rfl (by first | exact .inl rfl | exact .inr rfl) (ge_lst (gl_cons (ope (ge_isErr (.own _) (hIs 1 (by decide)) rfl m_isinstance (vnm 0) (pe_glob rfl m_InvalidLine rfl))) (gl_cons (ope (ge_isErr (.own _) (hIs 2 (by decide)) rfl m_isinstance (vnm 0) (pe_glob rfl m_InvalidPipeline rfl))) (gl_cons (ope (ge_isErr (.own _) (hIs 3 (by decide)) rfl m_isinstance (vnm 0) (pe_glob rfl m_InvalidNumber rfl))) gl_nil)))) (by decide))
    (gss_cons (gs_drop (ge_extend (vnm 1) (gl_cons (ope (ge_lst (gl_cons (ope (ge_isErr (.own _) (hIs 4 (by decide)) rfl m_isinstance (vnm 0) (pe_glob rfl m_InvalidRow rfl))) (gl_cons (ope (ge_isErr (.own _) (hIs 5 (by decide)) rfl m_isinstance (vnm 0) (pe_glob rfl m_InvalidCell rfl))) (gl_cons (ope (ge_isErr (.own _) (hIs 6 (by decide)) rfl m_isinstance (vnm 0) (pe_glob rfl m_InvalidPlaces rfl))) gl_nil))))) gl_nil)))
    (gss_cons (gs_drop (ge_extend (vnm 1) (gl_cons (ope (ge_lst (gl_cons (ope (ge_isErr (.own _) (hIs 7 (by decide)) rfl m_isinstance (vnm 0) (pe_glob rfl m_NotFitting rfl))) (gl_cons (ope (ge_isErr (.own _) (hIs 8 (by decide)) rfl m_isinstance (vnm 0) (pe_glob rfl m_NotSteady rfl))) (gl_cons (ope (ge_isErr (.own _) (hIs 9 (by decide)) rfl m_isinstance (vnm 0) (pe_glob rfl m_NothingToUndo rfl))) gl_nil))))) gl_nil)))
    (gss_cons (gs_drop (ge_append (vnm 1) (gl_cons (ope (ge_isErr (.own _) (hIs 10 (by decide)) rfl m_isinstance (vnm 0) (pe_glob rfl m_Unreadable rfl))) gl_nil)))
    (gss_one (gs_ret (vmv 1)))))))
theorem sc_law : FnScope ["script", "bag", "turn", "thing", "made", "place", "e", "spot"] ["script"] (defScope s_law) := ⟨rfl, rfl, rfl, by decide +kernel, rfl, by decide +kernel, by decide +kernel⟩
theorem ok_law {f_law : Addr} {fd_law : FuncData} (Fd : FnP K "law" "law" s_law f_law fd_law)
    {f__law_bag : Addr} {fd__law_bag : FuncData} (m__law_bag : mg "_law_bag" = some (.ref f__law_bag)) (ok__law_bag : FnOk P0 w K mg base (L2.CX P0 w) 1 f__law_bag fd__law_bag ["script"] (spF (GmK K) 1 F__law_bag) ∧ Binds K fd__law_bag ["script"] [] ∧ PySem.W.keepIn K (.ref f__law_bag) = true)
    {f__law_draw : Addr} {fd__law_draw : FuncData} (m__law_draw : mg "_law_draw" = some (.ref f__law_draw)) (ok__law_draw : FnOk P0 w K mg base (L2.CX P0 w) 1 f__law_draw fd__law_draw ["bag", "many"] (spF (GmK K) 2 F__law_draw) ∧ Binds K fd__law_draw ["bag", "many"] [] ∧ PySem.W.keepIn K (.ref f__law_draw) = true)
    {f__law_flags : Addr} {fd__law_flags : FuncData} (m__law_flags : mg "_law_flags" = some (.ref f__law_flags)) (ok__law_flags : FnOk P0 w K mg base (L2.CX P0 w) 3 f__law_flags fd__law_flags ["e"] (spF (GmK K) 1 F__law_flags) ∧ Binds K fd__law_flags ["e"] [] ∧ PySem.W.keepIn K (.ref f__law_flags) = true)
    {f__law_made : Addr} {fd__law_made : FuncData} (m__law_made : mg "_law_made" = some (.ref f__law_made)) (ok__law_made : FnOk P0 w K mg base (L2.CX P0 w) 3 f__law_made fd__law_made ["thing"] (spF (GmK K) 1 F__law_made) ∧ Binds K fd__law_made ["thing"] [] ∧ PySem.W.keepIn K (.ref f__law_made) = true)
    (m_ValueError : mg "ValueError" = none)
    (m_isinstance : mg "isinstance" = none)
    (m_len : mg "len" = none)
    (m_min : mg "min" = none)
    (m_range : mg "range" = none)
    (m_repr : mg "repr" = none)
    {Dd : Addr} (he : ∀ (c : Nat), c < errN.length → ∀ X : Cx, X.prog = P0 → X.w = w → X.K = K → X.mg = mg → X.base = base → ErrC X Dd (clA K c) 1)
    (m_SizeError : mg "SizeError" = some (.ref (clA K 0)))
    (hErr : ∀ c, elC c = true → XfC K (clA K c) ∧ PySem.W.findIn K (.ref (clA K c)) "value" = some none)
    (hIs : ∀ i, i < errN.length → ∀ c b, isE i c = some b → ExcC K (clA K c) ∧ PySem.W.kitOne K (.ref (clA K c)) (.ref (clA K i)) = some b)
    (hIsVE : ∀ c b, isVE c = some b → ExcC K (clA K c) ∧ PySem.W.kitOne K (.ref (clA K c)) (.type "ValueError") = some b) : FnT P0 w K mg base (L2.CX P0 w) 4 f_law fd_law ["script"] (spF (GmK K) 1 F_law) := by
  have nd := sc_law.nd
  refine fn_okT (A := GmK K) (pr := [0]) (n := 8) (np := 1) (s := B_law) Fd.fun sc_law rfl rfl (by decide) (fun cdv A' outer sh H E hgd hr => ?_)
  have tk : Takes (cxOf (L2.CX P0 w) P0 w K mg base ["script", "bag", "turn", "thing", "made", "place", "e", "spot"] "law" (defScope s_law) f_law cdv A' outer sh H E) (fun cls d _ H' => E cls d H') := takes_of rfl rfl rfl rfl
  have hK : K = (GmK K).K := rfl
  exact (gss_cons (gs_set (i := 1) nd rfl (by first | exact .inl rfl | exact .inr rfl) (ge_call ok__law_bag.1 tk (room_le hr) rfl m__law_bag ok__law_bag.2.2 ok__law_bag.2.1 rfl (gl_cons (vnm 0) gl_nil)) (by decide))
    (gss_cons (gs_for (tt := (.nm 2)) (passes_of rfl) rfl (gw_rng1 rfl m_range (gl_cons (ope (ge_add (ope ge_int) (ope (ge_callB (call_min2 rfl) (fun _ _ _ _ h => ok_min2 h) rfl m_min (by decide +kernel) (gl_cons (ope ge_int) (gl_cons (ope (ge_len hK rfl m_len (gl_cons (vnm 0) gl_nil))) gl_nil)))))) gl_nil)) (gt_nm (i := 2) nd rfl (by first | exact .inl rfl | exact .inr rfl)) (gss_cons (gs_set (i := 3) nd rfl (by first | exact .inl rfl | exact .inr rfl) (ge_ix hK (ope (ge_fz (ge_tup (gl_cons (ope ge_non) (gl_cons (ope (ge_lst (gl_cons (ope ge_int) (gl_cons (ope ge_int) gl_nil)))) (gl_cons (ope ge_str) (gl_cons (ope (ge_call ok__law_draw.1 tk (room_le hr) rfl m__law_draw ok__law_draw.2.2 ok__law_draw.2.1 rfl (gl_cons (vnm 1) (gl_cons (ope (ge_pow (ope ge_int) (ope ge_int))) gl_nil)))) (gl_cons (ope ge_int) (gl_cons (ope (ge_neg (ope ge_int))) gl_nil))))))))) (ope (ge_call ok__law_draw.1 tk (room_le hr) rfl m__law_draw ok__law_draw.2.2 ok__law_draw.2.1 rfl (gl_cons (vnm 1) (gl_cons (ope ge_int) gl_nil)))) (fun _ _ => rfl)) (by decide))
    (gss_cons (gs_set (i := 4) nd rfl (by first | exact .inl rfl | exact .inr rfl) (ge_call ok__law_made.1 tk (room_le hr) rfl m__law_made ok__law_made.2.2 ok__law_made.2.1 rfl (gl_cons (vnm 3) gl_nil)) (by decide))
    (gss_cons (gs_for (tt := (.nm 5)) (passes_of rfl) rfl (gw_rng1 rfl m_range (gl_cons (ope ge_int) gl_nil)) (gt_nm (i := 5) nd rfl (by first | exact .inl rfl | exact .inr rfl)) (gss_one (gs_for (tt := (.nm 6)) (passes_of rfl) rfl (gw_any hK (ge_ix hK (vnm 4) (vnm 5) (fun _ _ => rfl))) (gt_nm (i := 6) nd rfl (by first | exact .inl rfl | exact .inr rfl)) (gss_cons (gs_if (gb_w (gw_or (gb_ne (units64 hr) (ope (ge_repr hgd (units66 hr) rfl m_repr (gl_cons (ope (ge_errV hErr (vnm 6))) gl_nil))) (ope (ge_repr hgd (units66 hr) rfl m_repr (gl_cons (vnm 3) gl_nil)))) (gw_or (gb_not (gb_val (ge_isErr (.own _) (hIs 0 (by decide)) rfl m_isinstance (vnm 6) (pe_glob rfl m_SizeError rfl)))) (gw_or1 (gb_not (gb_val (ge_isErr (.ty "ValueError") hIsVE rfl m_isinstance (vnm 6) (pe_bltn rfl m_ValueError (by decide +kernel) rfl)))))))) (gss_one (gs_ret ge_bl)) gss_nil)
    (gss_one (gs_if (gb_ne (units64 hr) (ope (ge_call ok__law_flags.1 tk (room_le hr) rfl m__law_flags ok__law_flags.2.2 ok__law_flags.2.1 rfl (gl_cons (vnm 6) gl_nil))) (ope (ge_lc (own := [("spot", 7)]) rfl nd (gw_rng1 rfl m_range (gl_cons (ope ge_int) gl_nil)) (blkOk_by (by kernel_rfl)) (fun _ _ _ _ _ => gt_nm nd rfl (by first | exact .inl rfl | exact .inr rfl)) (fun _ _ _ _ _ => gts_nil) (fun _ _ _ _ _ => (ge_eq (units64 hr) (vnm 7) (vnm 5)))))) (gss_one (gs_ret ge_bl)) gss_nil))) np_nm)) np_nm)
    (gss_one (gs_if (gb_w (gw_or (gb_ne (units64 hr) (ope (ge_repr hgd (units66 hr) rfl m_repr (gl_cons (ope (ge_errV hErr (ope (ge_err (he 0 (by decide) _ rfl rfl rfl rfl rfl) (room_le hr) rfl m_SizeError (gl_cons (ope (vvr 3)) gl_nil))))) gl_nil))) (ope (ge_repr hgd (units66 hr) rfl m_repr (gl_cons (vnm 3) gl_nil)))) (gw_or1 (gb_ne (units64 hr) (ope (ge_repr hgd (units66 hr) rfl m_repr (gl_cons (ope (ge_errV hErr (ope (ge_errK (he 0 (by decide) _ rfl rfl rfl rfl rfl) (room_le hr) rfl m_SizeError (glk_cons (ope (vvr 3)) glk_nil))))) gl_nil))) (ope (ge_repr hgd (units66 hr) rfl m_repr (gl_cons (vnm 3) gl_nil))))))) (gss_one (gs_ret ge_bl)) gss_nil))))) np_nm)
    (gss_one (gs_ret (ge_eq (units64 hr) (ope (ge_call ok__law_flags.1 tk (room_le hr) rfl m__law_flags ok__law_flags.2.2 ok__law_flags.2.1 rfl (gl_cons (ope (ge_err (he 0 (by decide) _ rfl rfl rfl rfl rfl) (room_le hr) rfl m_SizeError (gl_cons (ope ge_str) gl_nil))) gl_nil))) (ope (ge_repL (ope (ge_lst (gl_cons (ope ge_bl) gl_nil))) (ope ge_int))))))))
end
end Lw

namespace Lw
open PySem L2 Fz
def bagKs : List Str := ["great", "left", "turn", "blend"]
def bagD (gs : List Int) (l t b : Int) : D := .dct true bagKs [.lst true (gs.map .int), .int l, .int t, .int b]
section
variable {gs : List Int} {l t b m x : Int}
theorem nw_bag : nw (bagD gs l t b) = false := rfl
theorem get_left : pDGet [bagD gs l t b, .str "left"] = .ok (.int l) [bagD gs l t b, .str "left"] := rfl
theorem get_turn : pDGet [bagD gs l t b, .str "turn"] = .ok (.int t) [bagD gs l t b, .str "turn"] := rfl
theorem get_blend : pDGet [bagD gs l t b, .str "blend"] = .ok (.int b) [bagD gs l t b, .str "blend"] := rfl
theorem set_left : pDSet [.int x, bagD gs l t b, .str "left"] = .ok .non [.any, bagD gs x t b, .str "left"] := by
  have c : (decide (bagKs.length ≤ 1000) && decide (1 < 4) && decide bagKs.Nodup) = true := by decide +kernel
  show (if (decide (bagKs.length ≤ 1000) && decide (1 < 4) && decide bagKs.Nodup) = true then PR.ok D.non [D.any, D.dct true bagKs [D.lst true (gs.map D.int), D.int x, D.int t, D.int b], D.str "left"] else PR.bad) = _
  rw [if_pos c]
  rfl
theorem aug_turn : pDAug "turn" (fun n => n + 1) [bagD gs l t b] = .ok .non [bagD gs l (t + 1) b] := by
  unfold pDAug bagD
  dsimp only
  rw [show keyAt bagKs "turn" = some 2 from rfl]
  dsimp only [List.getElem?_cons_succ, List.getElem?_cons_zero]
  rw [if_pos (by decide +kernel)]
  rfl
theorem len_great : pDLen "great" [bagD gs l t b] = .ok (.int gs.length) [bagD gs l t b] := by
  show PR.ok (D.int ((gs.map D.int).length : Nat)) _ = _
  rw [List.length_map]; rfl
theorem pop_great : pDPop0 "great" [bagD (x :: gs) l t b] = .ok (.int x) [bagD gs l t b] := by
  have e : nwL (D.int x :: gs.map D.int) = true := by
    show (true && nwL (gs.map D.int)) = true
    rw [Bool.true_and]
    induction gs with
    | nil => rfl
    | cons y ys ih => exact ih
  show (if nwL (D.int x :: gs.map D.int) = true then PR.ok (D.int x) [D.dct true bagKs ([D.lst true (D.int x :: gs.map D.int), D.int l, D.int t, D.int b].set 0 (D.lst true (gs.map D.int)))] else PR.bad) = _
  rw [if_pos e]
  rfl
theorem draw1 (h : m ≤ l) (hm : 1 ≤ m) (hm2 : m.natAbs < 2 ^ 200) : F__law_draw [bagD gs l t b, .int m] = .ok (.int (l % m)) [bagD gs (l / m) t b, .int m] := by
  unfold F__law_draw
  refine mkFn_rt (ρ := [some (bagD gs (l / m) t b), some (.int m), none, none, none]) ?_ rfl
  have h0 : ¬ l < m := by omega
  simp [B__law_draw, sSeq, sIf, tvAnd, tvB, evN, evOps, evO, done, fill, unfill, evK, nw_bag, msk, nw, get_left, pLt_eq, pGe_eq, h0, h, sNx, sSet, sDrop, sRet, evMove, set_left, pInt, pMod_eq, pDiv_eq, show (0:Int) < m by omega, hm2]
theorem draw2 (h : l < m) (h2 : m ≤ x) (hm : 1 ≤ m) (hm2 : m.natAbs < 2 ^ 200) : F__law_draw [bagD (x :: gs) l t b, .int m] = .ok (.int (x % m)) [bagD gs (x / m) t b, .int m] := by
  unfold F__law_draw
  refine mkFn_rt (ρ := [some (bagD gs (x / m) t b), some (.int m), none, none, none]) ?_ rfl
  simp [B__law_draw, sSeq, sIf, tvAnd, tvB, evN, evOps, evO, done, fill, unfill, evK, nw_bag, msk, nw, get_left, pLt_eq, pGt_eq, pGe_eq, len_great, pop_great, h, h2, sNx, sSet, sDrop, sRet, evMove, set_left, pInt, pMod_eq, pDiv_eq, show (0:Int) < m by omega, hm2, show (0 : Int) < (gs.length : Int) + 1 by omega]
def M61 : Int := 2305843009213693951
def mixD (b t m : Int) : Int := ((((b + 17 * t) * (t + 29) ^ 2 + 7919 * t) % 2305843009213693951) ^ 3 % (10 ^ 18 + 9) / 64) % m
/-- what is drawn where the great numbers are used up -/
theorem mix_run {t b : Int} (hb0 : 0 ≤ b) (hb : b < M61) (ht0 : 0 ≤ t) (ht : t < 2 ^ 30) :
    (b + 17 * t).natAbs < 2 ^ 200 ∧ ((t + 29) ^ 2 : Int).natAbs < 2 ^ 200 ∧ (t + 29).natAbs < 2 ^ 200 ∧ t.natAbs < 2 ^ 200 ∧ (((b + 17 * t) * (t + 29) ^ 2 + 7919 * t) % 2305843009213693951).natAbs < 2 ^ 200 := by
  refine ⟨by unfold M61 at hb; omega, ?_, by omega, by omega, ?_⟩
  · rw [Int.natAbs_pow]
    have h1 : (t + 29).natAbs < 2 ^ 31 := by omega
    calc (t + 29).natAbs ^ 2 ≤ (2 ^ 31) ^ 2 := Nat.pow_le_pow_left (Nat.le_of_lt h1) 2
      _ < 2 ^ 200 := by decide
  · generalize (b + 17 * t) * (t + 29) ^ 2 + 7919 * t = y
    omega
theorem draw3 (h : l < m) (hg : gs = []) (hb0 : 0 ≤ b) (hb : b < M61) (ht0 : 0 ≤ t) (ht : t + 1 < 2 ^ 30) (hm : 1 ≤ m) (hm2 : m.natAbs < 2 ^ 200) : F__law_draw [bagD gs l t b, .int m] = .ok (.int (mixD b (t + 1) m)) [bagD gs l (t + 1) b, .int m] := by
  subst hg
  unfold F__law_draw
  refine mkFn_rt (ρ := [some (bagD [] l (t + 1) b), some (.int m), none, some (.int (t + 1)), some (.int (((b + 17 * (t + 1)) * ((t + 1) + 29) ^ 2 + 7919 * (t + 1)) % 2305843009213693951))]) ?_ rfl
  have n1 : ¬ m ≤ l := by omega
  obtain ⟨b4, b5, b3, b2, b6⟩ := mix_run hb0 hb (t := t + 1) (by omega) ht
  have b7 : (t + 1 + 29).natAbs ^ 2 < 2 ^ 200 := by rw [← Int.natAbs_pow]; exact b5
  simp [B__law_draw, sSeq, sIf, tvAnd, tvB, evN, evOps, evO, done, fill, unfill, evK, nw_bag, msk, nw, get_left, get_turn, get_blend, aug_turn, pLt_eq, pGt_eq, pGe_eq, len_great, h, n1, sNx, sSet, sDrop, sRet, evMove, set_left, pInt, pMod_eq, pDiv_eq, pAdd_eq, pMul_eq, pPow_eq, b2, b3, b4, b5, b6, b7, show (0:Int) < m by omega, hm2, mixD]
theorem draw4 (h : l < m) (h2 : x < m) (hb0 : 0 ≤ b) (hb : b < M61) (ht0 : 0 ≤ t) (ht : t + 1 < 2 ^ 30) (hm : 1 ≤ m) (hm2 : m.natAbs < 2 ^ 200) : F__law_draw [bagD (x :: gs) l t b, .int m] = .ok (.int (mixD b (t + 1) m)) [bagD gs x (t + 1) b, .int m] := by
  unfold F__law_draw
  refine mkFn_rt (ρ := [some (bagD gs x (t + 1) b), some (.int m), none, some (.int (t + 1)), some (.int (((b + 17 * (t + 1)) * ((t + 1) + 29) ^ 2 + 7919 * (t + 1)) % 2305843009213693951))]) ?_ rfl
  have n1 : ¬ m ≤ x := by omega
  obtain ⟨b4, b5, b3, b2, b6⟩ := mix_run hb0 hb (t := t + 1) (by omega) ht
  have b7 : (t + 1 + 29).natAbs ^ 2 < 2 ^ 200 := by rw [← Int.natAbs_pow]; exact b5
  simp [B__law_draw, sSeq, sIf, tvAnd, tvB, evN, evOps, evO, done, fill, unfill, evK, nw_bag, msk, nw, get_left, get_turn, get_blend, aug_turn, pLt_eq, pGt_eq, pGe_eq, len_great, pop_great, h, n1, sNx, sSet, sDrop, sRet, evMove, set_left, pInt, pMod_eq, pDiv_eq, pAdd_eq, pMul_eq, pPow_eq, b2, b3, b4, b5, b6, b7, show (0:Int) < m by omega, hm2, mixD, show (0 : Int) < (gs.length : Int) + 1 by omega]
/-- a bag: what is known of it after at most n draws -/
def Bag (n : Nat) (d : D) : Prop := ∃ (gs : List Int) (l t b : Int), d = bagD gs l t b ∧ (∀ g ∈ gs, 0 ≤ g) ∧ 0 ≤ l ∧ 0 ≤ t ∧ t ≤ n ∧ 0 ≤ b ∧ b < M61
theorem draw_ok {n : Nat} {d : D} (h : Bag n d) (hn : n < 2 ^ 29) (hm : 1 ≤ m) (hm2 : m.natAbs < 2 ^ 200) : ∃ r d', F__law_draw [d, .int m] = .ok (.int r) [d', .int m] ∧ 0 ≤ r ∧ r < m ∧ Bag (n + 1) d' := by
  obtain ⟨gs, l, t, b, rfl, hg, hl, ht, htn, hb0, hb⟩ := h
  have p0 : (0 : Int) < m := by omega
  have tb : t + 1 < 2 ^ 30 := by omega
  have mixr : 0 ≤ mixD b (t + 1) m ∧ mixD b (t + 1) m < m := ⟨Int.emod_nonneg _ (by omega), Int.emod_lt_of_pos _ p0⟩
  by_cases h1 : m ≤ l
  · exact ⟨_, _, draw1 h1 hm hm2, Int.emod_nonneg _ (by omega), Int.emod_lt_of_pos _ p0, gs, _, t, b, rfl, hg, Int.ediv_nonneg hl (by omega), ht, by omega, hb0, hb⟩
  · cases gs with
    | nil => exact ⟨_, _, draw3 (by omega) rfl hb0 hb ht tb hm hm2, mixr.1, mixr.2, [], l, t + 1, b, rfl, hg, hl, by omega, by omega, hb0, hb⟩
    | cons x gs =>
      have hx := hg x (by simp)
      have hg' : ∀ g ∈ gs, 0 ≤ g := fun g q => hg g (by simp [q])
      by_cases h2 : m ≤ x
      · exact ⟨_, _, draw2 (by omega) h2 hm hm2, Int.emod_nonneg _ (by omega), Int.emod_lt_of_pos _ p0, gs, _, t, b, rfl, hg', Int.ediv_nonneg hx (by omega), ht, by omega, hb0, hb⟩
      · exact ⟨_, _, draw4 (by omega) (by omega) hb0 hb ht tb hm hm2, mixr.1, mixr.2, gs, x, t + 1, b, rfl, hg', hx, by omega, by omega, hb0, hb⟩
end
end Lw

namespace Lw
open PySem L2 Fz
/-! ### _law_bag -/
theorem bag_loop {s : D} : ∀ (xs gs : List Int) (b : Int) (v : Option D), gs.length + xs.length ≤ 100 → 0 ≤ b → b < M61 → (∀ g ∈ gs, 0 ≤ g) →
    ∃ (gs' : List Int) (b' : Int) (v' : Option D), forD (.nm 3) L__law_bag_0 (xs.map .int) [some s, some (.int b), some (.lst true (gs.map .int)), v] = .ok [some s, some (.int b'), some (.lst true (gs'.map .int)), v'] .nx ∧ 0 ≤ b' ∧ b' < M61 ∧ ∀ g ∈ gs', 0 ≤ g
  | [], gs, b, v, _, h0, h1, hg => ⟨gs, b, v, rfl, h0, h1, hg⟩
  | x :: xs, gs, b, v, hl, h0, h1, hg => by
    have hl' : gs.length + xs.length + 1 ≤ 100 := by simpa [Nat.add_assoc] using hl
    have b1 : b.natAbs < 2 ^ 200 := by unfold M61 at h1; omega
    have step : ∃ gs' : List Int, L__law_bag_0 [some s, some (.int b), some (.lst true (gs.map .int)), some (.int x)] = .ok [some s, some (.int ((b * 1000003 + x) % 2305843009213693951)), some (.lst true (gs'.map .int)), some (.int x)] .nx ∧ gs'.length ≤ gs.length + 1 ∧ ∀ g ∈ gs', 0 ≤ g := by
      by_cases hx : (10 : Int) ^ 18 ≤ (if x < 0 then -x else x)
      · refine ⟨gs ++ [(if x < 0 then -x else x)], ?_, by simp, fun g q => ?_⟩
        · have hx' : (1000000000000000000 : Int) ≤ (if x < 0 then -x else x) := hx
          have gl : gs.length < 1000000 := by omega
          simp [L__law_bag_0, sSeq, sIf, tvB, evN, evOps, evO, done, fill, unfill, evK, nw, sSet, sDrop, pMul_eq, pAdd_eq, pMod_eq, pInt, pAbs, pPow_eq, pGe_eq, b1, hx', evMt, isLst, pAppend, opd, gl]
        · rcases List.mem_append.mp q with q | q
          · exact hg g q
          · simp at q
            rw [q]
            split <;> omega
      · refine ⟨gs, ?_, by omega, hg⟩
        have hx' : ¬ (1000000000000000000 : Int) ≤ (if x < 0 then -x else x) := hx
        simp [L__law_bag_0, sSeq, sIf, tvB, evN, evOps, evO, done, fill, unfill, evK, nw, sSet, sDrop, pMul_eq, pAdd_eq, pMod_eq, pInt, pAbs, pPow_eq, pGe_eq, b1, hx', sNx]
    obtain ⟨gs1, e, l1, g1⟩ := step
    obtain ⟨gs2, b2, v2, e2, k0, k1, k2⟩ := bag_loop xs gs1 ((b * 1000003 + x) % 2305843009213693951) (some (.int x)) (by omega) (Int.emod_nonneg _ (by decide)) (Int.emod_lt_of_pos _ (by decide)) g1
    refine ⟨gs2, b2, v2, ?_, k0, k1, k2⟩
    rw [List.map_cons, forD_nx (ρ1 := [some s, some (.int b), some (.lst true (gs.map .int)), some (.int x)]) rfl e]
    exact e2
theorem bag_ok {ns : List Int} (h : ns.length ≤ 63) : ∃ d, F__law_bag [.scr ns] = .ok d [.scr ns] ∧ Bag 0 d := by
  obtain ⟨gs, b, v, e, h0, h1, h2⟩ := bag_loop (s := .scr ns) ns [] 11 none (by simp; omega) (by decide) (by decide) (by simp)
  refine ⟨bagD gs 0 0 b, ?_, gs, 0, 0, b, rfl, h2, Int.le_refl _, Int.le_refl _, Int.le_refl _, h0, h1⟩
  unfold F__law_bag
  refine mkFn_rt (ρ := [some (.scr ns), none, none, v]) ?_ rfl
  have e1 : sPar [1, 2] [(.ex (evK (.int 11))), (.ex (evN [] pLst))] [some (.scr ns), none, none, none] = .ok [some (.scr ns), some (.int 11), some (.lst true []), none] .nx := rfl
  unfold B__law_bag
  rw [sSeq_nx (ρ1 := [some (.scr ns), some (.int 11), some (.lst true []), none]) (by exact e1)]
  rw [sSeq_nx (ρ1 := [some (.scr ns), some (.int b), some (.lst true (gs.map .int)), v]) (by exact e)]
  rfl
end Lw

namespace Lw
open PySem L2 Fz
def two (c : Nat) (x : D) : D := .tup [.err c x, .err c x]
def allE (x : D) : List D := [two 1 x, two 2 x, two 3 x, two 4 x, two 5 x, two 6 x, two 7 x, two 8 x, two 9 x, two 10 x]
theorem made_ok {x : D} (h : nw x = true) : F__law_made [x] = .ok (.lst true (allE x)) [x] := by
  unfold F__law_made
  have hf : fz x = x := fz_nw h
  refine mkFn_rt (ρ := [some x, none]) ?_ (by simp [msk, bck])
  simp [B__law_made, sSeq, evN, evOps, evO, done, fill, unfill, evVar, h, nw, sSet, sDrop, sRet, pErr, pTup, pLst, evMt, opd, isLst, pAppend, msk, evMove, allE, two]
def flagsD (c : Nat) : List D := [.bl (decide (1 = c)), .bl (decide (2 = c)), .bl (decide (3 = c)), .bl (decide (4 = c)), .bl (decide (5 = c)), .bl (decide (6 = c)), .bl (decide (7 = c)), .bl (decide (8 = c)), .bl (decide (9 = c)), .bl (decide (10 = c))]
theorem isE_eq {i c : Nat} (h : c < 11) (hi : i ≠ 0) : isE i c = some (decide (i = c)) := by
  unfold isE
  rw [if_pos (show c < errN.length from h)]
  simp [hi]
theorem flags_ok {c : Nat} {x : D} (h : c < 11) (hx : nw x = true) : F__law_flags [.err c x] = .ok (.lst true (flagsD c)) [.err c x] := by
  unfold F__law_flags
  refine mkFn_rt (ρ := [some (.err c x), none]) ?_ (by simp [msk, bck])
  simp [B__law_flags, sSeq, evN, evOps, evO, done, fill, unfill, evVar, nw, nwL, hx, sSet, sDrop, sRet, pIsErr, pLst, evMt, opd, isLst, pAppend, pExtend, msk, evMove, isE_eq h, flagsD]
end Lw

namespace Lw
open PySem L2 Fz
/-- a thing that may be shown -/
def Thing (x : D) : Prop := nw x = true ∧ ∃ z, pRepr [x] = .ok (.str z) [x]
theorem repr_of {d : D} (h1 : pyOk d = true) (h2 : dep d ≤ 60) (h3 : (py d).showable = true) (h4 : (py d).hasDict = false) (h5 : (∃ i, d = .int i) ∨ (py d).shown.length ≤ 1000000) : pRepr [d] = .ok (.str (py d).shown) [d] := by
  unfold pRepr
  exact if_pos ⟨h1, h2, h3, h4, h5⟩
theorem thing_int {i : Int} (h : i.natAbs < 2 ^ 200) : Thing (.int i) := by
  refine ⟨rfl, _, repr_of rfl (Nat.zero_le _) ?_ rfl (.inl ⟨i, rfl⟩)⟩
  show decide (i.natAbs.log2 < 1920) = true
  rw [decide_eq_true_eq]
  by_cases h0 : i.natAbs = 0
  · rw [h0]; decide
  · exact Nat.lt_trans ((Nat.log2_lt h0).mpr h) (by decide)
theorem thing_non : Thing .non := ⟨rfl, _, repr_of rfl (by decide) rfl rfl (.inr (by decide +kernel))⟩
theorem thing_str : Thing (.str "text") := ⟨rfl, _, repr_of (by decide +kernel) (by decide) rfl rfl (.inr (by decide +kernel))⟩
theorem thing_lst : Thing (.lst false [.int 1, .int 0]) := ⟨rfl, _, repr_of (by decide +kernel) (by decide) (by decide +kernel) rfl (.inr (by decide +kernel))⟩
theorem pNe_str {a : Str} : pNe [.str a, .str a] = .ok (.bl false) [.str a, .str a] := by
  simp [pNe, eqA, scl, scal]
/-- one error of a place -/
theorem one_ok {s b tn x md : D} {p : Nat} {sp : Option D} (hp : p < 10) (ht : Thing x) :
    L_law_1 [some s, some b, some tn, some x, some md, some (.int p), some (.err (p + 1) x), sp] = .ok [some s, some b, some tn, some x, some md, some (.int p), some (.err (p + 1) x), none] .nx := by
  obtain ⟨hx, z, hz⟩ := ht
  have h1 : isE 0 (p + 1) = some true := by unfold isE; rw [if_pos (show p + 1 < errN.length by show p + 1 < 11; omega)]; rfl
  have h2 : isVE (p + 1) = some true := by unfold isVE; rw [if_pos (show p + 1 < errN.length by show p + 1 < 11; omega)]
  have h3 : elC (p + 1) = true := by unfold elC; rw [decide_eq_true_eq]; show p + 1 < 11; omega
  have hc : evLc (evNI [(.ex (evK (.int 10)))] pRng1) (.nm 7) tvT E_law_0 [7] [some s, some b, some tn, some x, some md, some (.int p), some (.err (p + 1) x), sp] = .ok [some s, some b, some tn, some x, some md, some (.int p), some (.err (p + 1) x), none] (.lst true (flagsD (p + 1))) := by
    match p, hp with
    | 0, _ => kernel_rfl
    | 1, _ => kernel_rfl
    | 2, _ => kernel_rfl
    | 3, _ => kernel_rfl
    | 4, _ => kernel_rfl
    | 5, _ => kernel_rfl
    | 6, _ => kernel_rfl
    | 7, _ => kernel_rfl
    | 8, _ => kernel_rfl
    | 9, _ => kernel_rfl
  have hq : pNe [.lst true (flagsD (p + 1)), .lst true (flagsD (p + 1))] = .ok (.bl false) [.lst true (flagsD (p + 1)), .lst true (flagsD (p + 1))] := by
    simp [pNe, eqA, scl, pyOk, pyOkL, dep, depL, eqD, eqDL, flagsD]
  simp [L_law_1, sSeq, sIf, tvOr, tvNot, tvB, evN, evOps, evO, done, fill, unfill, nw, nwL, hx, pErrV, h1, h2, h3, pIsErr, hz, pNe_str, sNx, flags_ok (show p + 1 < 11 by omega) hx, hc, hq]

theorem two_ok {s b tn x md : D} {p : Nat} {a1 : Option D} {sp : Option D} (hp : p < 10) (ht : Thing x) (hm : md = .lst true (allE x)) :
    L_law_2 [some s, some b, some tn, some x, some md, some (.int p), a1, sp] = .ok [some s, some b, some tn, some x, some md, some (.int p), some (.err (p + 1) x), none] .nx := by
  subst hm
  have hx := ht.1
  have hf : fz x = x := fz_nw hx
  have hi : pIx [.lst true (allE x), .int p] = .ok (two (p + 1) x) [.lst true (allE x), .int p] := by
    match p, hp with
    | 0, _ => simp [pIx, allE, ixN, two, nw, nwL, hx]
    | 1, _ => simp [pIx, allE, ixN, two, nw, nwL, hx]
    | 2, _ => simp [pIx, allE, ixN, two, nw, nwL, hx]
    | 3, _ => simp [pIx, allE, ixN, two, nw, nwL, hx]
    | 4, _ => simp [pIx, allE, ixN, two, nw, nwL, hx]
    | 5, _ => simp [pIx, allE, ixN, two, nw, nwL, hx]
    | 6, _ => simp [pIx, allE, ixN, two, nw, nwL, hx]
    | 7, _ => simp [pIx, allE, ixN, two, nw, nwL, hx]
    | 8, _ => simp [pIx, allE, ixN, two, nw, nwL, hx]
    | 9, _ => simp [pIx, allE, ixN, two, nw, nwL, hx]
  have src : evIt (evN [(.nm 4), (.nm 5)] pIx) [some s, some b, some tn, some x, some (.lst true (allE x)), some (.int p), a1, sp] = .ok [some s, some b, some tn, some x, some (.lst true (allE x)), some (.int p), a1, sp] [.err (p + 1) x, .err (p + 1) x] := by
    simp [evIt, evN, evOps, evO, done, fill, unfill, nw, hi, two, fz, fzL, hf, itemsD]
  unfold L_law_2
  rw [sFor_ok src, forD_nx rfl (one_ok hp ht), forD_nx rfl (one_ok hp ht)]
  rfl
theorem places {s b tn x md : D} (ht : Thing x) (hm : md = .lst true (allE x)) : ∀ (ps : List Nat) (a0 a1 sp : Option D), (∀ p ∈ ps, p < 10) →
    ∃ c0 c1 c2, forD (.nm 5) L_law_2 (ps.map fun p => D.int (p : Nat)) [some s, some b, some tn, some x, some md, a0, a1, sp] = .ok [some s, some b, some tn, some x, some md, c0, c1, c2] .nx
  | [], a0, a1, sp, _ => ⟨a0, a1, sp, rfl⟩
  | p :: ps, a0, a1, sp, h => by
    obtain ⟨c0, c1, c2, e⟩ := places ht hm ps (some (.int p)) (some (.err (p + 1) x)) none (fun q hq => h q (by simp [hq]))
    refine ⟨c0, c1, c2, ?_⟩
    rw [List.map_cons, forD_nx rfl (two_ok (h p (by simp)) ht hm)]
    exact e
theorem Bag.nw {n : Nat} {d : D} (h : Bag n d) : Fz.nw d = false := by
  obtain ⟨gs, l, t, b, rfl, _⟩ := h
  rfl
def TL (r : Int) : List D := [.non, .lst false [.int 1, .int 0], .str "text", .int r, .int 0, .int (-1)]
theorem tl_ok {r k : Int} (h0 : 0 ≤ r) (h1 : r < 100000000000000000000) (k0 : 0 ≤ k) (k1 : k < 6) : ∃ x, pIx [.tup (TL r), .int k] = .ok x [.tup (TL r), .int k] ∧ Thing x := by
  have hr : r.natAbs < 2 ^ 200 := by omega
  have : k = 0 ∨ k = 1 ∨ k = 2 ∨ k = 3 ∨ k = 4 ∨ k = 5 := by omega
  rcases this with rfl | rfl | rfl | rfl | rfl | rfl
  · exact ⟨.non, rfl, thing_non⟩
  · exact ⟨.lst false [.int 1, .int 0], rfl, thing_lst⟩
  · exact ⟨.str "text", rfl, thing_str⟩
  · exact ⟨.int r, rfl, thing_int hr⟩
  · exact ⟨.int 0, rfl, thing_int (by decide)⟩
  · exact ⟨.int (-1), rfl, thing_int (by decide)⟩
theorem turn_ok {n : Nat} {s b tn : D} {a3 a4 a5 a6 a7 : Option D} (hb : Bag n b) (hn : n < 2 ^ 20) :
    ∃ b' c3 c4 c5 c6 c7, L_law_3 [some s, some b, some tn, a3, a4, a5, a6, a7] = .ok [some s, some b', some tn, c3, c4, c5, c6, c7] .nx ∧ Bag (n + 2) b' := by
  obtain ⟨r1, b1, e1, r10, r11, hb1⟩ := draw_ok (m := 100000000000000000000) hb (by omega) (by decide) (by decide)
  obtain ⟨r2, b2, e2, r20, r21, hb2⟩ := draw_ok (m := 6) hb1 (by omega) (by decide) (by decide)
  obtain ⟨x, hix, ht⟩ := tl_ok r10 r11 r20 r21
  have hx := ht.1
  have nb := hb.nw
  have nb1 := hb1.nw
  obtain ⟨z, hz⟩ := ht.2
  obtain ⟨c0, c1, c2, hp⟩ := places (s := s) (b := b2) (tn := tn) (md := .lst true (allE x)) ht rfl (List.range 10) a5 a6 a7 (fun p q => List.mem_range.mp q)
  have h3 : elC 0 = true := by decide
  refine ⟨b2, some x, some (.lst true (allE x)), c0, c1, c2, ?_, hb2⟩
  unfold L_law_3
  rw [sSeq_nx (ρ1 := [some s, some b2, some tn, some x, a4, a5, a6, a7])]
  rw [sSeq_nx (ρ1 := [some s, some b2, some tn, some x, some (.lst true (allE x)), a5, a6, a7])]
  rw [sSeq_nx (ρ1 := [some s, some b2, some tn, some x, some (.lst true (allE x)), c0, c1, c2])]
  · simp [sIf, tvOr, tvB, evN, evOps, evO, done, fill, unfill, evVar, hx, pErr, pErrV, h3, hz, pNe_str, sNx]
  · rw [sFor_ok (ρ1 := [some s, some b2, some tn, some x, some (.lst true (allE x)), a5, a6, a7]) (ds := (List.range 10).map fun p => D.int (p : Nat)) (by rfl)]
    exact hp
  · simp [sSet, evN, evOps, evO, done, fill, unfill, hx, made_ok hx]
  · have hix' : pIx [.tup [.non, .lst false [.int 1, .int 0], .str "text", .int r1, .int 0, .int (-1)], .int r2] = .ok x [.tup (TL r1), .int r2] := hix
    simp [sSet, evN, evOps, evO, done, fill, unfill, evK, pLst, pTup, pNeg, pPow_eq, nb, e1, evFz, fz, fzL, nb1, e2, hix']
theorem turns {s : D} : ∀ (ts : List D) (n : Nat) (b : D) (a2 a3 a4 a5 a6 a7 : Option D), Bag n b → n + 2 * ts.length < 2 ^ 20 →
    ∃ b' c2 c3 c4 c5 c6 c7, forD (.nm 2) L_law_3 ts [some s, some b, a2, a3, a4, a5, a6, a7] = .ok [some s, some b', c2, c3, c4, c5, c6, c7] .nx
  | [], n, b, a2, a3, a4, a5, a6, a7, _, _ => ⟨b, a2, a3, a4, a5, a6, a7, rfl⟩
  | t :: ts, n, b, a2, a3, a4, a5, a6, a7, hb, hn => by
    have hl : (t :: ts).length = ts.length + 1 := rfl
    obtain ⟨b1, c3, c4, c5, c6, c7, e, hb1⟩ := turn_ok (s := s) (tn := t) (a3 := a3) (a4 := a4) (a5 := a5) (a6 := a6) (a7 := a7) hb (by omega)
    obtain ⟨b2, d2, d3, d4, d5, d6, d7, e2⟩ := turns ts (n + 2) b1 (some t) c3 c4 c5 c6 c7 hb1 (by omega)
    refine ⟨b2, d2, d3, d4, d5, d6, d7, ?_⟩
    rw [forD_nx (ρ1 := [some s, some b, some t, a3, a4, a5, a6, a7]) rfl e]
    exact e2
theorem law_true {ns : List Int} (h : ns.length ≤ 63) : ∃ ds', F_law [.scr ns] = .ok (.bl true) ds' := by
  obtain ⟨b, e, hb⟩ := bag_ok h
  have hm : (if (ns.length : Int) < 8 then (ns.length : Int) else 8) ≤ 8 ∧ 0 ≤ (if (ns.length : Int) < 8 then (ns.length : Int) else 8) := by split <;> omega
  obtain ⟨b2, d2, d3, d4, d5, d6, d7, e2⟩ := turns (s := .scr ns) ((List.range (4 + (if (ns.length : Int) < 8 then (ns.length : Int) else 8)).toNat).map fun i => D.int (i : Nat)) 0 b none none none none none none hb (by
    rw [List.length_map, List.length_range]; omega)
  refine ⟨[.scr ns], ?_⟩
  · unfold F_law
    refine mkFn_rt (ρ := [some (.scr ns), some b2, d2, d3, d4, d5, d6, d7]) ?_ rfl
    unfold B_law
    rw [sSeq_nx (ρ1 := [some (.scr ns), some b, none, none, none, none, none, none])]
    rw [sSeq_nx (ρ1 := [some (.scr ns), some b2, d2, d3, d4, d5, d6, d7])]
    · have hf := flags_ok (c := 0) (x := .str "a") (by decide) rfl
      have hq : pEq [.lst true (flagsD 0), .lst true (List.replicate 10 [D.bl false]).flatten] = .ok (.bl true) [.lst true (flagsD 0), .lst true (List.replicate 10 [D.bl false]).flatten] := by kernel_rfl
      have hr : pRepL [.lst true [.bl false], .int 10] = .ok (.lst true (List.replicate 10 [D.bl false]).flatten) [.lst true [.bl false], .int 10] := by kernel_rfl
      have hq2 : pEq [.lst true (flagsD 0), .lst true [.bl false, .bl false, .bl false, .bl false, .bl false, .bl false, .bl false, .bl false, .bl false, .bl false]] = .ok (.bl true) [.lst true (flagsD 0), .lst true [.bl false, .bl false, .bl false, .bl false, .bl false, .bl false, .bl false, .bl false, .bl false, .bl false]] := by kernel_rfl
      simp [sRet, evN, evOps, evO, done, fill, unfill, evK, pErr, pLst, hf, hr, hq, hq2, nw, List.replicate]
    · rw [sFor_ok (ρ1 := [some (.scr ns), some b, none, none, none, none, none, none]) (ds := (List.range (4 + (if (ns.length : Int) < 8 then (ns.length : Int) else 8)).toNat).map fun i => D.int (i : Nat))]
      · exact e2
      · have rg : pRng1 [.int (4 + (if (ns.length : Int) < 8 then (ns.length : Int) else 8))] = some ((List.range (4 + (if (ns.length : Int) < 8 then (ns.length : Int) else 8)).toNat).map fun i => D.int (i : Nat)) := by
          unfold pRng1
          exact if_pos ⟨by omega, by omega⟩
        simp [evNI, evN, evOps, evO, done, fill, unfill, evK, nw, pLen, pMin2, pAdd_eq, allS, fzL, fz, rg]
    · simp [sSet, evN, evOps, evO, done, fill, unfill, nw, e, msk]
end Lw

namespace Lw
open PySem L2 Fz
def faL : List He.Fa := [.glo "SizeError", .glo "InvalidLine", .glo "InvalidPipeline", .glo "InvalidNumber", .glo "InvalidRow", .glo "InvalidCell", .glo "InvalidPlaces", .glo "NotFitting", .glo "NotSteady", .glo "NothingToUndo", .glo "Unreadable", .glo "_law_bag", .glo "_law_draw", .glo "_law_made", .glo "_law_flags", .glo "law", .free "ValueError", .free "abs", .free "int", .free "isinstance", .free "len", .free "min", .free "range", .free "repr", .free "super"]
def fnL : List He.DefD := [dD "_law_bag" (top 13), dD "_law_draw" (top 14), dD "_law_made" (top 15), dD "_law_flags" (top 16), dD "law" (top 17)]
def sIni : Stmt := (clsBody (top 1)).getD 0 (.Pass ⟨0, 0, 0, 0⟩)
def isN (i c : Nat) : Bool := decide (i = 0) || decide (i = c)
def exL (K : PySem.W.Frag) : Bool := errB K errN && isB K errN isN
def ask : Ask := ⟨faL, fnL, some ("SizeError", P0.main.file, "SizeError.__init__", defArgs sIni, defBody sIni, defScope sIni), exL⟩
section
variable {w : World} {K : PySem.W.Frag} {mg : Str → Option Value} {h base : Heap}
theorem errC (X0 : K.In h) (G : h.Ns mainGlobals mg) (c : obsF ask K = valF ask) : ∀ (c : Nat), c < errN.length → ∀ X : Cx, X.prog = P0 → X.w = w → X.K = K → X.mg = mg → X.base = base → ErrC X (He.ga K "SizeError") (clA K c) 1 := by
  obtain ⟨c1, c2, c3⟩ := saysF c
  have c1 : He.SaysD ask.fa ask.fn K := c1
  obtain ⟨i1, i2⟩ := c3 _ _ _ _ _ _ rfl
  obtain ⟨fd, kV, doc, pm, ct, oc, ccl, cl, an, od, cdd, cld, osl, ccs, csl, cc, cda, vs, tf, cdD, efd, lk, hcd, hcode, hvs, hcell, hD, hop⟩ := ini_ok i1 i2
  subst efd
  have mS : mg "super" = none := He.free_ok X0 G (c1.fact 24 (f := .free "super") rfl)
  have F : InF P0 K mg (He.ma K (He.ga K "SizeError") "__init__") (He.ga K "SizeError") _ := ⟨_, _, _, _, _, _, _, _, _, _, _, _, _, _, _, _, _, _, _, _, _, _, _, _, _, _, _, _, _, _, _, _, _, _, _, _, rfl, lk, hcd, hcode, hvs, beq_self_eq_true _, hcell, hD, hop, mS, rfl, rfl, rfl, rfl, rfl, rfl, rfl, rfl, rfl, by decide +kernel, by decide +kernel, _, fun _ _ e => by rw [e]; rfl⟩
  intro k hk X
  cases X
  intro e1 e2 e3 e4 e5
  dsimp only at e1 e2 e3 e4 e5
  subst e1 e2 e3 e4 e5
  have hm : errN.getD k "" ∈ errN := by rw [List.getD_eq_getElem?_getD, List.getElem?_eq_getElem hk]; exact List.getElem_mem hk
  obtain ⟨q1, q2, q3, q4, q5, q6⟩ := errB_ok (Bool.and_eq_true_iff.mp c2).1 hm
  refine ⟨q1, _, _, init_fnok F, q4, q5, Binds.all fun us hl => ?_, fun s u v => BindsTo.of_eq (by kernel_rfl)⟩
  match us, hl with
  | [_, _], _ => rfl
theorem isC (c : obsF ask K = valF ask) {k i : Nat} (hk : k < errN.length) (hi : i < errN.length) : ExcC K (clA K k) ∧ XfC K (clA K k) ∧ PySem.W.findIn K (.ref (clA K k)) "value" = some none ∧ PySem.W.kitOne K (.ref (clA K k)) (.type "ValueError") = some true ∧
    PySem.W.kitOne K (.ref (clA K k)) (.ref (clA K i)) = some (isN i k) := by
  obtain ⟨c1, c2, c3⟩ := saysF c
  have hm : errN.getD k "" ∈ errN := by rw [List.getD_eq_getElem?_getD, List.getElem?_eq_getElem hk]; exact List.getElem_mem hk
  obtain ⟨q1, q2, q3, q4, q5, q6⟩ := errB_ok (Bool.and_eq_true_iff.mp c2).1 hm
  exact ⟨q2, q3, q1.no, q6, isB_ok (Bool.and_eq_true_iff.mp c2).2 hk hi⟩
end
theorem facts {w : World} {K : PySem.W.Frag} {h : Heap} {mg : Str → Option Value} {fl : Addr} (X0 : K.In h) (G : h.Ns mainGlobals mg) (hfa : mg ("law" : Str) = some (.ref fl)) (c : obsF ask K = valF ask) :
    ∃ fd : FuncData, (∀ (s : Shared) (v : Value), BindsTo s fd ⟨[v], []⟩ [("script", v)]) ∧ ∀ base : Heap, K.In base → base.Ns mainGlobals mg → FnT P0 w K mg base (L2.CX P0 w) 4 fl fd ["script"] (spF (GmK K) 1 F_law) := by
  have c1 : He.SaysD ask.fa ask.fn K := (saysF c).1
  obtain ⟨fd__law_bag, F__law_bag_⟩ := c1.def_ 0 (d := dD "_law_bag" (top 13)) rfl
  obtain ⟨fd__law_draw, F__law_draw_⟩ := c1.def_ 1 (d := dD "_law_draw" (top 14)) rfl
  obtain ⟨fd__law_made, F__law_made_⟩ := c1.def_ 2 (d := dD "_law_made" (top 15)) rfl
  obtain ⟨fd__law_flags, F__law_flags_⟩ := c1.def_ 3 (d := dD "_law_flags" (top 16)) rfl
  obtain ⟨fd_law, F_law_⟩ := c1.def_ 4 (d := dD "law" (top 17)) rfl
  have m_SizeError : mg "SizeError" = some (.ref (clA K 0)) := He.glo_ok X0 G (c1.fact 0 (f := .glo "SizeError") rfl)
  have m_InvalidLine : mg "InvalidLine" = some (.ref (clA K 1)) := He.glo_ok X0 G (c1.fact 1 (f := .glo "InvalidLine") rfl)
  have m_InvalidPipeline : mg "InvalidPipeline" = some (.ref (clA K 2)) := He.glo_ok X0 G (c1.fact 2 (f := .glo "InvalidPipeline") rfl)
  have m_InvalidNumber : mg "InvalidNumber" = some (.ref (clA K 3)) := He.glo_ok X0 G (c1.fact 3 (f := .glo "InvalidNumber") rfl)
  have m_InvalidRow : mg "InvalidRow" = some (.ref (clA K 4)) := He.glo_ok X0 G (c1.fact 4 (f := .glo "InvalidRow") rfl)
  have m_InvalidCell : mg "InvalidCell" = some (.ref (clA K 5)) := He.glo_ok X0 G (c1.fact 5 (f := .glo "InvalidCell") rfl)
  have m_InvalidPlaces : mg "InvalidPlaces" = some (.ref (clA K 6)) := He.glo_ok X0 G (c1.fact 6 (f := .glo "InvalidPlaces") rfl)
  have m_NotFitting : mg "NotFitting" = some (.ref (clA K 7)) := He.glo_ok X0 G (c1.fact 7 (f := .glo "NotFitting") rfl)
  have m_NotSteady : mg "NotSteady" = some (.ref (clA K 8)) := He.glo_ok X0 G (c1.fact 8 (f := .glo "NotSteady") rfl)
  have m_NothingToUndo : mg "NothingToUndo" = some (.ref (clA K 9)) := He.glo_ok X0 G (c1.fact 9 (f := .glo "NothingToUndo") rfl)
  have m_Unreadable : mg "Unreadable" = some (.ref (clA K 10)) := He.glo_ok X0 G (c1.fact 10 (f := .glo "Unreadable") rfl)
  have m__law_bag : mg "_law_bag" = some (.ref (He.ga K "_law_bag")) := He.glo_ok X0 G (c1.fact 11 (f := .glo "_law_bag") rfl)
  have m__law_draw : mg "_law_draw" = some (.ref (He.ga K "_law_draw")) := He.glo_ok X0 G (c1.fact 12 (f := .glo "_law_draw") rfl)
  have m__law_made : mg "_law_made" = some (.ref (He.ga K "_law_made")) := He.glo_ok X0 G (c1.fact 13 (f := .glo "_law_made") rfl)
  have m__law_flags : mg "_law_flags" = some (.ref (He.ga K "_law_flags")) := He.glo_ok X0 G (c1.fact 14 (f := .glo "_law_flags") rfl)
  have m_law : mg "law" = some (.ref (He.ga K "law")) := He.glo_ok X0 G (c1.fact 15 (f := .glo "law") rfl)
  have m_ValueError : mg "ValueError" = none := He.free_ok X0 G (c1.fact 16 (f := .free "ValueError") rfl)
  have m_abs : mg "abs" = none := He.free_ok X0 G (c1.fact 17 (f := .free "abs") rfl)
  have m_int : mg "int" = none := He.free_ok X0 G (c1.fact 18 (f := .free "int") rfl)
  have m_isinstance : mg "isinstance" = none := He.free_ok X0 G (c1.fact 19 (f := .free "isinstance") rfl)
  have m_len : mg "len" = none := He.free_ok X0 G (c1.fact 20 (f := .free "len") rfl)
  have m_min : mg "min" = none := He.free_ok X0 G (c1.fact 21 (f := .free "min") rfl)
  have m_range : mg "range" = none := He.free_ok X0 G (c1.fact 22 (f := .free "range") rfl)
  have m_repr : mg "repr" = none := He.free_ok X0 G (c1.fact 23 (f := .free "repr") rfl)
  have m_super : mg "super" = none := He.free_ok X0 G (c1.fact 24 (f := .free "super") rfl)
  have e0 := hfa.symm.trans m_law
  cases e0
  refine ⟨fd_law, fun s v => ?_, fun base _ _ => ?_⟩
  · exact FunD.bindsA (ps := ["script"]) F_law_ (fun _ _ _ _ _ _ us hl => match us, hl with | [_], _ => rfl) s [v] rfl
  have he := errC (w := w) (base := base) X0 G c
  have hErr : ∀ c, elC c = true → XfC K (clA K c) ∧ PySem.W.findIn K (.ref (clA K c)) "value" = some none := fun k hk => by
    have q := isC c (of_decide_eq_true hk) (show 0 < errN.length by decide)
    exact ⟨q.2.1, q.2.2.1⟩
  have hIs : ∀ i, i < errN.length → ∀ c b, isE i c = some b → ExcC K (clA K c) ∧ PySem.W.kitOne K (.ref (clA K c)) (.ref (clA K i)) = some b := fun i hi k b hb => by
    unfold isE at hb
    split at hb
    · rename_i hk
      cases hb
      have q := isC c hk hi
      exact ⟨q.1, q.2.2.2.2⟩
    · cases hb
  have hIsVE : ∀ c b, isVE c = some b → ExcC K (clA K c) ∧ PySem.W.kitOne K (.ref (clA K c)) (.type "ValueError") = some b := fun k b hb => by
    unfold isVE at hb
    split at hb
    · rename_i hk
      cases hb
      have q := isC c hk (show 0 < errN.length by decide)
      exact ⟨q.1, q.2.2.2.1⟩
    · cases hb
  have ok__law_bag_ := And.intro (Lw.ok__law_bag (w := w) (base := base) F__law_bag_ m_abs m_int) (And.intro (FunD.bindsN (ps := ["script"]) F__law_bag_ fun _ _ _ _ _ _ us hl => match us, hl with | [_], _ => rfl) F__law_bag_.kp)
  have ok__law_draw_ := And.intro (Lw.ok__law_draw (w := w) (base := base) F__law_draw_ m_int m_len) (And.intro (FunD.bindsN (ps := ["bag", "many"]) F__law_draw_ fun _ _ _ _ _ _ us hl => match us, hl with | [_, _], _ => rfl) F__law_draw_.kp)
  have ok__law_flags_ := And.intro (Lw.ok__law_flags (w := w) (base := base) F__law_flags_ m_isinstance he m_InvalidCell m_InvalidLine m_InvalidNumber m_InvalidPipeline m_InvalidPlaces m_InvalidRow m_NotFitting m_NotSteady m_NothingToUndo m_Unreadable hIs) (And.intro (FunD.bindsN (ps := ["e"]) F__law_flags_ fun _ _ _ _ _ _ us hl => match us, hl with | [_], _ => rfl) F__law_flags_.kp)
  have ok__law_made_ := And.intro (Lw.ok__law_made (w := w) (base := base) F__law_made_ he m_InvalidCell m_InvalidLine m_InvalidNumber m_InvalidPipeline m_InvalidPlaces m_InvalidRow m_NotFitting m_NotSteady m_NothingToUndo m_Unreadable) (And.intro (FunD.bindsN (ps := ["thing"]) F__law_made_ fun _ _ _ _ _ _ us hl => match us, hl with | [_], _ => rfl) F__law_made_.kp)
  exact (Lw.ok_law (w := w) (base := base) F_law_ m__law_bag ok__law_bag_ m__law_draw ok__law_draw_ m__law_flags ok__law_flags_ m__law_made ok__law_made_ m_ValueError m_isinstance m_len m_min m_range m_repr he m_SizeError hErr hIs hIsVE)
abbrev Rw : PySem.W.OpenRow := PySem.W.OpenLaw.row PySem.Challenge.rw_fitsizes_k54_errors_made
abbrev hkL : PySem.W.Hook := hookF 5 ask
def obL (s : PySem.W.SharedT) : AlF := obsFG 5 ask (HandSHeadRun.getT s)
theorem obL_eq (s : PySem.W.SharedT) : obL s = hkL.obs s.abs := obsFG_eq (HandSHeadRun.getT_eq s)
theorem runL (w : World) : HandSHeadRun.RunEq Rw (PySem.W.view Rw.prog [17]) hkL obL 4000 ["SizeError", "InvalidLine", "InvalidPipeline", "InvalidNumber", "InvalidRow", "InvalidCell", "InvalidPlaces", "NotFitting", "NotSteady", "NothingToUndo", "Unreadable", "_law_bag", "_law_draw", "_law_made", "_law_flags"] w := by
  intro os
  kernel_rfl
end Lw
open PySem PySem.W PySem.Calls PyProof.Rows
theorem PySem.Challenge.cw_fitsizes_k54_errors_made_holds : PySem.Challenge.rw_fitsizes_k54_errors_made.Holds := by
  w_on; o_law
  refine HandSHeadRun.head_any (r := Lw.Rw) (q := view (Lw.Rw).prog [17]) (H := Lw.hkL) (ob := Lw.obL) (M := 4000) (loose := ["SizeError", "InvalidLine", "InvalidPipeline", "InvalidNumber", "InvalidRow", "InvalidCell", "InvalidPlaces", "NotFitting", "NotSteady", "NothingToUndo", "Unreadable", "_law_bag", "_law_draw", "_law_made", "_law_flags"]) (d := HandSHeadRun.topDef (Lw.Rw).prog 17) (kwd := []) Lw.obL_eq
    (by kernel_rfl) (fun s => by kernel_rfl) Lw.runL (by kernel_rfl) (by kernel_rfl) (by kernel_rfl) (by rfl) (by first | assumption | decide +kernel) (by decide +kernel) ⟨rfl, rfl, rfl, rfl, rfl, by decide +kernel⟩ ?hw ?hc
  case hw => w_witness2
  case hc =>
    refine L2.walk_ofT (l := PySem.Challenge.rw_fitsizes_k54_errors_made) (k := 4) (x := "script") rfl (by kernel_rfl) ⟨rfl, by decide, by decide⟩ ?_
    intro w mg fl h Y G hmg0
    obtain ⟨K, KX, c⟩ := Y
    have hmg : mg ("law" : PySem.Str) = some (.ref fl) := by
      have e : (HandSHeadRun.topDef (Lw.Rw).prog 17).name = ("law" : PySem.Str) := by kernel_rfl
      rw [← e]
      exact hmg0
    obtain ⟨fd, hb, hF⟩ := Lw.facts (w := w) KX G hmg c
    refine ⟨K, fd, _, KX, hb, fun H a ns hl sq => ?_, hF⟩
    obtain ⟨ds', e⟩ := Lw.law_true hl
    exact Fz.law_sp sq e

