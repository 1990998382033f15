import PyProof.Rows.All
import Wide.All
import OpenK.AllK
import Wide.FinOn
import HandS.ForMost
import HandS.ForExc
import HandS.Flow
import HandS.IsInst
import HandS.Walk
import HandS.NoneIn
import HandS.TryOnly
import HandS.ExcOwn
import HandS.WordsExc
import HandS.Zip
import HandS.Wide
import HandS.TupAny
import HandS.Gcd
import HandS.FStr
import HandS.Style
import HandS.Text
import HandS.EndBits
import HandS.Deep
import HandS.StrMore
import HandS.ReplaceLit
import HandS.ExcInit
import HandS.Nested
import KE.KExcSuper
import KE.KSuper
import KE.KExcMake
import KE.KExcIs
import HandS.Dict
import HandS.ExcField
import HandS.ExcIs
import KE.RegKSuper
import HandS.Words
import PyProof.StrLawsReplace
import PyProof.StrLawsFrom
import KE.IntTextLaws
import PySem.Challenge.RW_tileyard_k22_plain_wrong_texts
set_option Elab.async false
set_option linter.all false
set_option maxRecDepth 100000
set_option maxHeartbeats 4000000
set_option autoImplicit false
namespace Lay
open PySem PySem.Spec L2

/-! ### plain data: what never changes any more -/
inductive Dat where
  | non | bl (b : Bool) | int (i : Int) | str (s : Str)
  | tup (xs : List Dat) | lst (xs : List Dat) | dic (kvs : List (Dat × Dat))
  /-- a list of ints that nobody of us made: the script -/
  | kst (ns : List Int)
  deriving Inhabited

/-- owned things: fz d is plain data, lst and dic may still be changed by who owns them -/
inductive OT where
  | fz (d : Dat) | lst (os : List OT) | dic (kvs : List (Dat × OT))
  deriving Inhabited

mutual
def frz : OT → Dat
  | .fz d => d
  | .lst os => .lst (frzs os)
  | .dic kvs => .dic (frzk kvs)
def frzs : List OT → List Dat
  | [] => []
  | o :: r => frz o :: frzs r
def frzk : List (Dat × OT) → List (Dat × Dat)
  | [] => []
  | (k, o) :: r => (k, frz o) :: frzk r
end
mutual
/-- nothing in it can be changed by anybody -/
def solid : Dat → Bool
  | .non => true | .bl _ => true | .int _ => true | .str _ => true
  | .tup xs => solids xs
  | .lst _ => false
  | .dic _ => false
  | .kst _ => false
def solids : List Dat → Bool
  | [] => true
  | d :: r => solid d && solids r
end
mutual
def solidO : OT → Bool
  | .fz d => solid d
  | .lst os => solidOs os
  | .dic kvs => solidOk kvs
def solidOs : List OT → Bool
  | [] => true
  | o :: r => solidO o && solidOs r
def solidOk : List (Dat × OT) → Bool
  | [] => true
  | (k, o) :: r => solidO o && solidOk r
end

/-! ### keys -/
def kD : Key → Dat
  | .inl i => .int i
  | .inr x => .str x
def kT (ks : List Key) : Dat := .tup (ks.map kD)
/-- the dict at a, its entries in order -/
def DictAt (G : Hp) (a : Addr) (ps : List (Dat × V)) : Prop :=
  (∃ ks : List (Key × V), G a = some (.dK ks) ∧ ps = ks.map fun p => (kD p.1, p.2)) ∨
  (∃ ks : List (List Key × V), G a = some (.dT ks) ∧ ps = ks.map fun p => (kT p.1, p.2))

/-! ### plain data in the heap -/
section
variable (K : PySem.W.Frag)
mutual
def RepD (G : Hp) : Dat → V → Prop
  | .non, v => v = .non
  | .bl b, v => v = .bl b
  | .int i, v => v = .int i
  | .str s, v => v = .str s
  | .tup ds, v => ∃ a vs, v = .ref a ∧ SqT K G a vs ∧ RepDs G ds vs
  | .lst ds, v => ∃ a vs, v = .ref a ∧ G a = some (.lst vs) ∧ RepDs G ds vs
  | .kst ns, v => ∃ a, v = .ref a ∧ SqL K G a (ns.map V.int)
  | .dic kvs, v => ∃ a ps, v = .ref a ∧ DictAt G a ps ∧ RepDk G kvs ps
def RepDs (G : Hp) : List Dat → List V → Prop
  | [], vs => vs = []
  | d :: r, vs => ∃ v r', vs = v :: r' ∧ RepD G d v ∧ RepDs G r r'
def RepDk (G : Hp) : List (Dat × Dat) → List (Dat × V) → Prop
  | [], ps => ps = []
  | (k, d) :: r, ps => ∃ v r', ps = (k, v) :: r' ∧ RepD G d v ∧ RepDk G r r'
end
mutual
/-- o stands at v; fp are the addresses that its owner owns by it -/
def RepO (G H : Hp) : OT → V → List Addr → Prop
  | .fz d, v, fp => fp = [] ∧ RepD K G d v
  | .lst os, v, fp => ∃ a vs f, v = .ref a ∧ fp = a :: f ∧ H a = some (.lst vs) ∧ RepOs G H os vs f
  | .dic kvs, v, fp => ∃ a ps f, v = .ref a ∧ fp = a :: f ∧ DictAt H a ps ∧ RepOk G H kvs ps f
def RepOs (G H : Hp) : List OT → List V → List Addr → Prop
  | [], vs, fp => vs = [] ∧ fp = []
  | o :: r, vs, fp => ∃ v r' f1 f2, vs = v :: r' ∧ fp = f1 ++ f2 ∧ RepO G H o v f1 ∧ RepOs G H r r' f2
def RepOk (G H : Hp) : List (Dat × OT) → List (Dat × V) → List Addr → Prop
  | [], ps, fp => ps = [] ∧ fp = []
  | (k, o) :: r, ps, fp => ∃ v r' f1 f2, ps = (k, v) :: r' ∧ fp = f1 ++ f2 ∧ RepO G H o v f1 ∧ RepOk G H r r' f2
end
end
/-- more is known -/
def Ex (G G' : Hp) : Prop := ∀ a o, G a = some o → G' a = some o
theorem Ex.refl (G : Hp) : Ex G G := fun _ _ h => h
theorem Ex.trans {G G1 G2 : Hp} (a : Ex G G1) (b : Ex G1 G2) : Ex G G2 := fun x o h => b x o (a x o h)
theorem Ex.rd {G G' : Hp} {a : Addr} {u : HO} (e : Ex G G') (h : Rd G a u) : Rd G' a u := by
  rcases h with h | ⟨o, h⟩
  · exact .inl (e a _ h)
  · exact .inr ⟨o, e a _ h⟩
section
variable {K : PySem.W.Frag} {G G' H H' : Hp}
theorem Ex.sqL {a : Addr} {xs : List V} (e : Ex G G') (h : SqL K G a xs) : SqL K G' a xs := h.imp e.rd id
theorem Ex.sqT {a : Addr} {xs : List V} (e : Ex G G') (h : SqT K G a xs) : SqT K G' a xs := h.imp e.rd id
theorem DictAt.at {a : Addr} {ps : List (Dat × V)} (e : ∀ o, G a = some o → G' a = some o) (h : DictAt G a ps) : DictAt G' a ps := by
  rcases h with ⟨ks, h, q⟩ | ⟨ks, h, q⟩
  · exact .inl ⟨ks, e _ h, q⟩
  · exact .inr ⟨ks, e _ h, q⟩
theorem DictAt.some {a : Addr} {ps : List (Dat × V)} (h : DictAt G a ps) : ∃ o, G a = some o := by
  rcases h with ⟨ks, h, q⟩ | ⟨ks, h, q⟩ <;> exact ⟨_, h⟩
mutual
theorem RepD.mono (e : Ex G G') : ∀ (d : Dat) (v : V), RepD K G d v → RepD K G' d v
  | .non, _, h => h
  | .bl _, _, h => h
  | .int _, _, h => h
  | .str _, _, h => h
  | .tup ds, _, h => by
    obtain ⟨a, vs, rfl, q, r⟩ := h
    exact ⟨a, vs, rfl, e.sqT q, RepDs.mono e ds vs r⟩
  | .lst ds, _, h => by
    obtain ⟨a, vs, rfl, q, r⟩ := h
    exact ⟨a, vs, rfl, e a _ q, RepDs.mono e ds vs r⟩
  | .kst ns, _, h => by
    obtain ⟨a, rfl, q⟩ := h
    exact ⟨a, rfl, e.sqL q⟩
  | .dic ds, _, h => by
    obtain ⟨a, vs, rfl, q, r⟩ := h
    exact ⟨a, vs, rfl, q.at (e a), RepDk.mono e ds vs r⟩
theorem RepDs.mono (e : Ex G G') : ∀ (ds : List Dat) (vs : List V), RepDs K G ds vs → RepDs K G' ds vs
  | [], _, h => h
  | d :: r, _, h => by
    obtain ⟨v, r', rfl, q1, q2⟩ := h
    exact ⟨v, r', rfl, RepD.mono e d v q1, RepDs.mono e r r' q2⟩
theorem RepDk.mono (e : Ex G G') : ∀ (ds : List (Dat × Dat)) (vs : List (Dat × V)), RepDk K G ds vs → RepDk K G' ds vs
  | [], _, h => h
  | (k, d) :: r, _, h => by
    obtain ⟨v, r', rfl, q1, q2⟩ := h
    exact ⟨v, r', rfl, RepD.mono e d v q1, RepDk.mono e r r' q2⟩
end
mutual
theorem RepO.mono (e : Ex G G') : ∀ (o : OT) (v : V) (fp : List Addr), (∀ a ∈ fp, ∀ x, H a = some x → H' a = some x) → RepO K G H o v fp → RepO K G' H' o v fp
  | .fz d, v, fp, _, h => ⟨h.1, RepD.mono e d v h.2⟩
  | .lst os, _, fp, k, h => by
    obtain ⟨a, vs, f, rfl, rfl, q, r⟩ := h
    exact ⟨a, vs, f, rfl, rfl, k a List.mem_cons_self _ q, RepOs.mono e os vs f (fun b hb => k b (List.mem_cons_of_mem _ hb)) r⟩
  | .dic os, _, fp, k, h => by
    obtain ⟨a, vs, f, rfl, rfl, q, r⟩ := h
    exact ⟨a, vs, f, rfl, rfl, q.at (k a List.mem_cons_self), RepOk.mono e os vs f (fun b hb => k b (List.mem_cons_of_mem _ hb)) r⟩
theorem RepOs.mono (e : Ex G G') : ∀ (os : List OT) (vs : List V) (fp : List Addr), (∀ a ∈ fp, ∀ x, H a = some x → H' a = some x) → RepOs K G H os vs fp → RepOs K G' H' os vs fp
  | [], _, _, _, h => h
  | o :: r, _, _, k, h => by
    obtain ⟨v, r', f1, f2, rfl, rfl, q1, q2⟩ := h
    exact ⟨v, r', f1, f2, rfl, rfl, RepO.mono e o v f1 (fun b hb => k b (List.mem_append_left _ hb)) q1, RepOs.mono e r r' f2 (fun b hb => k b (List.mem_append_right _ hb)) q2⟩
theorem RepOk.mono (e : Ex G G') : ∀ (os : List (Dat × OT)) (vs : List (Dat × V)) (fp : List Addr), (∀ a ∈ fp, ∀ x, H a = some x → H' a = some x) → RepOk K G H os vs fp → RepOk K G' H' os vs fp
  | [], _, _, _, h => h
  | (y, o) :: r, _, _, k, h => by
    obtain ⟨v, r', f1, f2, rfl, rfl, q1, q2⟩ := h
    exact ⟨v, r', f1, f2, rfl, rfl, RepO.mono e o v f1 (fun b hb => k b (List.mem_append_left _ hb)) q1, RepOk.mono e r r' f2 (fun b hb => k b (List.mem_append_right _ hb)) q2⟩
end
mutual
/-- what is owned, given away for good -/
theorem RepO.freeze (e : Ex G G') : ∀ (o : OT) (v : V) (fp : List Addr), (∀ a ∈ fp, ∀ x, H a = some x → G' a = some x) → RepO K G H o v fp → RepD K G' (frz o) v
  | .fz d, v, fp, _, h => RepD.mono e d v h.2
  | .lst os, _, fp, k, h => by
    obtain ⟨a, vs, f, rfl, rfl, q, r⟩ := h
    exact ⟨a, vs, rfl, k a List.mem_cons_self _ q, RepOs.freeze e os vs f (fun b hb => k b (List.mem_cons_of_mem _ hb)) r⟩
  | .dic os, _, fp, k, h => by
    obtain ⟨a, vs, f, rfl, rfl, q, r⟩ := h
    exact ⟨a, vs, rfl, q.at (k a List.mem_cons_self), RepOk.freeze e os vs f (fun b hb => k b (List.mem_cons_of_mem _ hb)) r⟩
theorem RepOs.freeze (e : Ex G G') : ∀ (os : List OT) (vs : List V) (fp : List Addr), (∀ a ∈ fp, ∀ x, H a = some x → G' a = some x) → RepOs K G H os vs fp → RepDs K G' (frzs os) vs
  | [], _, _, _, h => h.1
  | o :: r, _, _, k, h => by
    obtain ⟨v, r', f1, f2, rfl, rfl, q1, q2⟩ := h
    exact ⟨v, r', rfl, RepO.freeze e o v f1 (fun b hb => k b (List.mem_append_left _ hb)) q1, RepOs.freeze e r r' f2 (fun b hb => k b (List.mem_append_right _ hb)) q2⟩
theorem RepOk.freeze (e : Ex G G') : ∀ (os : List (Dat × OT)) (vs : List (Dat × V)) (fp : List Addr), (∀ a ∈ fp, ∀ x, H a = some x → G' a = some x) → RepOk K G H os vs fp → RepDk K G' (frzk os) vs
  | [], _, _, _, h => h.1
  | (y, o) :: r, _, _, k, h => by
    obtain ⟨v, r', f1, f2, rfl, rfl, q1, q2⟩ := h
    exact ⟨v, r', rfl, RepO.freeze e o v f1 (fun b hb => k b (List.mem_append_left _ hb)) q1, RepOk.freeze e r r' f2 (fun b hb => k b (List.mem_append_right _ hb)) q2⟩
end
/-- all tuples are known -/
def TEx (G G' : Hp) : Prop := ∀ a xs, Rd G a (.tup xs) → Rd G' a (.tup xs)
mutual
theorem RepD.solid (e : TEx G G') : ∀ (d : Dat) (v : V), solid d = true → RepD K G d v → RepD K G' d v
  | .non, _, _, h => h
  | .bl _, _, _, h => h
  | .int _, _, _, h => h
  | .str _, _, _, h => h
  | .tup ds, _, s, h => by
    obtain ⟨a, vs, rfl, q, r⟩ := h
    refine ⟨a, vs, rfl, q.imp (e a vs) id, RepDs.solid e ds vs ?_ r⟩
    unfold Lay.solid at s
    exact s
  | .lst ds, _, s, h => by unfold Lay.solid at s; cases s
  | .dic ds, _, s, h => by unfold Lay.solid at s; cases s
  | .kst ds, _, s, h => by unfold Lay.solid at s; cases s
theorem RepDs.solid (e : TEx G G') : ∀ (ds : List Dat) (vs : List V), solids ds = true → RepDs K G ds vs → RepDs K G' ds vs
  | [], _, _, h => h
  | d :: r, _, s, h => by
    obtain ⟨v, r', rfl, q1, q2⟩ := h
    unfold Lay.solids at s
    rw [Bool.and_eq_true] at s
    exact ⟨v, r', rfl, RepD.solid e d v s.1 q1, RepDs.solid e r r' s.2 q2⟩
end
mutual
theorem RepO.solid (e : TEx G G') : ∀ (o : OT) (v : V) (fp : List Addr), solidO o = true → RepO K G H o v fp → RepO K G' H o v fp
  | .fz d, v, fp, s, h => ⟨h.1, RepD.solid e d v (by unfold Lay.solidO at s; exact s) h.2⟩
  | .lst os, _, fp, s, h => by
    obtain ⟨a, vs, f, rfl, rfl, q, r⟩ := h
    exact ⟨a, vs, f, rfl, rfl, q, RepOs.solid e os vs f (by unfold Lay.solidO at s; exact s) r⟩
  | .dic os, _, fp, s, h => by
    obtain ⟨a, vs, f, rfl, rfl, q, r⟩ := h
    exact ⟨a, vs, f, rfl, rfl, q, RepOk.solid e os vs f (by unfold Lay.solidO at s; exact s) r⟩
theorem RepOs.solid (e : TEx G G') : ∀ (os : List OT) (vs : List V) (fp : List Addr), solidOs os = true → RepOs K G H os vs fp → RepOs K G' H os vs fp
  | [], _, _, _, h => h
  | o :: r, _, _, s, h => by
    obtain ⟨v, r', f1, f2, rfl, rfl, q1, q2⟩ := h
    unfold Lay.solidOs at s
    rw [Bool.and_eq_true] at s
    exact ⟨v, r', f1, f2, rfl, rfl, RepO.solid e o v f1 s.1 q1, RepOs.solid e r r' f2 s.2 q2⟩
theorem RepOk.solid (e : TEx G G') : ∀ (os : List (Dat × OT)) (vs : List (Dat × V)) (fp : List Addr), solidOk os = true → RepOk K G H os vs fp → RepOk K G' H os vs fp
  | [], _, _, _, h => h
  | (y, o) :: r, _, _, s, h => by
    obtain ⟨v, r', f1, f2, rfl, rfl, q1, q2⟩ := h
    unfold Lay.solidOk at s
    rw [Bool.and_eq_true] at s
    exact ⟨v, r', f1, f2, rfl, rfl, RepO.solid e o v f1 s.1 q1, RepOk.solid e r r' f2 s.2 q2⟩
end
mutual
/-- what is owned stands there, and is no tuple -/
theorem RepO.own : ∀ (o : OT) (v : V) (fp : List Addr), RepO K G H o v fp → ∀ a ∈ fp, (∃ xs, H a = some (.lst xs)) ∨ (∃ ks, H a = some (.dK ks)) ∨ (∃ ks, H a = some (.dT ks))
  | .fz d, v, fp, h, a, ha => by rw [h.1] at ha; cases ha
  | .lst os, _, fp, h, b, hb => by
    obtain ⟨a, vs, f, rfl, rfl, q, r⟩ := h
    rcases List.mem_cons.mp hb with rfl | hb
    · exact .inl ⟨_, q⟩
    · exact RepOs.own os vs f r b hb
  | .dic os, _, fp, h, b, hb => by
    obtain ⟨a, vs, f, rfl, rfl, q, r⟩ := h
    rcases List.mem_cons.mp hb with rfl | hb
    · rcases q with ⟨ks, q, _⟩ | ⟨ks, q, _⟩
      · exact .inr (.inl ⟨_, q⟩)
      · exact .inr (.inr ⟨_, q⟩)
    · exact RepOk.own os vs f r b hb
theorem RepOs.own : ∀ (os : List OT) (vs : List V) (fp : List Addr), RepOs K G H os vs fp → ∀ a ∈ fp, (∃ xs, H a = some (.lst xs)) ∨ (∃ ks, H a = some (.dK ks)) ∨ (∃ ks, H a = some (.dT ks))
  | [], _, fp, h, b, hb => by rw [h.2] at hb; cases hb
  | o :: r, _, _, h, b, hb => by
    obtain ⟨v, r', f1, f2, rfl, rfl, q1, q2⟩ := h
    rcases List.mem_append.mp hb with hb | hb
    · exact RepO.own o v f1 q1 b hb
    · exact RepOs.own r r' f2 q2 b hb
theorem RepOk.own : ∀ (os : List (Dat × OT)) (vs : List (Dat × V)) (fp : List Addr), RepOk K G H os vs fp → ∀ a ∈ fp, (∃ xs, H a = some (.lst xs)) ∨ (∃ ks, H a = some (.dK ks)) ∨ (∃ ks, H a = some (.dT ks))
  | [], _, fp, h, b, hb => by rw [h.2] at hb; cases hb
  | (y, o) :: r, _, _, h, b, hb => by
    obtain ⟨v, r', f1, f2, rfl, rfl, q1, q2⟩ := h
    rcases List.mem_append.mp hb with hb | hb
    · exact RepO.own o v f1 q1 b hb
    · exact RepOk.own r r' f2 q2 b hb
end
end
end Lay

namespace Lay
open PySem PySem.Spec L2

/-! ### the names of a def and what they hold -/
inductive Sl where
  /-- nothing known -/
  | un
  | vl (o : OT)
  /-- a parameter whose argument is changed for the caller -/
  | io (o : OT)
  /-- what a loop walks just now: read, not changed -/
  | lk (o : OT)
  deriving Inhabited
abbrev Env := List Sl
/-- slots whose value must stay: a parameter's argument, what a loop walks (and its items) -/
abbrev Pins := Nat → Option (V × Option (List V))
/-- an exception: its class's name, its own fields -/
structure Exn where
  cls : Str
  fs : List (Str × Dat)
  deriving Inhabited
inductive R (α : Type) where
  | ok (a : α) (ρ : Env)
  | ex (x : Exn) (ρ : Env)
  | bad
/-- what an expression gives: what a name holds, or something new -/
inductive Arg where
  | slot (i : Nat)
  | tmp (o : OT)
  deriving Inhabited
abbrev M (α : Type) := Env → R α

def R.bind {α β : Type} (r : R α) (k : α → Env → R β) : R β := match r with
  | .ok a ρ => k a ρ
  | .ex x ρ => .ex x ρ
  | .bad => .bad
def slv : Option Sl → Option OT
  | some (.vl o) => some o
  | some (.io o) => some o
  | some (.lk o) => some o
  | _ => none
def look (ρ : Env) : Arg → Option OT
  | .slot i => slv ρ[i]?
  | .tmp o => some o

open Classical in
noncomputable def hide (p : Addr → Prop) (H : Hp) : Hp := fun a => if p a then none else H a
theorem hide_no {p : Addr → Prop} {H : Hp} {a : Addr} (h : ¬ p a) : hide p H a = H a := by unfold hide; rw [if_neg h]
theorem hide_yes {p : Addr → Prop} {H : Hp} {a : Addr} (h : p a) : hide p H a = none := by unfold hide; rw [if_pos h]
theorem of_hide {p : Addr → Prop} {H : Hp} {a : Addr} {o : HO} (h : hide p H a = some o) : ¬ p a ∧ H a = some o := by
  unfold hide at h
  split at h
  · cases h
  · exact ⟨by assumption, h⟩
theorem hide_ex {p p' : Addr → Prop} {H H' : Hp} (h : ∀ a o, ¬ p a → H a = some o → ¬ p' a ∧ H' a = some o) : Ex (hide p H) (hide p' H') := fun a o e => by
  obtain ⟨h1, h2⟩ := of_hide e
  obtain ⟨h3, h4⟩ := h a o h1 h2
  rw [hide_no h3, h4]
theorem hide_le {p : Addr → Prop} {H : Hp} : Ex (hide p H) H := fun a o e => (of_hide e).2
def Own (fs : Nat → List Addr) (a : Addr) : Prop := ∃ i, a ∈ fs i
/-- owned or not to be touched -/
def Hd (T : Addr → Prop) (fs : Nat → List Addr) (a : Addr) : Prop := T a ∨ Own fs a

section
variable (K : PySem.W.Frag)
def RepS (G H : Hp) (p : Option (V × Option (List V))) : Sl → Option V → List Addr → Prop
  | .un, _, f => f = [] ∧ p = none
  | .vl o, x, f => ∃ v, x = some v ∧ p = none ∧ RepO K G H o v f
  | .io o, x, f => ∃ v, x = some v ∧ p = some (v, none) ∧ RepO K G H o v f
  | .lk o, x, f => ∃ v, x = some v ∧ RepO K G H o v f ∧ ∃ vs a, p = some (v, some vs) ∧ v = .ref a ∧ a ∈ f ∧ H a = some (.lst vs)
/-- the names ρ stand in the slots σ and the heap H; fs tells what each name owns; T: what others own -/
structure Rp (T : Addr → Prop) (P : Pins) (ρ : Env) (σ : St) (H : Hp) (fs : Nat → List Addr) : Prop where
  slot : ∀ i s, ρ[i]? = some s → ∃ x, σ[i]? = some x ∧ RepS K (hide (Hd T fs) H) H (P i) s x (fs i)
  out : ∀ i, ρ[i]? = none → fs i = []
  nd : ∀ i, (fs i).Nodup
  dj : ∀ i j a, a ∈ fs i → a ∈ fs j → i = j
  tf : ∀ a, Own fs a → ¬ T a
  ta : ∀ a, T a → ∃ x, H a = some x
  pl : ∀ i p, P i = some p → ∃ s, ρ[i]? = some s
def AR (T : Addr → Prop) (σ : St) (H : Hp) (fs : Nat → List Addr) : Arg → V → List Addr → Prop
  | .slot i, v, l => l = [] ∧ σ[i]? = some (some v)
  | .tmp o, v, l => RepO K (hide (Hd T fs) H) H o v l
/-- T with what is in the air -/
def Tl (T : Addr → Prop) (l : List Addr) : Addr → Prop := fun b => T b ∨ b ∈ l
structure RpA (T : Addr → Prop) (P : Pins) (ρ : Env) (σ : St) (H : Hp) (fs : Nat → List Addr) (a : Arg) (v : V) (l : List Addr) : Prop where
  rp : Rp K (Tl T l) P ρ σ H fs
  nd : l.Nodup
  nt : ∀ b ∈ l, ¬ T b
  ar : AR K (Tl T l) σ H fs a v l
def ARs (T : Addr → Prop) (σ : St) (H : Hp) (fs : Nat → List Addr) : List Arg → List V → List Addr → Prop
  | [], vs, l => vs = [] ∧ l = []
  | a :: r, vs, l => ∃ v r' l1 l2, vs = v :: r' ∧ l = l1 ++ l2 ∧ AR K T σ H fs a v l1 ∧ ARs T σ H fs r r' l2
structure RpAs (T : Addr → Prop) (P : Pins) (ρ : Env) (σ : St) (H : Hp) (fs : Nat → List Addr) (a : List Arg) (v : List V) (l : List Addr) : Prop where
  rp : Rp K (Tl T l) P ρ σ H fs
  nd : l.Nodup
  nt : ∀ b ∈ l, ¬ T b
  ar : ARs K (Tl T l) σ H fs a v l
/-- what was there and not owned stands, and is not owned -/
def Fr (H : Hp) (own : Addr → Prop) (H' : Hp) (own' : Addr → Prop) : Prop := ∀ a x, H a = some x → ¬ own a → H' a = some x ∧ ¬ own' a
def Ow (l : List Addr) (fs : Nat → List Addr) : Addr → Prop := fun b => b ∈ l ∨ Own fs b
def RepF (G : Hp) : List (Str × Dat) → List (Str × V) → Prop
  | [], vs => vs = []
  | (n, d) :: r, vs => ∃ v r', vs = (n, v) :: r' ∧ RepD K G d v ∧ RepF G r r'
end
/-- what an exception looks like -/
def RpX (K : PySem.W.Frag) (mg : Str → Option Value) (G H : Hp) (x : Exn) (cls : Value) (d : Option Addr) : Prop :=
  mg x.cls = some cls ∧ ∃ vs, RepF K G x.fs vs ∧ ((x.fs = [] ∧ d = none) ∨ ∃ dd, d = some dd ∧ H dd = some (.xd vs))
structure Par where
  K : PySem.W.Frag
  mg : Str → Option Value
  W : Value → Option Addr → St → Hp → Prop

def onX (Z : Par) (T : Addr → Prop) (P : Pins) (H : Hp) (fs : Nat → List Addr) (x : Exn) (ρ' : Env) : Prop :=
  ∀ cls d σ' H' fs', RpX Z.K Z.mg (hide (Hd T fs') H') H' x cls d → Rp Z.K T P ρ' σ' H' fs' → Fr H (Own fs) H' (Own fs') → Z.W cls d σ' H'
def Aft (Z : Par) (T : Addr → Prop) (P : Pins) (σ : St) (H : Hp) (fs : Nat → List Addr) (Q : VK) : R Arg → Prop
  | .ok a ρ' => ∀ v H' fs' l, RpA Z.K T P ρ' σ H' fs' a v l → Fr H (Own fs) H' (Ow l fs') → Q v H'
  | .ex x ρ' => onX Z T P H fs x ρ'
  | .bad => False
def AftA (Z : Par) (T : Addr → Prop) (P : Pins) (σ : St) (H : Hp) (fs : Nat → List Addr) (Q : List V → Hp → Prop) : R (List Arg) → Prop
  | .ok a ρ' => ∀ v H' fs' l, RpAs Z.K T P ρ' σ H' fs' a v l → Fr H (Own fs) H' (Ow l fs') → Q v H'
  | .ex x ρ' => onX Z T P H fs x ρ'
  | .bad => False
def AftT (Z : Par) (T : Addr → Prop) (P : Pins) (σ : St) (H : Hp) (fs : Nat → List Addr) (Q : Bool → Hp → Prop) : R Bool → Prop
  | .ok b ρ' => ∀ H' fs', Rp Z.K T P ρ' σ H' fs' → Fr H (Own fs) H' (Own fs') → Q b H'
  | .ex x ρ' => onX Z T P H fs x ρ'
  | .bad => False
def tD (Z : Par) (f : M Arg) : TE := fun σ H Q => ∃ T P ρ fs, Rp Z.K T P ρ σ H fs ∧ Aft Z T P σ H fs Q (f ρ)
def tDA (Z : Par) (f : M (List Arg)) : TA := fun σ H Q => ∃ T P ρ fs, Rp Z.K T P ρ σ H fs ∧ AftA Z T P σ H fs Q (f ρ)
def tDT (Z : Par) (f : M Bool) : TT := fun σ H Q => ∃ T P ρ fs, Rp Z.K T P ρ σ H fs ∧ AftT Z T P σ H fs Q (f ρ)

/-! ### weaker readings -/
theorem pe_imp {X : Cx} {e : Expr} {t t' : TE} (h : PE X e t) (hi : ∀ σ H Q, t' σ H Q → t σ H Q) : PE X e t' := ⟨fun pins s σ H Q I q => h.run pins s σ H Q I (hi σ H Q q)⟩
theorem pt_imp {X : Cx} {e : Expr} {t t' : TT} (h : PT X e t) (hi : ∀ σ H Q, t' σ H Q → t σ H Q) : PT X e t' := ⟨fun pins s σ H Q I q => h.run pins s σ H Q I (hi σ H Q q)⟩
theorem pa_imp {X : Cx} {e : List Expr} {t t' : TA} (h : PA X e t) (hi : ∀ σ H Q, t' σ H Q → t σ H Q) : PA X e t' := ⟨fun pos pins s σ H Q I q => h.run pos pins s σ H Q I (hi σ H Q q)⟩
theorem ps_imp {X : Cx} {e : Stmt} {t t' : TS} (h : PS X e t) (hi : ∀ D σ H, t' D σ H → t D σ H) : PS X e t' := ⟨fun pins s σ H D I q => h.run pins s σ H D I (hi D σ H q)⟩
theorem pss_imp {X : Cx} {e : List Stmt} {t t' : TS} (h : PSs X e t) (hi : ∀ D σ H, t' D σ H → t D σ H) : PSs X e t' := ⟨fun pins s σ H D I q => h.run pins s σ H D I (hi D σ H q)⟩

theorem set_some {ρ : Env} {i j : Nat} {s s' : Sl} (h : ρ[j]? = some s) : ∃ t, (ρ.set i s')[j]? = some t := by
  have := (List.getElem?_eq_some_iff.mp h).1
  exact ⟨_, List.getElem?_eq_getElem (by rw [List.length_set]; exact this)⟩
/-! ### facts of Rp -/
section
variable {K : PySem.W.Frag} {T T' : Addr → Prop} {P : Pins} {ρ : Env} {σ : St} {H H' H2 : Hp} {fs fs' fs2 : Nat → List Addr}
theorem RepS.own {G : Hp} {p : Option (V × Option (List V))} {s : Sl} {x : Option V} {f : List Addr} (h : RepS K G H p s x f) : ∀ a ∈ f, (∃ xs, H a = some (.lst xs)) ∨ (∃ ks, H a = some (.dK ks)) ∨ (∃ ks, H a = some (.dT ks)) := by
  cases s with
  | un => intro a ha; rw [h.1] at ha; cases ha
  | vl o => obtain ⟨v, _, _, r⟩ := h; exact RepO.own o v f r
  | io o => obtain ⟨v, _, _, r⟩ := h; exact RepO.own o v f r
  | lk o => obtain ⟨v, _, r, _⟩ := h; exact RepO.own o v f r
theorem Rp.owns (r : Rp K T P ρ σ H fs) {a : Addr} (h : Own fs a) : (∃ xs, H a = some (.lst xs)) ∨ (∃ ks, H a = some (.dK ks)) ∨ (∃ ks, H a = some (.dT ks)) := by
  obtain ⟨i, hi⟩ := h
  cases e : ρ[i]? with
  | none => rw [r.out i e] at hi; cases hi
  | some s =>
    obtain ⟨x, _, q⟩ := r.slot i s e
    exact q.own a hi
theorem Rp.owned (r : Rp K T P ρ σ H fs) {a : Addr} (h : Own fs a) : ∃ x, H a = some x := by
  rcases r.owns h with ⟨x, e⟩ | ⟨x, e⟩ | ⟨x, e⟩ <;> exact ⟨_, e⟩
theorem Rp.hd (r : Rp K T P ρ σ H fs) {a : Addr} (h : H a = none) : ¬ Hd T fs a := by
  rintro (z | z)
  · obtain ⟨x, e⟩ := r.ta a z
    rw [h] at e; cases e
  · obtain ⟨x, e⟩ := r.owned z
    rw [h] at e; cases e
theorem RepS.mono {G G' : Hp} {p : Option (V × Option (List V))} {s : Sl} {x : Option V} {f : List Addr} (e : Ex G G') (k : ∀ a ∈ f, ∀ x, H a = some x → H' a = some x) (h : RepS K G H p s x f) : RepS K G' H' p s x f := by
  cases s with
  | un => exact h
  | vl o => obtain ⟨v, h1, h2, r⟩ := h; exact ⟨v, h1, h2, RepO.mono e o v f k r⟩
  | io o => obtain ⟨v, h1, h2, r⟩ := h; exact ⟨v, h1, h2, RepO.mono e o v f k r⟩
  | lk o => obtain ⟨v, h1, r, vs, a, h2, h3, h4, h5⟩ := h; exact ⟨v, h1, RepO.mono e o v f k r, vs, a, h2, h3, h4, k a h4 _ h5⟩
/-- the heap has grown; T may have lost, or have got new ones -/
theorem Rp.grow (r : Rp K T P ρ σ H fs) (g : ∀ a x, H a = some x → H' a = some x) (ht : ∀ a, T' a → T a ∨ (H a = none ∧ ∃ x, H' a = some x)) : Rp K T' P ρ σ H' fs := by
  have old : ∀ a x, ¬ Hd T fs a → H a = some x → ¬ Hd T' fs a ∧ H' a = some x := fun a x hn e => by
    refine ⟨?_, g a x e⟩
    rintro (z | z)
    · rcases ht a z with z | ⟨z, _⟩
      · exact hn (.inl z)
      · rw [e] at z; cases z
    · exact hn (.inr z)
  refine ⟨fun i s e => ?_, r.out, r.nd, r.dj, fun a o t => ?_, fun a t => ?_, r.pl⟩
  · obtain ⟨x, h1, h2⟩ := r.slot i s e
    exact ⟨x, h1, h2.mono (hide_ex old) fun a _ => g a⟩
  · rcases ht a t with z | ⟨z, _⟩
    · exact r.tf a o z
    · obtain ⟨x, e⟩ := r.owned o
      rw [z] at e; cases e
  · rcases ht a t with z | ⟨_, z⟩
    · obtain ⟨x, e⟩ := r.ta a z
      exact ⟨x, g a x e⟩
    · exact z
theorem Fr.refl {own : Addr → Prop} : Fr H own H own := fun _ _ h n => ⟨h, n⟩
theorem Fr.trans {o1 o2 o3 : Addr → Prop} (a : Fr H o1 H' o2) (b : Fr H' o2 H2 o3) : Fr H o1 H2 o3 := fun x u h n => by
  obtain ⟨h1, n1⟩ := a x u h n
  exact b x u h1 n1
theorem Fr.imp {o1 o2 o3 : Addr → Prop} (a : Fr H o1 H' o2) (h : ∀ x, o3 x → o2 x) : Fr H o1 H' o3 := fun x u e n => ⟨(a x u e n).1, fun z => (a x u e n).2 (h x z)⟩
/-- the second of two: what the first had in the air stands -/
theorem Fr.air {own own' : Addr → Prop} {l : List Addr} (r : Fr H own H' own') (hl : ∀ b ∈ l, ¬ own b) : ∀ b ∈ l, ∀ x, H b = some x → H' b = some x := fun b hb x e => (r b x e (hl b hb)).1
theorem Tl.of {l : List Addr} {b : Addr} (h : T b) : Tl T l b := .inl h
theorem Rp.noair {l : List Addr} (r : Rp K (Tl T l) P ρ σ H fs) : ∀ b ∈ l, ¬ Own fs b := fun b hb z => r.tf b z (.inr hb)
/-- two in a row: nothing of the first is lost -/
theorem Rp.step {l l' : List Addr} (r : Rp K T P ρ σ H fs) (r' : Rp K (Tl T l') P ρ σ H' fs') (f : Fr H (Own fs) H' (Ow l' fs')) : Ex (hide (Hd T fs) H) (hide (Hd (Tl T l') fs') H') := hide_ex fun a x hn e => by
  obtain ⟨h1, h2⟩ := f a x e fun z => hn (.inr z)
  refine ⟨?_, h1⟩
  rintro ((z | z) | z)
  · exact hn (.inl z)
  · exact h2 (.inl z)
  · exact h2 (.inr z)
theorem hdfr {ρ ρ' : Env} {l' : List Addr} (f : Fr H (Own fs) H' (Ow l' fs')) : Ex (hide (Hd T fs) H) (hide (Hd (Tl T l') fs') H') := hide_ex fun a x hn e => by
  obtain ⟨h1, h2⟩ := f a x e fun z => hn (.inr z)
  refine ⟨?_, h1⟩
  rintro ((z | z) | z)
  · exact hn (.inl z)
  · exact h2 (.inl z)
  · exact h2 (.inr z)
theorem AR.step {l1 l2 : List Addr} {a : Arg} {v : V} (h : AR K (Tl T l1) σ H fs a v l1) (no : ∀ b ∈ l1, ¬ Own fs b) (f : Fr H (Own fs) H' (Ow l2 fs')) : AR K (Tl (Tl T l1) l2) σ H' fs' a v l1 := by
  cases a with
  | slot i => exact h
  | tmp o => exact RepO.mono (hdfr (ρ := []) (ρ' := []) f) o v l1 (f.air no) h
theorem AR.mono {a : Arg} {v : V} {l : List Addr} (h : AR K T σ H fs a v l) (e : Ex (hide (Hd T fs) H) (hide (Hd T' fs') H')) (k : ∀ b ∈ l, ∀ x, H b = some x → H' b = some x) : AR K T' σ H' fs' a v l := by
  cases a with
  | slot i => exact h
  | tmp o => exact RepO.mono e o v l k h
/-- what an argument shows -/
theorem RpA.see {a : Arg} {v : V} {l : List Addr} {o : OT} (r : Rp K T P ρ σ H fs) (h : AR K T σ H fs a v l) (e : look ρ a = some o) : ∃ f, RepO K (hide (Hd T fs) H) H o v f ∧ (∀ b ∈ f, b ∈ l ∨ Own fs b) := by
  cases a with
  | tmp o' =>
    cases e
    exact ⟨l, h, fun b hb => .inl hb⟩
  | slot i =>
    obtain ⟨rfl, hv⟩ := h
    have e : slv ρ[i]? = some o := e
    cases es : ρ[i]? with
    | none => rw [es] at e; cases e
    | some s =>
      rw [es] at e
      obtain ⟨x, hx, q⟩ := r.slot i s es
      rw [hv] at hx
      cases hx
      have own : ∀ b ∈ fs i, b ∈ ([] : List Addr) ∨ Own fs b := fun b hb => .inr ⟨i, hb⟩
      cases s with
      | un => cases e
      | vl o' =>
        cases e
        obtain ⟨v', e1, _, q⟩ := q
        cases e1
        exact ⟨fs i, q, own⟩
      | io o' =>
        cases e
        obtain ⟨v', e1, _, q⟩ := q
        cases e1
        exact ⟨fs i, q, own⟩
      | lk o' =>
        cases e
        obtain ⟨v', e1, q, _⟩ := q
        cases e1
        exact ⟨fs i, q, own⟩
end

/-! ### operations on values: what is new is told by Res -/
/-- o has come, all else stands -/
def Res (K : PySem.W.Frag) (G H : Hp) (o : OT) (Q : VK) : Prop :=
  ∀ v H' l, Ex H H' → l.Nodup → (∀ b ∈ l, H b = none) → (∀ G', Ex G G' → (∀ b x, H b = none → H' b = some x → b ∉ l → G' b = some x) → RepO K G' H' o v l) → Q v H'
theorem Res.same {K : PySem.W.Frag} {G H : Hp} {d : Dat} {v : V} {Q : VK} (h : Res K G H (.fz d) Q) (r : RepD K G d v) : Q v H :=
  h v H [] (Ex.refl H) .nil (fun _ z => nomatch z) fun G' e _ => ⟨rfl, RepD.mono e d v r⟩
/-- .. of what was in the air (l0) -/
def ResL (K : PySem.W.Frag) (G H : Hp) (l0 : List Addr) (o : OT) (Q : VK) : Prop :=
  ∀ v H' l, Ex H H' → l.Nodup → (∀ b ∈ l, H b = none ∨ b ∈ l0) → (∀ G', Ex G G' → (∀ b x, (H b = none ∨ b ∈ l0) → H' b = some x → b ∉ l → G' b = some x) → RepO K G' H' o v l) → Q v H'
section
variable {K : PySem.W.Frag} {T : Addr → Prop} {P : Pins} {ρ : Env} {σ : St} {H H0 : Hp} {fs fs0 : Nat → List Addr}
theorem Rp.resL {o : OT} {Q : VK} {l0 : List Addr} (r : Rp K (Tl T l0) P ρ σ H fs) (nt0 : ∀ b ∈ l0, ¬ T b) (f : Fr H0 (Own fs0) H (Ow l0 fs)) (k : ∀ v H' fs' l, RpA K T P ρ σ H' fs' (.tmp o) v l → Fr H0 (Own fs0) H' (Ow l fs') → Q v H') :
    ResL K (hide (Hd (Tl T l0) fs) H) H l0 o Q := fun v H' l ex nd fresh rep => by
  have nt : ∀ b ∈ l, ¬ T b := fun b hb z => by
    rcases fresh b hb with y | y
    · obtain ⟨x, e⟩ := r.ta b (.inl z)
      rw [y] at e; cases e
    · exact nt0 b y z
  have there : ∀ b ∈ l, ∃ x, H' b = some x := fun b hb => by
    have q := rep H' (hide_le.trans ex) (fun b x _ e _ => e)
    rcases RepO.own o v l q b hb with ⟨x, e⟩ | ⟨x, e⟩ | ⟨x, e⟩ <;> exact ⟨_, e⟩
  have r' : Rp K (Tl T l) P ρ σ H' fs := r.grow ex fun a z => by
    rcases z with z | z
    · exact .inl (.inl z)
    · rcases fresh a z with y | y
      · exact .inr ⟨y, there a z⟩
      · exact .inl (.inr y)
  refine k v H' fs l ⟨r', nd, nt, rep _ (hide_ex fun a x hn e => ⟨?_, ex a x e⟩) fun b x hb e hl => ?_⟩ (fun a x e n => ?_)
  · rintro ((z | z) | z)
    · exact hn (.inl (.inl z))
    · rcases fresh a z with y | y
      · rw [y] at e; cases e
      · exact hn (.inl (.inr y))
    · exact hn (.inr z)
  · refine (hide_no ?_).trans e
    rintro ((z | z) | z)
    · rcases hb with hb | hb
      · exact r.hd hb (.inl (.inl z))
      · exact nt0 b hb z
    · exact hl z
    · rcases hb with hb | hb
      · exact r.hd hb (.inr z)
      · exact r.tf b z (.inr hb)
  · obtain ⟨h1, h2⟩ := f a x e n
    refine ⟨ex a x h1, ?_⟩
    rintro (z | z)
    · rcases fresh a z with y | y
      · rw [y] at h1; cases h1
      · exact h2 (.inl y)
    · exact h2 (.inr z)
end
section
variable {K : PySem.W.Frag} {T : Addr → Prop} {P : Pins} {ρ : Env} {σ : St} {H H0 : Hp} {fs fs0 : Nat → List Addr}
/-- behind an operation -/
theorem Rp.res {o : OT} {Q : VK} {l0 : List Addr} (r : Rp K (Tl T l0) P ρ σ H fs) (f : Fr H0 (Own fs0) H (Ow l0 fs)) (k : ∀ v H' fs' l, RpA K T P ρ σ H' fs' (.tmp o) v l → Fr H0 (Own fs0) H' (Ow l fs') → Q v H') :
    Res K (hide (Hd (Tl T l0) fs) H) H o Q := fun v H' l ex nd fresh rep => by
  have nt : ∀ b ∈ l, ¬ T b := fun b hb z => by
    obtain ⟨x, e⟩ := r.ta b (.inl z)
    rw [fresh b hb] at e; cases e
  have there : ∀ b ∈ l, ∃ x, H' b = some x := fun b hb => by
    have q := rep H' (hide_le.trans ex) (fun b x _ e _ => e)
    rcases RepO.own o v l q b hb with ⟨x, e⟩ | ⟨x, e⟩ | ⟨x, e⟩ <;> exact ⟨_, e⟩
  have r' : Rp K (Tl T l) P ρ σ H' fs := r.grow ex fun a z => by
    rcases z with z | z
    · exact .inl (.inl z)
    · exact .inr ⟨fresh a z, there a z⟩
  refine k v H' fs l ⟨r', nd, nt, rep _ (hide_ex fun a x hn e => ⟨?_, ex a x e⟩) fun b x hb e hl => ?_⟩ (fun a x e n => ?_)
  · rintro ((z | z) | z)
    · exact hn (.inl (.inl z))
    · rw [fresh a z] at e; cases e
    · exact hn (.inr z)
  · refine (hide_no ?_).trans e
    rintro ((z | z) | z)
    · exact r.hd hb (.inl (.inl z))
    · exact hl z
    · exact r.hd hb (.inr z)
  · obtain ⟨h1, h2⟩ := f a x e n
    refine ⟨ex a x h1, ?_⟩
    rintro (z | z)
    · rw [fresh a z] at h1; cases h1
    · exact h2 (.inr z)
end
end Lay

namespace Lay
open PySem PySem.Spec L2
abbrev zp (X : Cx) (W : WX) : Par := ⟨X.K, X.mg, W⟩
abbrev DE (X : Cx) (W : WX) (e : Expr) (f : M Arg) : Prop := PE X e (tD (zp X W) f)
abbrev DA (X : Cx) (W : WX) (es : List Expr) (f : M (List Arg)) : Prop := PA X es (tDA (zp X W) f)
abbrev DT (X : Cx) (W : WX) (e : Expr) (f : M Bool) : Prop := PT X e (tDT (zp X W) f)

section
variable {K : PySem.W.Frag} {Z : Par} {T T' : Addr → Prop} {P : Pins} {ρ ρ1 : Env} {σ : St} {H H' H0 : Hp} {fs fs' fs0 : Nat → List Addr}
theorem onX.fr {x : Exn} {ρ' : Env} (h : onX Z T P H0 fs0 x ρ') {l : List Addr} (f : Fr H0 (Own fs0) H (Ow l fs)) : onX Z (Tl T l) P H fs x ρ' := fun cls d σ' H' fs' rx rp fr => by
  have g : Ex (hide (Hd (Tl T l) fs') H') (hide (Hd T fs') H') := hide_ex fun a y hn e => ⟨fun z => hn (z.imp Or.inl id), e⟩
  have mf : ∀ {l1 : List (Str × Dat)} {vs}, RepF Z.K (hide (Hd (Tl T l) fs') H') l1 vs → RepF Z.K (hide (Hd T fs') H') l1 vs := by
    intro l1
    induction l1 with
    | nil => intro vs h; exact h
    | cons p r ih => 
      intro vs h
      obtain ⟨n, dd⟩ := p
      obtain ⟨v, r', rfl, q, q2⟩ := h
      exact ⟨v, r', rfl, RepD.mono g dd v q, ih q2⟩
  refine h cls d σ' H' fs' ⟨rx.1, ?_⟩ (rp.grow (fun _ _ e => e) fun a z => .inl (.inl z)) ?_
  · obtain ⟨_, vs, q, q2⟩ := rx
    exact ⟨vs, mf q, q2⟩
  · exact f.trans (o2 := Ow l fs) fun a y e n => fr a y e fun z => n (.inr z)
theorem onX.fr0 {x : Exn} {ρ' : Env} (h : onX Z T P H0 fs0 x ρ') (f : Fr H0 (Own fs0) H (Own fs)) : onX Z T P H fs x ρ' := fun cls d σ' H' fs' rx rp fr => h cls d σ' H' fs' rx rp (f.trans fr)
theorem Rp.tl0 (r : Rp K T P ρ σ H fs) : Rp K (Tl T []) P ρ σ H fs := r.grow (fun _ _ e => e) fun a z => .inl (z.elim id fun z => nomatch z)
theorem Rp.unl {l : List Addr} (r : Rp K (Tl T l) P ρ σ H fs) : Rp K T P ρ σ H fs := r.grow (fun _ _ e => e) fun a z => .inl (.inl z)
theorem Rp.has (r : Rp K T P ρ σ H fs) {i : Nat} {o : OT} (h : slv ρ[i]? = some o) : ∃ v, σ[i]? = some (some v) := by
  cases es : ρ[i]? with
  | none => rw [es] at h; cases h
  | some s =>
    rw [es] at h
    obtain ⟨x, hx, q⟩ := r.slot i s es
    cases s with
    | un => cases h
    | vl o' => obtain ⟨v, e, _⟩ := q; exact ⟨v, by rw [hx, e]⟩
    | io o' => obtain ⟨v, e, _⟩ := q; exact ⟨v, by rw [hx, e]⟩
    | lk o' => obtain ⟨v, e, _⟩ := q; exact ⟨v, by rw [hx, e]⟩
end

/-! ### names and constants -/
def xVar (i : Nat) : M Arg := fun ρ => match slv ρ[i]? with
  | some _ => .ok (.slot i) ρ
  | none => .bad
def xD (d : Dat) : M Arg := fun ρ => .ok (.tmp (.fz d)) ρ
section
variable {X : Cx} {W : WX} {pos : Pos}
theorem de_var {e : Expr} (i : Nat) (h : PE X e (tVar i)) : DE X W e (xVar i) := pe_imp h fun σ H Q ⟨T, P, ρ, fs, r, q⟩ => by
  unfold xVar at q
  cases e : slv ρ[i]? with
  | none => rw [e] at q; exact q.elim
  | some o =>
    rw [e] at q
    obtain ⟨v, hv⟩ := r.has e
    exact ⟨v, hv, q v H fs [] ⟨r.tl0, .nil, (fun _ z => nomatch z), rfl, hv⟩ (Fr.refl.imp fun x z => z.elim (fun z => nomatch z) id)⟩
/-- a constant -/
theorem de_c {e : Expr} {v : V} {d : Dat} (h : PE X e (tC v)) (r : ∀ G, RepD X.K G d v) : DE X W e (xD d) := pe_imp h fun σ H Q ⟨T, P, ρ, fs, rp, q⟩ =>
  q v H fs [] ⟨rp.tl0, .nil, (fun _ z => nomatch z), rfl, r _⟩ (Fr.refl.imp fun x z => z.elim (fun z => nomatch z) id)
theorem de_int {i : Int} {j : Nat} : DE X W (.Constant (.int i) j pos) (xD (.int i)) := de_c pe_int fun _ => rfl
theorem de_bl {b : Bool} {j : Nat} : DE X W (.Constant (.bool b) j pos) (xD (.bl b)) := de_c pe_bl fun _ => rfl
theorem de_non {j : Nat} : DE X W (.Constant .none j pos) (xD .non) := de_c pe_non fun _ => rfl
theorem de_str {s : Str} {j : Nat} : DE X W (.Constant (.str s) j pos) (xD (.str s)) := de_c pe_str fun _ => rfl
end

/-! ### two operands -/
def x2 (op : OT → OT → Option OT) (f g : M Arg) : M Arg := fun ρ => (f ρ).bind fun a ρ1 => (g ρ1).bind fun b ρ2 =>
  match look ρ2 a, look ρ2 b with
  | some x, some y => match op x y with
    | some o => .ok (.tmp o) ρ2
    | none => .bad
  | _, _ => .bad
def OpOk (K : PySem.W.Frag) (r : R2) (op : OT → OT → Option OT) : Prop :=
  ∀ G H o1 o2 v1 v2 f1 f2 o Q, Ex G H → RepO K G H o1 v1 f1 → RepO K G H o2 v2 f2 → op o1 o2 = some o → Res K G H o Q → r v1 v2 H Q
theorem t2_op {Z : Par} {r : R2} {op : OT → OT → Option OT} (ho : OpOk Z.K r op) {f g : M Arg} {σ : St} {H : Hp} {Q : VK} (h : tD Z (x2 op f g) σ H Q) : tOp r (tD Z f) (tD Z g) σ H Q := by
  obtain ⟨T, P, ρ, fs, rp, q⟩ := h
  refine ⟨T, P, ρ, fs, rp, ?_⟩
  unfold x2 at q
  cases e1 : f ρ with
  | bad => rw [e1] at q; exact q
  | ex x ρ' => rw [e1] at q; exact q
  | ok a ρ1 =>
    rw [e1] at q
    intro v1 H1 fs1 l1 r1 f1
    refine ⟨Tl T l1, P, ρ1, fs1, r1.rp, ?_⟩
    simp only [R.bind] at q
    cases e2 : g ρ1 with
    | bad => rw [e2] at q; exact q
    | ex x ρ' => rw [e2] at q; exact onX.fr q f1
    | ok b ρ2 =>
      rw [e2] at q
      intro v2 H2 fs2 l2 r2 f2
      simp only at q
      have a1 := AR.step r1.ar r1.rp.noair f2
      cases c1 : look ρ2 a with
      | none => simp only [c1] at q; exact q.elim
      | some x =>
        cases c2 : look ρ2 b with
        | none => simp only [c1, c2] at q; exact q.elim
        | some y =>
          simp only [c1, c2] at q
          obtain ⟨g1, s1, _⟩ := RpA.see r2.rp a1 c1
          obtain ⟨g2, s2, _⟩ := RpA.see r2.rp r2.ar c2
          cases c3 : op x y with
          | none => simp only [c3] at q; exact q.elim
          | some o =>
            simp only [c3] at q
            have rr : Rp Z.K (Tl T (l1 ++ l2)) P ρ2 σ H2 fs2 := r2.rp.grow (fun _ _ e => e) fun a z => by
              rcases z with z | z
              · exact .inl (.inl (.inl z))
              · exact .inl ((List.mem_append.mp z).elim (fun z => .inl (.inr z)) .inr)
            have ff : Fr H (Own fs) H2 (Ow (l1 ++ l2) fs2) := fun b x e n => by
              obtain ⟨h1, n1⟩ := f1 b x e n
              obtain ⟨h2, n2⟩ := f2 b x h1 fun z => n1 (.inr z)
              refine ⟨h2, ?_⟩
              rintro (z | z)
              · exact (List.mem_append.mp z).elim (fun z => n1 (.inl z)) fun z => n2 (.inl z)
              · exact n2 (.inr z)
            have eh : hide (Hd (Tl (Tl T l1) l2) fs2) H2 = hide (Hd (Tl T (l1 ++ l2)) fs2) H2 := by
              congr 1
              funext b
              simp only [Hd, Tl, List.mem_append, eq_iff_iff]
              constructor
              · rintro (((z | z) | z) | z) <;> simp [z]
              · rintro ((z | z | z) | z) <;> simp [z]
            rw [eh] at s1 s2
            exact ho _ H2 x y v1 v2 g1 g2 o Q hide_le s1 s2 c3 (Rp.res rr ff q)
section
variable {X : Cx} {W : WX} {pos : Pos} {a b : Expr} {fa fb : M Arg} {r : R2} {op : OT → OT → Option OT}
theorem de_op {o : Operator} (ho : OpR X (binaryOp o) r) (hk : OpOk X.K r op) (ha : DE X W a fa) (hb : DE X W b fb) : DE X W (.BinOp a o b pos) (x2 op fa fb) :=
  pe_imp (pe_op ho ha hb) fun _ _ _ h => t2_op (Z := zp X W) hk h
theorem de_cmp {o : CmpOp} (ho : OpR X (compareOp o) r) (hk : OpOk X.K r op) (ha : DE X W a fa) (hb : DE X W b fb) (hm : behindInMarks o b = false := by first | exact nobehind _ (by decide) (by decide) | rfl) : DE X W (.Compare a [o] [b] pos) (x2 op fa fb) :=
  pe_imp (pe_cmpR ho ha hb hm) fun _ _ _ h => t2_op (Z := zp X W) hk h
end
/-! ### one operand -/
def x1 (op : OT → Option OT) (f : M Arg) : M Arg := fun ρ => (f ρ).bind fun a ρ1 => match look ρ1 a with
  | some x => match op x with
    | some o => .ok (.tmp o) ρ1
    | none => .bad
  | none => .bad
def Op1Ok (K : PySem.W.Frag) (r : V → Hp → VK → Prop) (op : OT → Option OT) : Prop :=
  ∀ G H o1 v1 f1 o Q, Ex G H → RepO K G H o1 v1 f1 → op o1 = some o → Res K G H o Q → r v1 H Q
theorem t1_op {Z : Par} {r : V → Hp → VK → Prop} {op : OT → Option OT} (ho : Op1Ok Z.K r op) {f : M Arg} {σ : St} {H : Hp} {Q : VK} (h : tD Z (x1 op f) σ H Q) : tUn r (tD Z f) σ H Q := by
  obtain ⟨T, P, ρ, fs, rp, q⟩ := h
  refine ⟨T, P, ρ, fs, rp, ?_⟩
  unfold x1 at q
  cases e1 : f ρ with
  | bad => rw [e1] at q; exact q
  | ex x ρ' => rw [e1] at q; exact q
  | ok a ρ1 =>
    rw [e1] at q
    intro v1 H1 fs1 l1 r1 f1
    simp only [R.bind] at q
    cases c1 : look ρ1 a with
    | none => simp only [c1] at q; exact q.elim
    | some x =>
      simp only [c1] at q
      obtain ⟨g1, s1, _⟩ := RpA.see r1.rp r1.ar c1
      cases c3 : op x with
      | none => simp only [c3] at q; exact q.elim
      | some o =>
        simp only [c3] at q
        exact ho _ H1 x v1 g1 o Q hide_le s1 c3 (Rp.res r1.rp f1 q)
section
variable {X : Cx} {W : WX} {pos : Pos} {a : Expr} {fa : M Arg} {r : V → Hp → VK → Prop} {op : OT → Option OT}
theorem de_un {o : UnaryOp} (ho : UnR X (unaryOp o) r) (hk : Op1Ok X.K r op) (ha : DE X W a fa) : DE X W (.UnaryOp o a pos) (x1 op fa) :=
  pe_imp (pe_un ho ha) fun _ _ _ h => t1_op (Z := zp X W) hk h
end

/-! ### argument lists -/
def xNil : M (List Arg) := fun ρ => .ok [] ρ
def xCons (f : M Arg) (g : M (List Arg)) : M (List Arg) := fun ρ => (f ρ).bind fun a ρ1 => (g ρ1).bind fun r ρ2 => .ok (a :: r) ρ2
theorem Tl_app {T : Addr → Prop} {l1 l2 : List Addr} : Tl (Tl T l1) l2 = Tl T (l1 ++ l2) := by
  funext b
  simp only [Tl, List.mem_append, eq_iff_iff, or_assoc]
theorem Tl_nil {T : Addr → Prop} : Tl T [] = T := by
  funext b
  simp only [Tl, eq_iff_iff]
  constructor
  · rintro (z | z)
    · exact z
    · cases z
  · exact Or.inl
theorem ARs.step {K : PySem.W.Frag} {T : Addr → Prop} {σ : St} {H H' : Hp} {fs fs' : Nat → List Addr} {l1 l2 : List Addr} : ∀ {a : List Arg} {v : List V} {l : List Addr}, ARs K T σ H fs a v l → Ex (hide (Hd T fs) H) (hide (Hd (Tl T l2) fs') H') → (∀ b ∈ l, ∀ x, H b = some x → H' b = some x) → ARs K (Tl T l2) σ H' fs' a v l
  | [], _, _, h, _, _ => h
  | a :: r, _, _, h, e, k => by
    obtain ⟨v, r', l1, l2, rfl, rfl, q1, q2⟩ := h
    exact ⟨v, r', l1, l2, rfl, rfl, q1.mono e (fun b hb => k b (List.mem_append_left _ hb)), ARs.step (l1 := l1) q2 e fun b hb => k b (List.mem_append_right _ hb)⟩
section
variable {X : Cx} {W : WX} {e : Expr} {es : List Expr} {fa : M Arg} {fr : M (List Arg)}
theorem da_nil : DA X W [] xNil := pa_imp pa_nil fun σ H Q ⟨T, P, ρ, fs, rp, q⟩ => q [] H fs [] ⟨rp.tl0, .nil, (fun _ z => nomatch z), rfl, rfl⟩ (Fr.refl.imp fun x z => z.elim (fun z => nomatch z) id)
theorem da_cons (ha : DE X W e fa) (hr : DA X W es fr) (hs : starEach (e :: es) X.env = (false, eval e X.env) :: starEach es X.env := by rfl) : DA X W (e :: es) (xCons fa fr) := pa_imp (pa_cons ha hr hs) fun σ H Q ⟨T, P, ρ, fs, rp, q⟩ => by
  refine ⟨T, P, ρ, fs, rp, ?_⟩
  unfold xCons at q
  cases e1 : fa ρ with
  | bad => rw [e1] at q; exact q
  | ex x ρ' => rw [e1] at q; exact q
  | ok a ρ1 =>
    rw [e1] at q
    intro v1 H1 fs1 l1 r1 f1
    refine ⟨Tl T l1, P, ρ1, fs1, r1.rp, ?_⟩
    simp only [R.bind] at q
    cases e2 : fr ρ1 with
    | bad => rw [e2] at q; exact q
    | ex x ρ' => rw [e2] at q; exact onX.fr q f1
    | ok b ρ2 =>
      rw [e2] at q
      intro v2 H2 fs2 l2 r2 f2
      have a1 := AR.step r1.ar r1.rp.noair f2
      have r2p := r2.rp
      have r2a := r2.ar
      rw [Tl_app] at a1 r2p r2a
      refine q (v1 :: v2) H2 fs2 (l1 ++ l2) ⟨r2p, ?_, ?_, v1, v2, l1, l2, rfl, rfl, a1, r2a⟩ fun b x e n => ?_
      · refine List.nodup_append.mpr ⟨r1.nd, r2.nd, fun x hx y hy e => ?_⟩
        subst e
        exact r2.nt x hy (.inr hx)
      · intro b hb z
        exact (List.mem_append.mp hb).elim (fun hb => r1.nt b hb z) fun hb => r2.nt b hb (.inl z)
      · obtain ⟨h1, n1⟩ := f1 b x e n
        obtain ⟨h2, n2⟩ := f2 b x h1 fun z => n1 (.inr z)
        refine ⟨h2, ?_⟩
        rintro (z | z)
        · exact (List.mem_append.mp z).elim (fun z => n1 (.inl z)) fun z => n2 (.inl z)
        · exact n2 (.inr z)
end
end Lay

namespace Lay
open PySem PySem.Spec L2

/-! ### several operands -/
def looks (ρ : Env) : List Arg → Option (List OT)
  | [] => some []
  | a :: r => match look ρ a, looks ρ r with
    | some x, some xs => some (x :: xs)
    | _, _ => none
def RepV (K : PySem.W.Frag) (G H : Hp) : List OT → List V → Prop
  | [], vs => vs = []
  | o :: r, vs => ∃ v r' f, vs = v :: r' ∧ RepO K G H o v f ∧ RepV K G H r r'
theorem see_all {K : PySem.W.Frag} {T : Addr → Prop} {P : Pins} {ρ : Env} {σ : St} {H : Hp} {fs : Nat → List Addr} (r : Rp K T P ρ σ H fs) : ∀ {as : List Arg} {vs : List V} {l : List Addr} {os : List OT},
    ARs K T σ H fs as vs l → looks ρ as = some os → RepV K (hide (Hd T fs) H) H os vs
  | [], vs, l, os, h, e => by
    cases e
    exact h.1
  | a :: rs, vs, l, os, h, e => by
    obtain ⟨v, r', l1, l2, rfl, rfl, q1, q2⟩ := h
    unfold looks at e
    cases c1 : look ρ a with
    | none => simp [c1] at e
    | some x =>
      cases c2 : looks ρ rs with
      | none => simp [c1, c2] at e
      | some xs =>
        simp only [c1, c2, Option.some.injEq] at e
        subst e
        obtain ⟨f, q, _⟩ := RpA.see r q1 c1
        exact ⟨v, r', f, rfl, q, see_all r q2 c2⟩
def xN (op : List OT → Option OT) (f : M (List Arg)) : M Arg := fun ρ => (f ρ).bind fun as ρ1 => match looks ρ1 as with
  | some xs => match op xs with
    | some o => .ok (.tmp o) ρ1
    | none => .bad
  | none => .bad
def CallOk (K : PySem.W.Frag) (r : List V → Hp → VK → Prop) (op : List OT → Option OT) : Prop :=
  ∀ G H os vs o Q, Ex G H → RepV K G H os vs → op os = some o → Res K G H o Q → r vs H Q
theorem tN_op {Z : Par} {r : List V → Hp → VK → Prop} {op : List OT → Option OT} (ho : CallOk Z.K r op) {f : M (List Arg)} {σ : St} {H : Hp} {Q : VK} (h : tD Z (xN op f) σ H Q) : tCB r (tDA Z f) σ H Q := by
  obtain ⟨T, P, ρ, fs, rp, q⟩ := h
  refine ⟨T, P, ρ, fs, rp, ?_⟩
  unfold xN at q
  cases e1 : f ρ with
  | bad => rw [e1] at q; exact q
  | ex x ρ' => rw [e1] at q; exact q
  | ok as ρ1 =>
    rw [e1] at q
    intro vs H1 fs1 l1 r1 f1
    simp only [R.bind] at q
    cases c1 : looks ρ1 as with
    | none => simp only [c1] at q; exact q.elim
    | some xs =>
      simp only [c1] at q
      cases c3 : op xs with
      | none => simp only [c3] at q; exact q.elim
      | some o =>
        simp only [c3] at q
        exact ho _ H1 xs vs o Q hide_le (see_all r1.rp r1.ar c1) c3 (Rp.res r1.rp f1 q)
/-- a method that changes nothing: the receiver, the arguments -/
def xM (op : OT → List OT → Option OT) (f : M Arg) (g : M (List Arg)) : M Arg := fun ρ => (f ρ).bind fun a ρ1 => (g ρ1).bind fun as ρ2 => match look ρ2 a, looks ρ2 as with
  | some x, some xs => match op x xs with
    | some o => .ok (.tmp o) ρ2
    | none => .bad
  | _, _ => .bad
/-- of which built-in type a method's receiver is -/
def tyO (T : String) : OT → Bool
  | .fz (.str _) => decide (T = "str")
  | .fz (.int _) => decide (T = "int")
  | .fz (.lst _) => decide (T = "list")
  | .fz (.dic _) => decide (T = "dict")
  | .lst _ => decide (T = "list")
  | .dic _ => decide (T = "dict")
  | _ => false
theorem tyO_ok {K : PySem.W.Frag} {G H : Hp} {T : String} {o : OT} {v : V} {f : List Addr} (e : Ex G H) (h : RepO K G H o v f) (t : tyO T o = true) : tyV K T v H := by
  have dk : ∀ {H : Hp} {a : Addr} {ps : List (Dat × V)}, DictAt H a ps → T = "dict" → tyV K T (.ref a) H := fun {H a ps} q hT => by
    refine .inr (.inr (.inl ⟨hT, ?_⟩))
    rcases q with ⟨ks, q, _⟩ | ⟨ks, q, _⟩
    · exact .inl ⟨_, q⟩
    · exact .inr ⟨_, q⟩
  cases o with
  | fz d =>
    obtain ⟨_, h⟩ := h
    cases d with
    | str s => cases (show v = .str s from h); exact (show T = "str" from of_decide_eq_true t)
    | int s => cases (show v = .int s from h); exact (show T = "int" from of_decide_eq_true t)
    | lst xs =>
      obtain ⟨a, vs, rfl, q, _⟩ := h
      exact .inl ⟨of_decide_eq_true t, vs, .inl (.inl (e a _ q))⟩
    | dic xs =>
      obtain ⟨a, vs, rfl, q, _⟩ := h
      exact dk (q.at (e a)) (of_decide_eq_true t)
    | _ => cases t
  | lst os =>
    obtain ⟨a, vs, f, rfl, _, q, _⟩ := h
    exact .inl ⟨of_decide_eq_true t, vs, .inl (.inl q)⟩
  | dic os =>
    obtain ⟨a, vs, f, rfl, _, q, _⟩ := h
    exact dk q (of_decide_eq_true t)
def MethOk (K : PySem.W.Frag) (T : String) (r : V → List V → Hp → VK → Prop) (op : OT → List OT → Option OT) : Prop :=
  ∀ G H x os v vs f o Q, Ex G H → RepO K G H x v f → RepV K G H os vs → op x os = some o → Res K G H o Q → r v vs H Q
/-- the receiver's type is looked at first -/
def xTy (T : String) (f : M Arg) : M Arg := fun ρ => (f ρ).bind fun a ρ1 => match look ρ1 a with
  | some x => if tyO T x then .ok a ρ1 else .bad
  | none => .bad
theorem tM_op {Z : Par} {T0 : String} {r : V → List V → Hp → VK → Prop} {op : OT → List OT → Option OT} (ho : MethOk Z.K T0 r op) {f : M Arg} {g : M (List Arg)} {σ : St} {H : Hp} {Q : VK} (h : tD Z (xM op (xTy T0 f) g) σ H Q) : tBM Z.K T0 r (tD Z f) (tDA Z g) σ H Q := by
  obtain ⟨T, P, ρ, fs, rp, q⟩ := h
  refine ⟨T, P, ρ, fs, rp, ?_⟩
  unfold xM xTy at q
  cases e1 : f ρ with
  | bad => rw [e1] at q; exact q
  | ex x ρ' => rw [e1] at q; exact q
  | ok a ρ1 =>
    rw [e1] at q
    intro v1 H1 fs1 l1 r1 f1
    simp only [R.bind] at q
    cases c0 : look ρ1 a with
    | none => simp only [c0] at q; exact q.elim
    | some x0 =>
    simp only [c0] at q
    obtain ⟨g0, s0, _⟩ := RpA.see r1.rp r1.ar c0
    cases ct : tyO T0 x0 with
    | false => simp only [ct] at q; exact q.elim
    | true =>
    simp only [ct, if_true] at q
    refine ⟨tyO_ok hide_le s0 ct, Tl T l1, P, ρ1, fs1, r1.rp, ?_⟩
    cases e2 : g ρ1 with
    | bad => rw [e2] at q; exact q
    | ex x ρ' => rw [e2] at q; exact onX.fr q f1
    | ok b ρ2 =>
      rw [e2] at q
      intro v2 H2 fs2 l2 r2 f2
      simp only at q
      have a1 := AR.step r1.ar r1.rp.noair f2
      cases c1 : look ρ2 a with
      | none => simp only [c1] at q; exact q.elim
      | some x =>
        cases c2 : looks ρ2 b with
        | none => simp only [c1, c2] at q; exact q.elim
        | some y =>
          simp only [c1, c2] at q
          obtain ⟨g1, s1, _⟩ := RpA.see r2.rp a1 c1
          have s2 := see_all r2.rp r2.ar c2
          cases c3 : op x y with
          | none => simp only [c3] at q; exact q.elim
          | some o =>
            simp only [c3] at q
            have rr := r2.rp
            have ff : Fr H (Own fs) H2 (Ow (l1 ++ l2) fs2) := fun b x e n => by
              obtain ⟨h1, n1⟩ := f1 b x e n
              obtain ⟨h2, n2⟩ := f2 b x h1 fun z => n1 (.inr z)
              refine ⟨h2, ?_⟩
              rintro (z | z)
              · exact (List.mem_append.mp z).elim (fun z => n1 (.inl z)) fun z => n2 (.inl z)
              · exact n2 (.inr z)
            rw [Tl_app] at s1 s2 rr
            exact ho _ H2 x y v1 v2 g1 o Q hide_le s1 s2 c3 (Rp.res rr ff q)
theorem tM0_op {Z : Par} {T0 : String} {r : V → List V → Hp → VK → Prop} {op : OT → List OT → Option OT} (ho : MethOk Z.K T0 r op) {f : M Arg} {σ : St} {H : Hp} {Q : VK} (h : tD Z (x1 (fun x => if tyO T0 x then op x [] else none) f) σ H Q) : tBM0 Z.K T0 r (tD Z f) σ H Q := by
  refine t1_op (r := fun x H Q => tyV Z.K T0 x H ∧ r x [] H Q) (fun G H o1 v1 f1 o Q e r1 c q => ?_) h
  split at c
  · exact ⟨tyO_ok e r1 (by assumption), ho G H o1 [] v1 [] f1 o Q e r1 rfl c q⟩
  · cases c

section
variable {X : Cx} {W : WX} {pos : Pos} {e e' : Expr} {es : List Expr} {fa : M Arg} {fs : M (List Arg)}
theorem de_cb {r : List V → Hp → VK → Prop} {op : List OT → Option OT} (hk : CallOk X.K r op) (h : PE X e (tCB r (tDA (zp X W) fs))) : DE X W e (xN op fs) := pe_imp h fun _ _ _ q => tN_op (Z := zp X W) hk q
theorem de_bm {T : String} {r : V → List V → Hp → VK → Prop} {op : OT → List OT → Option OT} (hk : MethOk X.K T r op) (h : PE X e (tBM X.K T r (tD (zp X W) fa) (tDA (zp X W) fs))) : DE X W e (xM op (xTy T fa) fs) := pe_imp h fun _ _ _ q => tM_op (Z := zp X W) hk q
theorem de_bm0 {T : String} {r : V → List V → Hp → VK → Prop} {op : OT → List OT → Option OT} (hk : MethOk X.K T r op) (h : PE X e (tBM0 X.K T r (tD (zp X W) fa))) : DE X W e (x1 (fun x => if tyO T x then op x [] else none) fa) := pe_imp h fun _ _ _ q => tM0_op (Z := zp X W) hk q
theorem de_ix {a b : Expr} {fb : M Arg} {r : R2} {op : OT → OT → Option OT} (ho : IxR X r) (hk : OpOk X.K r op) (ha : DE X W a fa) (hb : DE X W b fb) (hs : PlainIx b) : DE X W (.Subscript a b pos) (x2 op fa fb) :=
  pe_imp (pe_ix ho ha hb hs) fun _ _ _ h => t2_op (Z := zp X W) hk h
end

/-! ### an owned thing handed on -/
def take1 (ρ : Env) : Arg → Option (OT × Env)
  | .tmp o => some (o, ρ)
  | .slot i => match ρ[i]? with
    | some (.vl (.fz d)) => some (.fz d, ρ)
    | some (.io (.fz d)) => some (.fz d, ρ)
    | some (.lk (.fz d)) => some (.fz d, ρ)
    | some (.vl o) => some (.fz (frz o), ρ.set i (.vl (.fz (frz o))))
    | _ => none
def takes (ρ : Env) : List Arg → Option (List OT × Env)
  | [] => some ([], ρ)
  | a :: r => match take1 ρ a with
    | some (o, ρ1) => match takes ρ1 r with
      | some (os, ρ2) => some (o :: os, ρ2)
      | none => none
    | none => none
section
variable {K : PySem.W.Frag} {T T' : Addr → Prop} {P : Pins} {ρ ρ1 : Env} {σ : St} {H H' : Hp} {fs fs' : Nat → List Addr}
/-- the footprints with one changed -/
def fset (fs : Nat → List Addr) (i : Nat) (l : List Addr) : Nat → List Addr := fun j => if j = i then l else fs j
theorem fset_same {i : Nat} {l : List Addr} : fset fs i l i = l := by unfold fset; rw [if_pos rfl]
theorem fset_ne {i j : Nat} {l : List Addr} (h : j ≠ i) : fset fs i l j = fs j := by unfold fset; rw [if_neg h]
theorem slv_of {s : Sl} {x : Option V} {f : List Addr} {G : Hp} {p : Option (V × Option (List V))} {o : OT} (h : RepS K G H p s x f) (e : slv (some s) = some o) : ∃ v, x = some v ∧ RepO K G H o v f := by
  cases s with
  | un => cases e
  | vl o' => cases e; obtain ⟨v, h1, _, h2⟩ := h; exact ⟨v, h1, h2⟩
  | io o' => cases e; obtain ⟨v, h1, _, h2⟩ := h; exact ⟨v, h1, h2⟩
  | lk o' => cases e; obtain ⟨v, h1, h2, _⟩ := h; exact ⟨v, h1, h2⟩
/-- what a name owns is given away for good -/
theorem Rp.freeze (r : Rp K T P ρ σ H fs) {i : Nat} {o : OT} (h : ρ[i]? = some (.vl o)) : Rp K T P (ρ.set i (.vl (.fz (frz o)))) σ H (fset fs i []) ∧ (∀ a, Own (fset fs i []) a → Own fs a) ∧
    ∃ v, σ[i]? = some (some v) ∧ RepD K (hide (Hd T (fset fs i [])) H) (frz o) v := by
  have sub : ∀ a, Own (fset fs i []) a → Own fs a := fun a ⟨j, hj⟩ => by
    by_cases e : j = i
    · subst e; rw [fset_same] at hj; cases hj
    · rw [fset_ne e] at hj; exact ⟨j, hj⟩
  have ex : Ex (hide (Hd T fs) H) (hide (Hd T (fset fs i [])) H) := hide_ex fun a x n e => ⟨fun z => n (z.imp id (sub a)), e⟩
  obtain ⟨x, hx, v, rfl, hp, q⟩ := r.slot i _ h
  have qd : RepD K (hide (Hd T (fset fs i [])) H) (frz o) v := RepO.freeze ex o v (fs i) (fun a ha x e => (hide_no (fun z => by
    rcases z with z | ⟨j, hj⟩
    · exact r.tf a ⟨i, ha⟩ z
    · by_cases e : j = i
      · subst e; rw [fset_same] at hj; cases hj
      · rw [fset_ne e] at hj; exact e (r.dj j i a hj ha))).trans e) q
  have hlt : i < ρ.length := (List.getElem?_eq_some_iff.mp h).1
  refine ⟨⟨fun j s e => ?_, fun j e => ?_, fun j => ?_, fun j k a h1 h2 => ?_, fun a o => r.tf a (sub a o), r.ta, fun j p e => (let ⟨s, h⟩ := r.pl j p e; set_some h)⟩, sub, v, hx, qd⟩
  · by_cases hj : j = i
    · subst hj
      rw [List.getElem?_set_self hlt] at e
      cases e
      exact ⟨_, hx, v, rfl, hp, fset_same, qd⟩
    · rw [List.getElem?_set_ne (Ne.symm hj)] at e
      obtain ⟨y, h1, h2⟩ := r.slot j s e
      rw [fset_ne hj]
      exact ⟨y, h1, h2.mono ex fun _ _ _ e => e⟩
  · by_cases hj : j = i
    · subst hj; exact fset_same
    · rw [List.getElem?_set_ne (Ne.symm hj)] at e
      rw [fset_ne hj]
      exact r.out j e
  · by_cases hj : j = i
    · subst hj; rw [fset_same]; exact .nil
    · rw [fset_ne hj]; exact r.nd j
  · by_cases hj : j = i
    · subst hj; rw [fset_same] at h1; cases h1
    · by_cases hk : k = i
      · subst hk; rw [fset_same] at h2; cases h2
      · rw [fset_ne hj] at h1; rw [fset_ne hk] at h2; exact r.dj j k a h1 h2
theorem take1_ok (r : Rp K T P ρ σ H fs) {a : Arg} {v : V} {l : List Addr} {o : OT} (h : AR K T σ H fs a v l) (e : take1 ρ a = some (o, ρ1)) :
    ∃ fs1, Rp K T P ρ1 σ H fs1 ∧ (∀ b, Own fs1 b → Own fs b) ∧ RepO K (hide (Hd T fs1) H) H o v l := by
  cases a with
  | tmp o' =>
    cases e
    exact ⟨fs, r, fun _ z => z, h⟩
  | slot i =>
    obtain ⟨rfl, hv⟩ := h
    have e : (match ρ[i]? with
      | some (.vl (.fz d)) => some (OT.fz d, ρ)
      | some (.io (.fz d)) => some (.fz d, ρ)
      | some (.lk (.fz d)) => some (.fz d, ρ)
      | some (.vl o) => some (.fz (frz o), ρ.set i (.vl (.fz (frz o))))
      | _ => none) = some (o, ρ1) := e
    cases es : ρ[i]? with
    | none => simp [es] at e
    | some s =>
      have fzs : ∀ d, slv (some s) = some (.fz d) → RepO K (hide (Hd T fs) H) H (.fz d) v [] := fun d e2 => by
        obtain ⟨x, hx, q⟩ := r.slot i s es
        obtain ⟨w, hw, q⟩ := slv_of q e2
        rw [hv] at hx
        cases hx
        cases hw
        exact ⟨rfl, q.2⟩
      have frzd : ∀ o', s = .vl o' → o = .fz (frz o') → ρ1 = ρ.set i (.vl (.fz (frz o'))) → ∃ fs1, Rp K T P ρ1 σ H fs1 ∧ (∀ b, Own fs1 b → Own fs b) ∧ RepO K (hide (Hd T fs1) H) H o v [] := fun o' e1 e2 e3 => by
        subst e1 e2 e3
        obtain ⟨h1, h2, v', h3, h4⟩ := r.freeze es
        rw [hv] at h3
        cases h3
        exact ⟨_, h1, h2, rfl, h4⟩
      cases s with
      | un => simp [es] at e
      | vl o' =>
        cases o' with
        | fz d =>
          simp only [es, Option.some.injEq, Prod.mk.injEq] at e
          obtain ⟨rfl, rfl⟩ := e
          exact ⟨fs, r, fun _ z => z, fzs d rfl⟩
        | lst os =>
          simp only [es, Option.some.injEq, Prod.mk.injEq] at e
          exact frzd _ rfl e.1.symm e.2.symm
        | dic os =>
          simp only [es, Option.some.injEq, Prod.mk.injEq] at e
          exact frzd _ rfl e.1.symm e.2.symm
      | io o' =>
        cases o' with
        | fz d =>
          simp only [es, Option.some.injEq, Prod.mk.injEq] at e
          obtain ⟨rfl, rfl⟩ := e
          exact ⟨fs, r, fun _ z => z, fzs d rfl⟩
        | _ => simp [es] at e
      | lk o' =>
        cases o' with
        | fz d =>
          simp only [es, Option.some.injEq, Prod.mk.injEq] at e
          obtain ⟨rfl, rfl⟩ := e
          exact ⟨fs, r, fun _ z => z, fzs d rfl⟩
        | _ => simp [es] at e
theorem takes_ok : ∀ {as : List Arg} {vs : List V} {l : List Addr} {os : List OT} {ρ ρ1 : Env} {fs : Nat → List Addr}, Rp K T P ρ σ H fs → ARs K T σ H fs as vs l → takes ρ as = some (os, ρ1) →
    ∃ fs1, Rp K T P ρ1 σ H fs1 ∧ (∀ b, Own fs1 b → Own fs b) ∧ RepOs K (hide (Hd T fs1) H) H os vs l
  | [], vs, l, os, ρ, ρ1, fs, r, h, e => by
    cases e
    exact ⟨fs, r, fun _ z => z, h⟩
  | a :: as, vs, l, os, ρ, ρ1, fs, r, h, e => by
    obtain ⟨v, r', l1, l2, rfl, rfl, q1, q2⟩ := h
    unfold takes at e
    cases c1 : take1 ρ a with
    | none => simp [c1] at e
    | some p =>
      obtain ⟨o, ρ2⟩ := p
      simp only [c1] at e
      cases c2 : takes ρ2 as with
      | none => simp [c2] at e
      | some p =>
        obtain ⟨os2, ρ3⟩ := p
        simp only [c2, Option.some.injEq, Prod.mk.injEq] at e
        obtain ⟨rfl, rfl⟩ := e
        obtain ⟨fs1, r1, s1, p1⟩ := take1_ok r q1 c1
        have ex1 : Ex (hide (Hd T fs) H) (hide (Hd T fs1) H) := hide_ex fun a x n e => ⟨fun z => n (z.imp id (s1 a)), e⟩
        have q2' : ARs K T σ H fs1 as r' l2 := by
          have := ARs.step (l1 := []) (l2 := []) (T := T) (fs' := fs1) (H' := H) q2 (by rw [Tl_nil]; exact ex1) fun _ _ _ e => e
          rwa [Tl_nil] at this
        obtain ⟨fs2, r2, s2, p2⟩ := takes_ok r1 q2' c2
        have ex2 : Ex (hide (Hd T fs1) H) (hide (Hd T fs2) H) := hide_ex fun a x n e => ⟨fun z => n (z.imp id (s2 a)), e⟩
        exact ⟨fs2, r2, fun b z => s1 b (s2 b z), v, r', l1, l2, rfl, rfl, RepO.mono ex2 o v l1 (fun _ _ _ e => e) p1, p2⟩
theorem RepOs.length : ∀ {os : List OT} {vs : List V} {l : List Addr} {G : Hp}, RepOs K G H os vs l → vs.length = os.length
  | [], _, _, _, h => by rw [h.1]; rfl
  | _ :: r, _, _, _, h => by
    obtain ⟨v, r', l1, l2, rfl, rfl, q1, q2⟩ := h
    rw [List.length_cons, List.length_cons, RepOs.length q2]
end

/-! ### displays -/
def xTup (f : M (List Arg)) : M Arg := fun ρ => (f ρ).bind fun as ρ1 => match takes ρ1 as with
  | some (os, ρ2) => if os.length ≤ sizeLine then .ok (.tmp (.fz (.tup (frzs os)))) ρ2 else .bad
  | none => .bad
def xLst (f : M (List Arg)) : M Arg := fun ρ => (f ρ).bind fun as ρ1 => match takes ρ1 as with
  | some (os, ρ2) => if os.length ≤ sizeLine then .ok (.tmp (.lst os)) ρ2 else .bad
  | none => .bad
theorem tTup_op {Z : Par} {f : M (List Arg)} {σ : St} {H : Hp} {Q : VK} (h : tD Z (xTup f) σ H Q) : tTup (tDA Z f) σ H Q := by
  obtain ⟨T, P, ρ, fs, rp, q⟩ := h
  refine ⟨T, P, ρ, fs, rp, ?_⟩
  unfold xTup at q
  cases e1 : f ρ with
  | bad => rw [e1] at q; exact q
  | ex x ρ' => rw [e1] at q; exact q
  | ok as ρ1 =>
    rw [e1] at q
    intro vs H1 fs1 l1 r1 f1
    simp only [R.bind] at q
    cases c1 : takes ρ1 as with
    | none => simp only [c1] at q; exact q.elim
    | some p =>
      obtain ⟨os, ρ2⟩ := p
      simp only [c1] at q
      obtain ⟨fs2, r2, s2, p2⟩ := takes_ok r1.rp r1.ar c1
      by_cases hz : os.length ≤ sizeLine
      · rw [if_pos hz] at q
        refine ⟨by rw [RepOs.length p2]; exact hz, fun p hp => ?_⟩
        have ff : Fr H (Own fs) H1 (Ow l1 fs2) := f1.imp fun x z => z.imp id (s2 x)
        have old : ∀ a o, H1 a = some o → upd H1 p (.tup vs) a = some o := fun a o e => by rw [upd_ne (ne_of_none e hp)]; exact e
        refine Rp.resL (o := .fz (.tup (frzs os))) r2 r1.nt ff q (.ref p) _ [] old .nil (fun _ z => nomatch z) fun G' ex nw => ⟨rfl, p, vs, rfl, .inl (.inl (nw p _ (.inl hp) upd_same (fun z => nomatch z))), ?_⟩
        exact RepOs.freeze ex os vs l1 (fun a ha x e => nw a x (.inr ha) (old a x e) fun z => nomatch z) p2
      · rw [if_neg hz] at q; exact q.elim
theorem tLst_op {Z : Par} {f : M (List Arg)} {σ : St} {H : Hp} {Q : VK} (h : tD Z (xLst f) σ H Q) : tLst (tDA Z f) σ H Q := by
  obtain ⟨T, P, ρ, fs, rp, q⟩ := h
  refine ⟨T, P, ρ, fs, rp, ?_⟩
  unfold xLst at q
  cases e1 : f ρ with
  | bad => rw [e1] at q; exact q
  | ex x ρ' => rw [e1] at q; exact q
  | ok as ρ1 =>
    rw [e1] at q
    intro vs H1 fs1 l1 r1 f1
    simp only [R.bind] at q
    cases c1 : takes ρ1 as with
    | none => simp only [c1] at q; exact q.elim
    | some p =>
      obtain ⟨os, ρ2⟩ := p
      simp only [c1] at q
      obtain ⟨fs2, r2, s2, p2⟩ := takes_ok r1.rp r1.ar c1
      by_cases hz : os.length ≤ sizeLine
      · rw [if_pos hz] at q
        refine ⟨by rw [RepOs.length p2]; exact hz, fun p hp => ?_⟩
        have ff : Fr H (Own fs) H1 (Ow l1 fs2) := f1.imp fun x z => z.imp id (s2 x)
        have old : ∀ a o, H1 a = some o → upd H1 p (.lst vs) a = some o := fun a o e => by rw [upd_ne (ne_of_none e hp)]; exact e
        have np : p ∉ l1 := fun z => by
          rcases RepOs.own os vs l1 p2 p z with ⟨x, e⟩ | ⟨x, e⟩ | ⟨x, e⟩ <;> (rw [hp] at e; cases e)
        refine Rp.resL (o := .lst os) r2 r1.nt ff q (.ref p) _ (p :: l1) old (List.nodup_cons.mpr ⟨np, r1.nd⟩) (fun b z => (List.mem_cons.mp z).elim (fun z => .inl (by rw [z]; exact hp)) .inr) fun G' ex nw => ⟨p, vs, l1, rfl, rfl, upd_same, ?_⟩
        exact RepOs.mono ex os vs l1 (fun a _ x e => old a x e) p2
      · rw [if_neg hz] at q; exact q.elim
section
variable {X : Cx} {W : WX} {pos : Pos} {es : List Expr} {fs : M (List Arg)}
theorem de_tup {k : Nat} (h : DA X W es fs) : DE X W (.Tuple es k pos) (xTup fs) := pe_imp (pe_tup h) fun _ _ _ q => tTup_op (Z := zp X W) q
theorem de_lst (h : DA X W es fs) : DE X W (.List es pos) (xLst fs) := pe_imp (pe_lst h) fun _ _ _ q => tLst_op (Z := zp X W) q
end

/-! ### tests -/
section
variable {Z : Par} {T : Addr → Prop} {P : Pins} {σ : St} {H H1 : Hp} {fs fs1 : Nat → List Addr} {ρ1 : Env} {Q : Bool → Hp → Prop} {b : Bool} {l : List Addr}
theorem Rp.test (r : Rp Z.K (Tl T l) P ρ1 σ H1 fs1) (f : Fr H (Own fs) H1 (Ow l fs1)) (q : AftT Z T P σ H fs Q (.ok b ρ1)) : Q b H1 := q H1 fs1 r.unl (f.imp fun _ z => .inr z)
end
def xT (f : M Arg) : M Bool := fun ρ => (f ρ).bind fun a ρ1 => match look ρ1 a with
  | some (.fz (.bl b)) => .ok b ρ1
  | _ => .bad
theorem tTest_op {Z : Par} {f : M Arg} {σ : St} {H : Hp} {Q : Bool → Hp → Prop} (h : tDT Z (xT f) σ H Q) : tTest (tD Z f) σ H Q := by
  obtain ⟨T, P, ρ, fs, rp, q⟩ := h
  refine ⟨T, P, ρ, fs, rp, ?_⟩
  unfold xT at q
  cases e1 : f ρ with
  | bad => rw [e1] at q; exact q
  | ex x ρ' => rw [e1] at q; exact q
  | ok a ρ1 =>
    rw [e1] at q
    intro v H1 fs1 l1 r1 f1
    simp only [R.bind] at q
    cases c1 : look ρ1 a with
    | none => simp only [c1] at q; exact q.elim
    | some o =>
      simp only [c1] at q
      obtain ⟨g1, s1, _⟩ := RpA.see r1.rp r1.ar c1
      cases o with
      | fz d =>
        cases d with
        | bl b =>
          simp only at q
          cases (show v = .bl b from s1.2)
          exact ⟨b, rfl, Rp.test r1.rp f1 q⟩
        | _ => exact q.elim
      | _ => exact q.elim
def truO : OT → Option Bool
  | .fz .non => some false
  | .fz (.bl b) => some b
  | .fz (.int i) => some (i != 0)
  | .fz (.str s) => if s.length ≤ sizeLine then some ((s.length : Int) != 0) else none
  | .fz (.tup xs) => some (!xs.isEmpty)
  | .fz (.lst xs) => some (!xs.isEmpty)
  | .lst xs => some (!xs.isEmpty)
  | _ => none
theorem RepDs.isEmpty {K : PySem.W.Frag} {G : Hp} {ds : List Dat} {vs : List V} (h : RepDs K G ds vs) : vs.isEmpty = ds.isEmpty := by
  cases ds with
  | nil => rw [show vs = [] from h]; rfl
  | cons d r => obtain ⟨v, r', rfl, _⟩ := h; rfl
theorem RepOs.isEmpty {K : PySem.W.Frag} {G H : Hp} {ds : List OT} {vs : List V} {l : List Addr} (h : RepOs K G H ds vs l) : vs.isEmpty = ds.isEmpty := by
  cases ds with
  | nil => rw [h.1]; rfl
  | cons d r => obtain ⟨v, r', _, _, rfl, _⟩ := h; rfl
theorem tru_of {K : PySem.W.Frag} {G H : Hp} {o : OT} {v : V} {f : List Addr} {k : Bool} (e : Ex G H) (h : RepO K G H o v f) (t : truO o = some k) : TruV K v H k := by
  cases o with
  | fz d =>
    obtain ⟨_, h⟩ := h
    cases d with
    | non => cases (show v = .non from h); exact (Option.some.inj t).symm
    | bl b => cases (show v = .bl b from h); exact (Option.some.inj t).symm
    | int b => cases (show v = .int b from h); exact (Option.some.inj t).symm
    | str s =>
      cases (show v = .str s from h)
      have t : (if s.length ≤ sizeLine then some ((s.length : Int) != 0) else none) = some k := t
      by_cases hz : s.length ≤ sizeLine
      · rw [if_pos hz] at t
        exact ⟨hz, (Option.some.inj t).symm⟩
      · rw [if_neg hz] at t
        cases t
    | tup xs =>
      obtain ⟨a, vs, rfl, q, r⟩ := h
      exact .inr (.inl ⟨vs, e.sqT q, by rw [r.isEmpty]; exact (Option.some.inj t).symm⟩)
    | lst xs =>
      obtain ⟨a, vs, rfl, q, r⟩ := h
      exact .inl ⟨vs, .inl (.inl (e a _ q)), by rw [r.isEmpty]; exact (Option.some.inj t).symm⟩
    | dic xs => cases t
    | kst xs => cases t
  | lst os =>
    obtain ⟨a, vs, f, rfl, _, q, r⟩ := h
    exact .inl ⟨vs, .inl (.inl q), by rw [r.isEmpty]; exact (Option.some.inj t).symm⟩
  | dic os => cases t
def xTru (f : M Arg) : M Bool := fun ρ => (f ρ).bind fun a ρ1 => match (look ρ1 a).bind truO with
  | some b => .ok b ρ1
  | none => .bad
theorem tTru_op {Z : Par} {f : M Arg} {σ : St} {H : Hp} {Q : Bool → Hp → Prop} (h : tDT Z (xTru f) σ H Q) : tD Z f σ H fun x H' => ∃ k, TruV Z.K x H' k ∧ Q k H' := by
  obtain ⟨T, P, ρ, fs, rp, q⟩ := h
  refine ⟨T, P, ρ, fs, rp, ?_⟩
  unfold xTru at q
  cases e1 : f ρ with
  | bad => rw [e1] at q; exact q
  | ex x ρ' => rw [e1] at q; exact q
  | ok a ρ1 =>
    rw [e1] at q
    intro v H1 fs1 l1 r1 f1
    simp only [R.bind] at q
    cases c1 : look ρ1 a with
    | none => simp only [c1, Option.bind] at q; exact q.elim
    | some o =>
      simp only [c1, Option.bind] at q
      obtain ⟨g1, s1, _⟩ := RpA.see r1.rp r1.ar c1
      cases c2 : truO o with
      | none => simp only [c2] at q; exact q.elim
      | some b =>
        simp only [c2] at q
        exact ⟨b, tru_of hide_le s1 c2, Rp.test r1.rp f1 q⟩
def xAnd (f g : M Bool) : M Bool := fun ρ => (f ρ).bind fun b ρ1 => if b then g ρ1 else .ok false ρ1
def xOr (f g : M Bool) : M Bool := fun ρ => (f ρ).bind fun b ρ1 => if b then .ok true ρ1 else g ρ1
def xNot (f : M Bool) : M Bool := fun ρ => (f ρ).bind fun b ρ1 => .ok (!b) ρ1
def xIf {α : Type} (f : M Bool) (g h : M α) : M α := fun ρ => (f ρ).bind fun b ρ1 => if b then g ρ1 else h ρ1
theorem AftT.bind {Z : Par} {T : Addr → Prop} {P : Pins} {ρ : Env} {σ : St} {H : Hp} {fs : Nat → List Addr} {f : M Bool} {k : Bool → Env → R Bool} {Q R' : Bool → Hp → Prop} (q : AftT Z T P σ H fs Q ((f ρ).bind k))
    (h : ∀ b ρ1 H1 fs1, Rp Z.K T P ρ1 σ H1 fs1 → Fr H (Own fs) H1 (Own fs1) → (∀ {r : R Bool}, AftT Z T P σ H fs Q r → AftT Z T P σ H1 fs1 Q r) → AftT Z T P σ H fs Q (k b ρ1) → R' b H1) : AftT Z T P σ H fs R' (f ρ) := by
  cases e1 : f ρ with
  | bad => rw [e1] at q; exact q
  | ex x ρ' => rw [e1] at q; exact q
  | ok b ρ1 =>
    rw [e1] at q
    refine fun H1 fs1 r1 f1 => h b ρ1 H1 fs1 r1 f1 (fun {r} a => ?_) q
    cases r with
    | ok b ρ' => exact fun H2 fs2 r2 f2 => a H2 fs2 r2 (f1.trans f2)
    | ex x ρ' => exact onX.fr0 a f1
    | bad => exact a
section
variable {X : Cx} {W : WX} {pos : Pos} {a b : Expr} {rest : List Expr} {fa fb : M Arg} {ta tb : M Bool}
abbrev DW (X : Cx) (W : WX) (e : Expr) (f : M Bool) : Prop := PW X e (tDT (zp X W) f)
theorem pw_imp {X : Cx} {e : Expr} {t t' : TT} (h : PW X e t) (hi : ∀ σ H Q, t' σ H Q → t σ H Q) : PW X e t' := ⟨fun wh pins s σ H Q I q => h.run wh pins s σ H Q I (hi σ H Q q)⟩
/-- a comparison's test (h: by pt_cmpR), or any other whose value is True or False -/
theorem dt_test (h : PT X a (tTest (tD (zp X W) fa))) : DT X W a (xT fa) := pt_imp h fun _ _ _ q => tTest_op (Z := zp X W) q
theorem dt_val (h : DE X W a fa) (he : ∀ whole, isTrue a X.env whole = (do let v ← whole; standAt a.pos; holding [v] (truthy v)) := by intro _; rfl) : DT X W a (xT fa) := pt_imp (pt_val h he) fun _ _ _ q => tTest_op (Z := zp X W) q
theorem dt_tru (h : DE X W a fa) (he : ∀ whole, isTrue a X.env whole = (do let v ← whole; standAt a.pos; holding [v] (truthy v)) := by intro _; rfl) : DT X W a (xTru fa) := pt_imp (pt_truth h he) fun _ _ _ q => tTru_op (Z := zp X W) q
theorem dt_cmp {o : CmpOp} {r : R2} {op : OT → OT → Option OT} (ho : OpR X (compareOp o) r) (hk : OpOk X.K r op) (ha : DE X W a fa) (hb : DE X W b fb) (hm : behindInMarks o b = false := by first | exact nobehind _ (by decide) (by decide) | rfl) : DT X W (.Compare a [o] [b] pos) (xT (x2 op fa fb)) :=
  pt_imp (pt_cmpR ho ha hb hm) fun σ H Q q => by
    have q := tTest_op (Z := zp X W) q
    exact t2_op (Z := zp X W) hk q
theorem dt_not (h : DT X W a ta) : DT X W (.UnaryOp .Not a pos) (xNot ta) := pt_imp (pt_not h) fun σ H Q ⟨T, P, ρ, fs, rp, q⟩ =>
  ⟨T, P, ρ, fs, rp, AftT.bind (k := fun b ρ1 => .ok (!b) ρ1) q fun b ρ1 H1 fs1 r1 f1 up q => q H1 fs1 r1 f1⟩
theorem dw_and1 (h : DT X W a ta) : DW X W (.BoolOp .And [a] pos) ta := pw_and1 h
theorem dw_or1 (h : DT X W a ta) : DW X W (.BoolOp .Or [a] pos) ta := pw_or1 h
theorem dw_and (h : DT X W a ta) (h2 : DW X W (.BoolOp .And (b :: rest) pos) tb) : DW X W (.BoolOp .And (a :: b :: rest) pos) (xAnd ta tb) := pw_imp (pw_and h h2) fun σ H Q ⟨T, P, ρ, fs, rp, q⟩ =>
  ⟨T, P, ρ, fs, rp, AftT.bind (k := fun b ρ1 => if b then tb ρ1 else .ok false ρ1) q fun b ρ1 H1 fs1 r1 f1 up q => by
    cases b with
    | true => exact ⟨T, P, ρ1, fs1, r1, up q⟩
    | false => exact q H1 fs1 r1 f1⟩
theorem dw_or (h : DT X W a ta) (h2 : DW X W (.BoolOp .Or (b :: rest) pos) tb) : DW X W (.BoolOp .Or (a :: b :: rest) pos) (xOr ta tb) := pw_imp (pw_or h h2) fun σ H Q ⟨T, P, ρ, fs, rp, q⟩ =>
  ⟨T, P, ρ, fs, rp, AftT.bind (k := fun b ρ1 => if b then .ok true ρ1 else tb ρ1) q fun b ρ1 H1 fs1 r1 f1 up q => by
    cases b with
    | true => exact q H1 fs1 r1 f1
    | false => exact ⟨T, P, ρ1, fs1, r1, up q⟩⟩
theorem dt_bo (h : DW X W a ta) : DT X W a ta := h.pt
theorem AftT.bindD {Z : Par} {T : Addr → Prop} {P : Pins} {ρ : Env} {σ : St} {H : Hp} {fs : Nat → List Addr} {f : M Bool} {k : Bool → Env → R Arg} {Q : VK} {R' : Bool → Hp → Prop} (q : Aft Z T P σ H fs Q ((f ρ).bind k))
    (h : ∀ b ρ1 H1 fs1, Rp Z.K T P ρ1 σ H1 fs1 → Fr H (Own fs) H1 (Own fs1) → (∀ {r : R Arg}, Aft Z T P σ H fs Q r → Aft Z T P σ H1 fs1 Q r) → Aft Z T P σ H fs Q (k b ρ1) → R' b H1) : AftT Z T P σ H fs R' (f ρ) := by
  cases e1 : f ρ with
  | bad => rw [e1] at q; exact q
  | ex x ρ' => rw [e1] at q; exact q
  | ok b ρ1 =>
    rw [e1] at q
    refine fun H1 fs1 r1 f1 => h b ρ1 H1 fs1 r1 f1 (fun {r} a => ?_) q
    cases r with
    | ok b ρ' => exact fun v H2 fs2 l2 r2 f2 => a v H2 fs2 l2 r2 (f1.trans f2)
    | ex x ρ' => exact onX.fr0 a f1
    | bad => exact a
theorem de_if {c : Expr} (hc : DT X W c ta) (ha : DE X W a fa) (hb : DE X W b fb) : DE X W (.IfExp c a b pos) (xIf ta fa fb) := pe_imp (pe_ifExp hc ha hb) fun σ H Q ⟨T, P, ρ, fs, rp, q⟩ =>
  ⟨T, P, ρ, fs, rp, AftT.bindD (k := fun b ρ1 => if b then fa ρ1 else fb ρ1) q fun b ρ1 H1 fs1 r1 f1 up q => by
    cases b with
    | true => exact ⟨T, P, ρ1, fs1, r1, up q⟩
    | false => exact ⟨T, P, ρ1, fs1, r1, up q⟩⟩
end
end Lay

namespace Lay
open PySem PySem.Spec L2

/-! ### statements -/
inductive SR where
  | nx (ρ : Env)
  | rt (o : OT) (ρ : Env)
  | bk (ρ : Env)
  | ct (ρ : Env)
  | ex (x : Exn) (ρ : Env)
  | bad
abbrev SM := Env → SR
def AftN (Z : Par) (T : Addr → Prop) (P : Pins) (H : Hp) (fs : Nat → List Addr) (N : St → Hp → Prop) (ρ' : Env) : Prop :=
  ∀ σ' H' fs', Rp Z.K T P ρ' σ' H' fs' → Fr H (Own fs) H' (Own fs') → N σ' H'
def AftS (Z : Par) (T : Addr → Prop) (P : Pins) (H : Hp) (fs : Nat → List Addr) (D : Ends) : SR → Prop
  | .nx ρ' => AftN Z T P H fs D.nx ρ'
  | .bk ρ' => AftN Z T P H fs D.bk ρ'
  | .ct ρ' => AftN Z T P H fs D.ct ρ'
  | .rt o ρ' => ∀ v σ' H' fs' l, RpA Z.K T P ρ' σ' H' fs' (.tmp o) v l → Fr H (Own fs) H' (Ow l fs') → D.rt v H'
  | .ex x ρ' => onX Z T P H fs x ρ'
  | .bad => False
def tS (Z : Par) (g : SM) : TS := fun D σ H => ∃ T P ρ fs, Rp Z.K T P ρ σ H fs ∧ AftS Z T P H fs D (g ρ)
abbrev DS (X : Cx) (W : WX) (st : Stmt) (g : SM) : Prop := PS X st (tS (zp X W) g)
abbrev DSs (X : Cx) (W : WX) (st : List Stmt) (g : SM) : Prop := PSs X st (tS (zp X W) g)
section
variable {Z : Par} {T : Addr → Prop} {P : Pins} {H H1 : Hp} {fs fs1 : Nat → List Addr} {D : Ends} {ρ : Env} {σ : St}
theorem AftN.fr {N : St → Hp → Prop} (h : AftN Z T P H fs N ρ) (f : Fr H (Own fs) H1 (Own fs1)) : AftN Z T P H1 fs1 N ρ := fun σ' H' fs' r f' => h σ' H' fs' r (f.trans f')
theorem AftS.fr {r : SR} (h : AftS Z T P H fs D r) (f : Fr H (Own fs) H1 (Own fs1)) : AftS Z T P H1 fs1 D r := by
  cases r with
  | nx ρ' => exact AftN.fr h f
  | bk ρ' => exact AftN.fr h f
  | ct ρ' => exact AftN.fr h f
  | rt o ρ' => exact fun v σ' H' fs' l r f' => h v σ' H' fs' l r (f.trans f')
  | ex x ρ' => exact onX.fr0 h f
  | bad => exact h
end
def sNx : SM := fun ρ => .nx ρ
def sSeq (g h : SM) : SM := fun ρ => match g ρ with
  | .nx ρ1 => h ρ1
  | r => r
def sBk : SM := fun ρ => .bk ρ
def sCt : SM := fun ρ => .ct ρ
def RS {α : Type} (r : R α) (k : α → Env → SR) : SR := match r with
  | .ok a ρ => k a ρ
  | .ex x ρ => .ex x ρ
  | .bad => .bad
def sIf (f : M Bool) (g h : SM) : SM := fun ρ => RS (f ρ) fun b ρ1 => if b then g ρ1 else h ρ1
/-- what a def hands back -/
def giveBack (ρ : Env) : Arg → Option (OT × Env)
  | .tmp o => some (o, ρ)
  | .slot i => match ρ[i]? with
    | some (.vl o) => some (o, ρ.set i .un)
    | some (.io (.fz d)) => some (.fz d, ρ)
    | some (.lk (.fz d)) => some (.fz d, ρ)
    | _ => none
def sRet (f : M Arg) : SM := fun ρ => RS (f ρ) fun a ρ1 => match giveBack ρ1 a with
  | some (o, ρ2) => .rt o ρ2
  | none => .bad
def sRetN : SM := fun ρ => .rt (.fz .non) ρ
def sExpr (f : M Arg) : SM := fun ρ => RS (f ρ) fun _ ρ1 => .nx ρ1
section
variable {X : Cx} {W : WX} {pos : Pos} {st : Stmt} {rest : List Stmt} {g h : SM} {e : Expr} {fe : M Arg}
theorem dss_nil : DSs X W [] sNx := pss_imp pss_nil fun D σ H ⟨T, P, ρ, fs, r, q⟩ => q σ H fs r Fr.refl
theorem dss_one (h1 : DS X W st g) : DSs X W [st] g := pss_one h1
theorem dss_cons (h1 : DS X W st g) (h2 : DSs X W rest h) : DSs X W (st :: rest) (sSeq g h) := pss_imp (pss_cons h1 h2) fun D σ H ⟨T, P, ρ, fs, r, q⟩ => by
  refine ⟨T, P, ρ, fs, r, ?_⟩
  unfold sSeq at q
  cases e1 : g ρ with
  | nx ρ1 =>
    rw [e1] at q
    exact fun σ1 H1 fs1 r1 f1 => ⟨T, P, ρ1, fs1, r1, AftS.fr q f1⟩
  | bk ρ' => rw [e1] at q; exact q
  | ct ρ' => rw [e1] at q; exact q
  | rt o ρ' => rw [e1] at q; exact q
  | ex x ρ' => rw [e1] at q; exact q
  | bad => rw [e1] at q; exact q
theorem ds_pass : DS X W (.Pass pos) sNx := ps_imp ps_pass fun D σ H ⟨T, P, ρ, fs, r, q⟩ => q σ H fs r Fr.refl
theorem ds_break : DS X W (.Break pos) sBk := ps_imp ps_break fun D σ H ⟨T, P, ρ, fs, r, q⟩ => q σ H fs r Fr.refl
theorem ds_continue : DS X W (.Continue pos) sCt := ps_imp ps_continue fun D σ H ⟨T, P, ρ, fs, r, q⟩ => q σ H fs r Fr.refl
theorem AftS.bindT {Z : Par} {T : Addr → Prop} {P : Pins} {ρ : Env} {σ : St} {H : Hp} {fs : Nat → List Addr} {f : M Bool} {k : Bool → Env → SR} {D : Ends} {R' : Bool → Hp → Prop} (q : AftS Z T P H fs D (RS (f ρ) k))
    (h : ∀ b ρ1 H1 fs1, Rp Z.K T P ρ1 σ H1 fs1 → Fr H (Own fs) H1 (Own fs1) → AftS Z T P H1 fs1 D (k b ρ1) → R' b H1) : AftT Z T P σ H fs R' (f ρ) := by
  cases e1 : f ρ with
  | bad => rw [e1] at q; exact q
  | ex x ρ' => rw [e1] at q; exact q
  | ok b ρ1 =>
    rw [e1] at q
    exact fun H1 fs1 r1 f1 => h b ρ1 H1 fs1 r1 f1 (AftS.fr q f1)
theorem ds_if {c : Expr} {a b : List Stmt} {tc : M Bool} (hc : DT X W c tc) (ha : DSs X W a g) (hb : DSs X W b h) : DS X W (.If c a b pos) (sIf tc g h) := ps_imp (ps_if hc ha hb) fun D σ H ⟨T, P, ρ, fs, r, q⟩ =>
  ⟨T, P, ρ, fs, r, AftS.bindT (k := fun b ρ1 => if b then g ρ1 else h ρ1) q fun b ρ1 H1 fs1 r1 f1 q => by
    cases b with
    | true => exact ⟨T, P, ρ1, fs1, r1, q⟩
    | false => exact ⟨T, P, ρ1, fs1, r1, q⟩⟩
/-- the names without what one owned -/
theorem Rp.drop {K : PySem.W.Frag} {T : Addr → Prop} {P : Pins} {ρ : Env} {σ : St} {H : Hp} {fs : Nat → List Addr} (r : Rp K T P ρ σ H fs) {i : Nat} {o : OT} (h : ρ[i]? = some (.vl o)) :
    Rp K (Tl T (fs i)) P (ρ.set i .un) σ H (fset fs i []) ∧ ∃ v, σ[i]? = some (some v) ∧ RepO K (hide (Hd (Tl T (fs i)) (fset fs i [])) H) H o v (fs i) := by
  obtain ⟨x, hx, v, rfl, hp, q⟩ := r.slot i _ h
  have hlt : i < ρ.length := (List.getElem?_eq_some_iff.mp h).1
  have eq : ∀ a, Hd (Tl T (fs i)) (fset fs i []) a → Hd T fs a := fun a z => by
    rcases z with (z | z) | ⟨j, hj⟩
    · exact .inl z
    · exact .inr ⟨i, z⟩
    · by_cases e : j = i
      · subst e; rw [fset_same] at hj; cases hj
      · rw [fset_ne e] at hj; exact .inr ⟨j, hj⟩
  have ex : Ex (hide (Hd T fs) H) (hide (Hd (Tl T (fs i)) (fset fs i [])) H) := hide_ex fun a x n e => ⟨fun z => n (eq a z), e⟩
  refine ⟨⟨fun j s e => ?_, fun j e => ?_, fun j => ?_, fun j k a h1 h2 => ?_, fun a o z => ?_, fun a z => ?_, fun j p e => (let ⟨s, h⟩ := r.pl j p e; set_some h)⟩, v, hx, RepO.mono ex o v _ (fun _ _ _ e => e) q⟩
  · by_cases hj : j = i
    · subst hj
      rw [List.getElem?_set_self hlt] at e
      cases e
      exact ⟨_, hx, fset_same, hp⟩
    · rw [List.getElem?_set_ne (Ne.symm hj)] at e
      obtain ⟨y, h1, h2⟩ := r.slot j s e
      rw [fset_ne hj]
      exact ⟨y, h1, h2.mono ex fun _ _ _ e => e⟩
  · by_cases hj : j = i
    · subst hj; exact fset_same
    · rw [List.getElem?_set_ne (Ne.symm hj)] at e
      rw [fset_ne hj]
      exact r.out j e
  · by_cases hj : j = i
    · subst hj; rw [fset_same]; exact .nil
    · rw [fset_ne hj]; exact r.nd j
  · by_cases hj : j = i
    · subst hj; rw [fset_same] at h1; cases h1
    · by_cases hk : k = i
      · subst hk; rw [fset_same] at h2; cases h2
      · rw [fset_ne hj] at h1; rw [fset_ne hk] at h2; exact r.dj j k a h1 h2
  · obtain ⟨j, hj⟩ := o
    by_cases e : j = i
    · subst e; rw [fset_same] at hj; cases hj
    · rw [fset_ne e] at hj
      rcases z with z | z
      · exact r.tf a ⟨j, hj⟩ z
      · exact e (r.dj j i a hj z)
  · rcases z with z | z
    · exact r.ta a z
    · exact r.owned ⟨i, z⟩
theorem giveBack_ok {K : PySem.W.Frag} {T : Addr → Prop} {P : Pins} {ρ ρ2 : Env} {σ : St} {H : Hp} {fs : Nat → List Addr} {a : Arg} {v : V} {l : List Addr} {o : OT} (r : RpA K T P ρ σ H fs a v l) (e : giveBack ρ a = some (o, ρ2)) :
    ∃ fs2 l2, RpA K T P ρ2 σ H fs2 (.tmp o) v l2 ∧ (∀ b, Ow l2 fs2 b → Ow l fs b) := by
  cases a with
  | tmp o' =>
    cases e
    exact ⟨fs, l, r, fun _ z => z⟩
  | slot i =>
    obtain ⟨rp, nd, nt, rfl, hv⟩ := r
    have e : (match ρ[i]? with
      | some (.vl o) => some (o, ρ.set i .un)
      | some (.io (.fz d)) => some (OT.fz d, ρ)
      | some (.lk (.fz d)) => some (.fz d, ρ)
      | _ => none) = some (o, ρ2) := e
    rw [Tl_nil] at rp
    cases es : ρ[i]? with
    | none => simp [es] at e
    | some s =>
      have fzs : ∀ d, slv (some s) = some (.fz d) → RepO K (hide (Hd T fs) H) H (.fz d) v [] := fun d e2 => by
        obtain ⟨x, hx, q⟩ := rp.slot i s es
        obtain ⟨w, hw, q⟩ := slv_of q e2
        rw [hv] at hx
        cases hx
        cases hw
        exact ⟨rfl, q.2⟩
      cases s with
      | un => simp [es] at e
      | vl o' =>
        simp only [es, Option.some.injEq, Prod.mk.injEq] at e
        obtain ⟨rfl, rfl⟩ := e
        obtain ⟨h1, v', h2, h3⟩ := rp.drop es
        rw [hv] at h2
        cases h2
        refine ⟨_, fs i, ⟨h1, rp.nd i, fun b hb z => rp.tf b ⟨i, hb⟩ z, h3⟩, fun b z => ?_⟩
        rcases z with z | ⟨j, hj⟩
        · exact .inr ⟨i, z⟩
        · by_cases e : j = i
          · subst e; rw [fset_same] at hj; cases hj
          · rw [fset_ne e] at hj; exact .inr ⟨j, hj⟩
      | io o' =>
        cases o' with
        | fz d =>
          simp only [es, Option.some.injEq, Prod.mk.injEq] at e
          obtain ⟨rfl, rfl⟩ := e
          exact ⟨fs, [], ⟨(by rw [Tl_nil]; exact rp), .nil, (fun _ z => nomatch z), (by rw [Tl_nil]; exact fzs d rfl)⟩, fun _ z => z⟩
        | _ => simp [es] at e
      | lk o' =>
        cases o' with
        | fz d =>
          simp only [es, Option.some.injEq, Prod.mk.injEq] at e
          obtain ⟨rfl, rfl⟩ := e
          exact ⟨fs, [], ⟨(by rw [Tl_nil]; exact rp), .nil, (fun _ z => nomatch z), (by rw [Tl_nil]; exact fzs d rfl)⟩, fun _ z => z⟩
        | _ => simp [es] at e
theorem ds_ret (he : DE X W e fe) : DS X W (.Return (some e) pos) (sRet fe) := ps_imp (ps_ret he) fun D σ H ⟨T, P, ρ, fs, r, q⟩ => by
  refine ⟨T, P, ρ, fs, r, ?_⟩
  unfold sRet at q
  cases e1 : fe ρ with
  | bad => rw [e1] at q; exact q
  | ex x ρ' => rw [e1] at q; exact q
  | ok a ρ1 =>
    rw [e1] at q
    simp only [RS] at q
    intro v H1 fs1 l1 r1 f1
    cases c1 : giveBack ρ1 a with
    | none => simp only [c1] at q; exact q.elim
    | some p =>
      obtain ⟨o, ρ2⟩ := p
      simp only [c1] at q
      obtain ⟨fs2, l2, r2, s2⟩ := giveBack_ok r1 c1
      exact q v σ H1 fs2 l2 r2 (f1.imp s2)
theorem ds_retN : DS X W (.Return none pos) sRetN := ps_imp ps_retN fun D σ H ⟨T, P, ρ, fs, r, q⟩ =>
  q .non σ H fs [] ⟨r.tl0, .nil, (fun _ z => nomatch z), rfl, rfl⟩ (Fr.refl.imp fun x z => z.elim (fun z => nomatch z) id)
theorem ds_expr (he : DE X W e fe) (hs : swapsWith e none pos.line X.env = pure false := by rfl) : DS X W (.Expr e pos) (sExpr fe) := ps_imp (ps_expr he hs) fun D σ H ⟨T, P, ρ, fs, r, q⟩ => by
  refine ⟨T, P, ρ, fs, r, ?_⟩
  unfold sExpr at q
  cases e1 : fe ρ with
  | bad => rw [e1] at q; exact q
  | ex x ρ' => rw [e1] at q; exact q
  | ok a ρ1 =>
    rw [e1] at q
    exact fun v H1 fs1 l1 r1 f1 => q σ H1 fs1 r1.rp.unl (f1.imp fun _ z => .inr z)
end

/-! ### targets -/
abbrev TM := OT → Env → R Unit
/-- the same slots but those of S -/
def SB (S : List Nat) (σ σ' : St) : Prop := σ'.length = σ.length ∧ ∀ j, j ∉ S → σ'[j]? = σ[j]?
theorem SB.refl (S : List Nat) (σ : St) : SB S σ σ := ⟨rfl, fun _ _ => rfl⟩
theorem SB.trans {S : List Nat} {σ σ1 σ2 : St} (a : SB S σ σ1) (b : SB S σ1 σ2) : SB S σ σ2 := ⟨b.1.trans a.1, fun j h => (b.2 j h).trans (a.2 j h)⟩
theorem SB.mono {S S' : List Nat} {σ σ1 : St} (a : SB S σ σ1) (h : ∀ j ∈ S, j ∈ S') : SB S' σ σ1 := ⟨a.1, fun j hj => a.2 j fun z => hj (h j z)⟩
theorem SB.set {i : Nat} {σ : St} {x : Option V} : SB [i] σ (σ.set i x) := ⟨List.length_set, fun j h => List.getElem?_set_ne fun e => h (by rw [e]; exact List.mem_cons_self)⟩
def AftG (Z : Par) (T : Addr → Prop) (P : Pins) (S : List Nat) (σ : St) (H : Hp) (own : Addr → Prop) (Q : St → Hp → Prop) : R Unit → Prop
  | .ok _ ρ' => ∀ σ' H' fs', SB S σ σ' → Rp Z.K T P ρ' σ' H' fs' → Fr H own H' (Own fs') → Q σ' H'
  | .ex x ρ' => ∀ cls d σ' H' fs', RpX Z.K Z.mg (hide (Hd T fs') H') H' x cls d → Rp Z.K T P ρ' σ' H' fs' → Fr H own H' (Own fs') → Z.W cls d σ' H'
  | .bad => False
def gD (Z : Par) (S : List Nat) (g : TM) : TG := fun v σ H Q => ∃ T P ρ fs o l, RpA Z.K T P ρ σ H fs (.tmp o) v l ∧ AftG Z T P S σ H (Ow l fs) Q (g o ρ)
abbrev DG (X : Cx) (W : WX) (e : Expr) (S : List Nat) (g : TM) : Prop := PG X e (gD (zp X W) S g)
theorem pg_imp {X : Cx} {e : Expr} {t t' : TG} (h : PG X e t) (hi : ∀ v σ H Q, t' v σ H Q → t v σ H Q) : PG X e t' := ⟨fun pins s σ H v u Q I r q => h.run pins s σ H v u Q I r (hi v σ H Q q)⟩
def gNm (i : Nat) : TM := fun o ρ => match ρ[i]? with
  | some .un => .ok () (ρ.set i (.vl o))
  | some (.vl _) => .ok () (ρ.set i (.vl o))
  | _ => .bad
theorem RpA.store {K : PySem.W.Frag} {T : Addr → Prop} {P : Pins} {ρ : Env} {σ : St} {H : Hp} {fs : Nat → List Addr} {o : OT} {v : V} {l : List Addr} (r : RpA K T P ρ σ H fs (.tmp o) v l) {i : Nat} (h : ρ[i]? = some .un ∨ ∃ o', ρ[i]? = some (.vl o')) :
    Rp K T P (ρ.set i (.vl o)) (σ.set i (some v)) H (fset fs i l) ∧ (∀ a, Own (fset fs i l) a → Ow l fs a) := by
  have hp : P i = none := by
    rcases h with h | ⟨o', h⟩
    · obtain ⟨x, _, q⟩ := r.rp.slot i _ h
      exact q.2
    · obtain ⟨x, _, v', _, hp, _⟩ := r.rp.slot i _ h
      exact hp
  have hlt : i < ρ.length := by
    rcases h with h | ⟨o', h⟩ <;> exact (List.getElem?_eq_some_iff.mp h).1
  have hσ : i < σ.length := by
    rcases h with h | ⟨o', h⟩
    · obtain ⟨x, hx, _⟩ := r.rp.slot i _ h
      exact (List.getElem?_eq_some_iff.mp hx).1
    · obtain ⟨x, hx, _⟩ := r.rp.slot i _ h
      exact (List.getElem?_eq_some_iff.mp hx).1
  have sub : ∀ a, Own (fset fs i l) a → Ow l fs a := fun a ⟨j, hj⟩ => by
    by_cases e : j = i
    · subst e; rw [fset_same] at hj; exact .inl hj
    · rw [fset_ne e] at hj; exact .inr ⟨j, hj⟩
  have ex : Ex (hide (Hd (Tl T l) fs) H) (hide (Hd T (fset fs i l)) H) := hide_ex fun a x n e => ⟨fun z => by
    rcases z with z | z
    · exact n (.inl (.inl z))
    · rcases sub a z with z | z
      · exact n (.inl (.inr z))
      · exact n (.inr z), e⟩
  refine ⟨⟨fun j s e => ?_, fun j e => ?_, fun j => ?_, fun j k a h1 h2 => ?_, fun a z t => ?_, fun a z => r.rp.ta a (.inl z), fun j p e => (let ⟨s, h⟩ := r.rp.pl j p e; set_some h)⟩, sub⟩
  · by_cases hj : j = i
    · subst hj
      rw [List.getElem?_set_self hlt] at e
      cases e
      refine ⟨_, List.getElem?_set_self hσ, v, rfl, hp, ?_⟩
      rw [fset_same]
      exact RepO.mono ex o v l (fun _ _ _ e => e) r.ar
    · rw [List.getElem?_set_ne (Ne.symm hj)] at e
      obtain ⟨y, h1, h2⟩ := r.rp.slot j s e
      rw [fset_ne hj, List.getElem?_set_ne (Ne.symm hj)]
      exact ⟨y, h1, h2.mono ex fun _ _ _ e => e⟩
  · by_cases hj : j = i
    · subst hj
      rw [List.getElem?_set_self hlt] at e
      cases e
    · rw [List.getElem?_set_ne (Ne.symm hj)] at e
      rw [fset_ne hj]
      exact r.rp.out j e
  · by_cases hj : j = i
    · subst hj; rw [fset_same]; exact r.nd
    · rw [fset_ne hj]; exact r.rp.nd j
  · by_cases hj : j = i
    · by_cases hk : k = i
      · rw [hj, hk]
      · subst hj
        rw [fset_same] at h1
        rw [fset_ne hk] at h2
        exact absurd (show Tl T l a from .inr h1) (r.rp.tf a ⟨k, h2⟩)
    · by_cases hk : k = i
      · subst hk
        rw [fset_same] at h2
        rw [fset_ne hj] at h1
        exact absurd (show Tl T l a from .inr h2) (r.rp.tf a ⟨j, h1⟩)
      · rw [fset_ne hj] at h1
        rw [fset_ne hk] at h2
        exact r.rp.dj j k a h1 h2
  · rcases sub a z with z | z
    · exact r.nt a z t
    · exact r.rp.tf a z (.inl t)
section
variable {X : Cx} {W : WX} {pos : Pos}
theorem dg_name {i : Nat} {e : Expr} (h : PG X e (gName i)) : DG X W e [i] (gNm i) := pg_imp h fun v σ H Q ⟨T, P, ρ, fs, o, l, r, q⟩ => by
  unfold gNm at q
  cases es : ρ[i]? with
  | none => simp only [es] at q; exact q.elim
  | some s =>
    cases s with
    | un =>
      simp only [es] at q
      obtain ⟨h1, h2⟩ := r.store (.inl es)
      exact q _ H _ SB.set h1 (Fr.refl.imp h2)
    | vl o' =>
      simp only [es] at q
      obtain ⟨h1, h2⟩ := r.store (.inr ⟨o', es⟩)
      exact q _ H _ SB.set h1 (Fr.refl.imp h2)
    | io o' => simp only [es] at q; exact q.elim
    | lk o' => simp only [es] at q; exact q.elim
/-- target = value -/
def sAsg (f : M Arg) (g : TM) : SM := fun ρ => RS (f ρ) fun a ρ1 => match take1 ρ1 a with
  | some (o, ρ2) => RS (g o ρ2) fun _ ρ3 => .nx ρ3
  | none => .bad
theorem tAsg_op {Z : Par} {f : M Arg} {S : List Nat} {g : TM} {D : Ends} {σ : St} {H : Hp} (h : tS Z (sAsg f g) D σ H) : tAsg (tD Z f) (gD Z S g) D σ H := by
  obtain ⟨T, P, ρ, fs, r, q⟩ := h
  refine ⟨T, P, ρ, fs, r, ?_⟩
  unfold sAsg at q
  cases e1 : f ρ with
  | bad => rw [e1] at q; exact q
  | ex x ρ' => rw [e1] at q; exact q
  | ok a ρ1 =>
    rw [e1] at q
    simp only [RS] at q
    intro v H1 fs1 l1 r1 f1
    cases c1 : take1 ρ1 a with
    | none => simp only [c1] at q; exact q.elim
    | some p =>
      obtain ⟨o, ρ2⟩ := p
      simp only [c1] at q
      obtain ⟨fs2, r2, s2, p2⟩ := take1_ok r1.rp r1.ar c1
      refine ⟨T, P, ρ2, fs2, o, l1, ⟨r2, r1.nd, r1.nt, p2⟩, ?_⟩
      have ff : Fr H (Own fs) H1 (Ow l1 fs2) := f1.imp fun x z => z.imp id (s2 x)
      cases e2 : g o ρ2 with
      | bad => rw [e2] at q; exact q
      | ex x ρ' => rw [e2] at q; exact fun cls d σ' H' fs' rx rp fr => q cls d σ' H' fs' rx rp (ff.trans fr)
      | ok u ρ3 => rw [e2] at q; exact fun σ' H' fs' _ rp fr => q σ' H' fs' rp (ff.trans fr)
theorem ds_asg {tg e : Expr} {fe : M Arg} {S : List Nat} {g : TM} (he : DE X W e fe) (hg : DG X W tg S g) (hs : swapsWithSole [tg] e pos.line X.env = pure false := by rfl) (hw : swappedStores [tg] e X.env = pure none := by rfl)
    (h1 : (assignEach [tg] X.env).map (·.2) = [assign tg X.env] := by rfl) : DS X W (.Assign [tg] e pos) (sAsg fe g) := ps_imp (ps_asg he hg hs hw h1) fun D σ H h => tAsg_op (Z := zp X W) h
/-- any form of tAsg -/
theorem ds_asgT {st : Stmt} {fe : M Arg} {S : List Nat} {g : TM} (h : PS X st (tAsg (tD (zp X W) fe) (gD (zp X W) S g))) : DS X W st (sAsg fe g) := ps_imp h fun D σ H h => tAsg_op (Z := zp X W) h
theorem gNm_name {i : Nat} {v : V} {σ : St} {H : Hp} {Q : St → Hp → Prop} {Z : Par} (h : gD Z [i] (gNm i) v σ H Q) : gName i v σ H Q := by
  obtain ⟨T, P, ρ, fs, o, l, r, q⟩ := h
  unfold gNm at q
  cases es : ρ[i]? with
  | none => simp only [es] at q; exact q.elim
  | some s =>
    cases s with
    | un =>
      simp only [es] at q
      obtain ⟨h1, h2⟩ := r.store (.inl es)
      exact q _ H _ SB.set h1 (Fr.refl.imp h2)
    | vl o' =>
      simp only [es] at q
      obtain ⟨h1, h2⟩ := r.store (.inr ⟨o', es⟩)
      exact q _ H _ SB.set h1 (Fr.refl.imp h2)
    | io o' => simp only [es] at q; exact q.elim
    | lk o' => simp only [es] at q; exact q.elim
/-- name = value, by ps_set or ps_setLc -/
theorem ds_set {st : Stmt} {fe : M Arg} {i : Nat} (h : PS X st (tAsg (tD (zp X W) fe) (gName i))) : DS X W st (sAsg fe (gNm i)) := ps_imp h fun D σ H q => by
  have q := tAsg_op (Z := zp X W) (S := [i]) q
  obtain ⟨T, P, ρ, fs, r, q⟩ := q
  refine ⟨T, P, ρ, fs, r, ?_⟩
  cases e1 : fe ρ with
  | bad => rw [e1] at q; exact q
  | ex x ρ' => rw [e1] at q; exact q
  | ok a ρ1 => rw [e1] at q; exact fun v H1 fs1 l1 r1 f1 => gNm_name (q v H1 fs1 l1 r1 f1)
end
end Lay

namespace Lay
open PySem PySem.Spec L2

/-! ### tuple targets -/
def gSeq : List TM → List OT → Env → R Unit
  | [], [], ρ => .ok () ρ
  | g :: gs, o :: os, ρ => (g o ρ).bind fun _ ρ1 => gSeq gs os ρ1
  | _, _, _ => .bad
def gTu (gs : List TM) : TM := fun o ρ => match o with
  | .fz (.tup ds) => if ds.length = gs.length then gSeq gs (ds.map .fz) ρ else .bad
  | _ => .bad
def gLs (gs : List TM) : TM := fun o ρ => match o with
  | .fz (.lst ds) => if ds.length = gs.length then gSeq gs (ds.map .fz) ρ else .bad
  | .lst os => if os.length = gs.length then gSeq gs os ρ else .bad
  | _ => .bad
def gsD (Z : Par) (S : List Nat) (gs : List TM) : TGs := fun vs σ H Q => ∃ T P ρ fs os l, Rp Z.K (Tl T l) P ρ σ H fs ∧ l.Nodup ∧ (∀ b ∈ l, ¬ T b) ∧ RepOs Z.K (hide (Hd (Tl T l) fs) H) H os vs l ∧ AftG Z T P S σ H (Ow l fs) Q (gSeq gs os ρ)
abbrev DGs (X : Cx) (W : WX) (es : List Expr) (S : List Nat) (gs : List TM) : Prop := PGs X es (gsD (zp X W) S gs)
theorem pgs_imp {X : Cx} {es : List Expr} {t t' : TGs} (h : PGs X es t) (hi : ∀ v σ H Q, t' v σ H Q → t v σ H Q) : PGs X es t' := ⟨fun pins s σ H v u Q I r q => h.run pins s σ H v u Q I r (hi v σ H Q q)⟩
section
variable {X : Cx} {W : WX} {pos : Pos} {e : Expr} {es : List Expr} {g : TM} {gs : List TM} {S S' : List Nat}
theorem dgs_nil : DGs X W [] [] [] := pgs_imp pgs_nil fun vs σ H Q ⟨T, P, ρ, fs, os, l, r, nd, nt, ro, q⟩ => by
  cases os with
  | nil => exact ⟨ro.1, q σ H fs (SB.refl _ _) r.unl (Fr.refl.imp fun x z => .inr z)⟩
  | cons o os => exact q.elim
theorem dgs_cons (h1 : DG X W e S g) (h2 : DGs X W es S' gs) (hs : (assignEach (e :: es) X.env).map (·.2) = assign e X.env :: (assignEach es X.env).map (·.2) := by rfl) : DGs X W (e :: es) (S ++ S') (g :: gs) :=
  pgs_imp (pgs_cons h1 h2 hs) fun vs σ H Q ⟨T, P, ρ, fs, os, l, r, nd, nt, ro, q⟩ => by
    cases os with
    | nil => exact q.elim
    | cons o os =>
      obtain ⟨v, r', l1, l2, rfl, rfl, q1, q2⟩ := ro
      have nd1 := (List.nodup_append.mp nd)
      have e12 : Tl (Tl T l2) l1 = Tl T (l1 ++ l2) := by
        funext b
        simp only [Tl, List.mem_append, eq_iff_iff]
        constructor
        · rintro ((z | z) | z) <;> simp [z]
        · rintro (z | z | z) <;> simp [z]
      have r0 := r
      have ro2 := q2
      rw [← e12] at r q1 q2
      refine ⟨v, r', rfl, Tl T l2, P, ρ, fs, o, l1, ⟨r, nd1.1, fun b hb z => ?_, q1⟩, ?_⟩
      · rcases z with z | z
        · exact nt b (List.mem_append_left _ hb) z
        · exact nd1.2.2 b hb b z rfl
      · cases e1 : g o ρ with
        | bad => simp only [gSeq, e1, R.bind] at q; exact q
        | ex x ρ' =>
          simp only [gSeq, e1, R.bind] at q
          intro cls d σ' H' fs' rx rp fr
          have gx : Ex (hide (Hd (Tl T l2) fs') H') (hide (Hd T fs') H') := hide_ex fun a y hn e => ⟨fun z => hn (z.imp Or.inl id), e⟩
          have mf : ∀ {l1 : List (Str × Dat)} {vs}, RepF X.K (hide (Hd (Tl T l2) fs') H') l1 vs → RepF X.K (hide (Hd T fs') H') l1 vs := by
            intro l1
            induction l1 with
            | nil => intro vs h; exact h
            | cons p r ih => 
              intro vs h
              obtain ⟨n, dd⟩ := p
              obtain ⟨v, r', rfl, q, q2⟩ := h
              exact ⟨v, r', rfl, RepD.mono gx dd v q, ih q2⟩
          obtain ⟨rx1, vs, rx2, rx3⟩ := rx
          refine q cls d σ' H' fs' ⟨rx1, vs, mf rx2, rx3⟩ rp.unl fun a y e n => ?_
          exact fr a y e fun z => n (z.elim (fun z => .inl (List.mem_append_left _ z)) .inr)
        | ok u ρ1 =>
          simp only [gSeq, e1, R.bind] at q
          intro σ1 H1 fs1 sb1 r1 f1
          have keep : ∀ b ∈ l2, ∀ x, H b = some x → H1 b = some x := fun b hb x e => (f1 b x e fun z => by
            rcases z with z | z
            · exact nd1.2.2 b z b hb rfl
            · exact r0.tf b z (.inr (List.mem_append_right _ hb))).1
          refine ⟨T, P, ρ1, fs1, os, l2, r1, nd1.2.1, fun b hb => nt b (List.mem_append_right _ hb), ?_, ?_⟩
          · refine RepOs.mono (hide_ex fun a x n e => ?_) os r' l2 keep ro2
            have n2 : ¬ Ow l1 fs a := fun z => by
              rcases z with z | z
              · exact n (.inl (.inr (List.mem_append_left _ z)))
              · exact n (.inr z)
            obtain ⟨h1, n1⟩ := f1 a x e n2
            refine ⟨?_, h1⟩
            rintro ((z | z) | z)
            · exact n (.inl (.inl z))
            · exact n (.inl (.inr (List.mem_append_right _ z)))
            · exact n1 z
          · have ff : ∀ {H' : Hp} {o' : Addr → Prop}, Fr H1 (Ow l2 fs1) H' o' → Fr H (Ow (l1 ++ l2) fs) H' o' := fun f2 a x e n => by
              obtain ⟨h1, n1⟩ := f1 a x e fun z => n (z.imp (List.mem_append_left _) id)
              refine f2 a x h1 fun z => ?_
              rcases z with z | z
              · exact n (.inl (List.mem_append_right _ z))
              · exact n1 z
            cases e2 : gSeq gs os ρ1 with
            | bad => rw [e2] at q; exact q
            | ex x ρ' => rw [e2] at q; exact fun cls d σ' H' fs' rx rp fr => q cls d σ' H' fs' rx rp (ff fr)
            | ok u ρ2 => rw [e2] at q; exact fun σ' H' fs' sb rp fr => q σ' H' fs' ((sb1.mono fun j => List.mem_append_left _).trans (sb.mono fun j => List.mem_append_right _)) rp (ff fr)
theorem RepDs.os {K : PySem.W.Frag} {G H : Hp} : ∀ {ds : List Dat} {vs : List V}, RepDs K G ds vs → RepOs K G H (ds.map .fz) vs []
  | [], _, h => ⟨h, rfl⟩
  | d :: r, _, h => by
    obtain ⟨v, r', rfl, q1, q2⟩ := h
    exact ⟨v, r', [], [], rfl, rfl, ⟨rfl, q1⟩, RepDs.os q2⟩
theorem RepDs.length {K : PySem.W.Frag} {G : Hp} : ∀ {ds : List Dat} {vs : List V}, RepDs K G ds vs → vs.length = ds.length
  | [], _, h => by rw [show _ = [] from h]; rfl
  | d :: r, _, h => by
    obtain ⟨v, r', rfl, q1, q2⟩ := h
    rw [List.length_cons, List.length_cons, RepDs.length q2]
theorem dg_tup {k : Nat} (hc : X.calm = true) (h : DGs X W es S gs) (hn : (assignEach es X.env).length = gs.length := by rfl) (hst : (assignEach es X.env).findIdx? (·.1) = none := by rfl) : DG X W (.Tuple es k pos) S (gTu gs) :=
  pg_imp (pg_tup hc h hn hst) fun v σ H Q ⟨T, P, ρ, fs, o, l, r, q⟩ => by
    unfold gTu at q
    cases o with
    | fz d =>
      cases d with
      | tup ds =>
        simp only at q
        obtain ⟨rfl, a, vs, rfl, sq, rs⟩ := r.ar
        by_cases hl : ds.length = gs.length
        · rw [if_pos hl] at q
          exact ⟨a, vs, rfl, hide_le.sqT sq, by rw [rs.length, hl], T, P, ρ, fs, _, [], r.rp, .nil, (fun _ z => nomatch z), rs.os, q⟩
        · rw [if_neg hl] at q; exact q.elim
      | _ => exact q.elim
    | _ => exact q.elim
theorem dg_lst {k : Nat} (hc : X.calm = true) (h : DGs X W es S gs) (hn : (assignEach es X.env).length = gs.length := by rfl) (hst : (assignEach es X.env).findIdx? (·.1) = none := by rfl) : DG X W (.Tuple es k pos) S (gLs gs) :=
  pg_imp (pg_lst hc h hn hst) fun v σ H Q ⟨T, P, ρ, fs, o, l, r, q⟩ => by
    unfold gLs at q
    cases o with
    | fz d =>
      cases d with
      | lst ds =>
        simp only at q
        obtain ⟨rfl, a, vs, rfl, sq, rs⟩ := r.ar
        by_cases hl : ds.length = gs.length
        · rw [if_pos hl] at q
          exact ⟨a, vs, rfl, .inl (.inl (hide_le a _ sq)), by rw [rs.length, hl], T, P, ρ, fs, _, [], r.rp, .nil, (fun _ z => nomatch z), rs.os, q⟩
        · rw [if_neg hl] at q; exact q.elim
      | _ => exact q.elim
    | lst os =>
      simp only at q
      obtain ⟨a, vs, f, rfl, rfl, sq, rs⟩ := r.ar
      by_cases hl : os.length = gs.length
      · rw [if_pos hl] at q
        have nda := List.nodup_cons.mp r.nd
        have ex : Ex (hide (Hd (Tl T (a :: f)) fs) H) (hide (Hd (Tl T f) fs) H) := hide_ex fun b x n e => ⟨fun z => n (by
          rcases z with (z | z) | z
          · exact .inl (.inl z)
          · exact .inl (.inr (List.mem_cons_of_mem _ z))
          · exact .inr z), e⟩
        refine ⟨a, vs, rfl, .inl (.inl sq), by rw [RepOs.length rs, hl], T, P, ρ, fs, os, f, r.rp.grow (fun _ _ e => e) (fun b z => .inl (z.imp id (List.mem_cons_of_mem _))), nda.2, (fun b hb => r.nt b (List.mem_cons_of_mem _ hb)), RepOs.mono ex os vs f (fun _ _ _ e => e) rs, ?_⟩
        have ff : ∀ {H' : Hp} {o' : Addr → Prop}, Fr H (Ow f fs) H' o' → Fr H (Ow (a :: f) fs) H' o' := fun f2 b x e n => f2 b x e fun z => n (z.imp (List.mem_cons_of_mem _) id)
        cases e2 : gSeq gs os ρ with
        | bad => rw [e2] at q; exact q
        | ex x ρ' => rw [e2] at q; exact fun cls d σ' H' fs' rx rp fr => q cls d σ' H' fs' rx rp fun b x e n => fr b x e fun z => n (z.imp (fun z => (List.mem_cons_of_mem _ z)) id)
        | ok u ρ2 => rw [e2] at q; exact fun σ' H' fs' sb rp fr => q σ' H' fs' sb rp fun b x e n => fr b x e fun z => n (z.imp (fun z => (List.mem_cons_of_mem _ z)) id)
      · rw [if_neg hl] at q; exact q.elim
    | _ => exact q.elim
end

/-! ### changing what a name owns -/
/-- the thing at v (o becomes x') is changed; what is new is told -/
def MutR (K : PySem.W.Frag) (G H : Hp) (v : V) (f l : List Addr) (x' o' : OT) (Q : V → Hp → Prop) : Prop :=
  ∀ w H' f' l', (∀ a y, H a = some y → a ∉ f → H' a = some y) → (f' ++ l').Nodup → (∀ b ∈ f' ++ l', H b = none ∨ b ∈ f ∨ b ∈ l) →
    (∀ G', Ex G G' → (∀ b y, (H b = none ∨ b ∈ f ∨ b ∈ l) → H' b = some y → b ∉ f' → b ∉ l' → G' b = some y) → RepO K G' H' x' v f' ∧ RepO K G' H' o' w l') → Q w H'
def MutOk (K : PySem.W.Frag) (r : V → List V → Hp → VK → Prop) (op : OT → List OT → Option (OT × OT)) : Prop :=
  ∀ G H x v f os vs l x' o' Q, Ex G H → RepO K G H x v f → RepOs K G H os vs l → (f ++ l).Nodup → op x os = some (x', o') → MutR K G H v f l x' o' Q → r v vs H Q
/-- the slot i with another content -/
def putS (ρ : Env) (i : Nat) (x' : OT) : Option Env := match ρ[i]? with
  | some (.vl _) => some (ρ.set i (.vl x'))
  | some (.io _) => some (ρ.set i (.io x'))
  | _ => none
section
variable {K : PySem.W.Frag} {T : Addr → Prop} {P : Pins} {ρ ρ' : Env} {σ : St} {H H0 : Hp} {fs fs0 : Nat → List Addr}
theorem Rp.mutate {l : List Addr} (r : Rp K (Tl T l) P ρ σ H fs) (nd : l.Nodup) (nt : ∀ b ∈ l, ¬ T b) {i : Nat} {x x' o' : OT} {v : V} (hs : slv ρ[i]? = some x) (hv : σ[i]? = some (some v)) (hp : putS ρ i x' = some ρ') {Q : V → Hp → Prop}
    (f : Fr H0 (Own fs0) H (Ow l fs)) (k : ∀ w H' fs' l', RpA K T P ρ' σ H' fs' (.tmp o') w l' → Fr H0 (Own fs0) H' (Ow l' fs') → Q w H') :
    RepO K (hide (Hd (Tl T l) fs) H) H x v (fs i) ∧ (fs i ++ l).Nodup ∧ MutR K (hide (Hd (Tl T l) fs) H) H v (fs i) l x' o' Q := by
  have ndl : (fs i ++ l).Nodup := List.nodup_append.mpr ⟨r.nd i, nd, fun a ha b hb e => by subst e; exact r.tf a ⟨i, ha⟩ (.inr hb)⟩
  have hlt : i < ρ.length := by
    unfold putS at hp
    cases es : ρ[i]? with
    | none => rw [es] at hp; cases hp
    | some s => exact (List.getElem?_eq_some_iff.mp es).1
  have rep : RepO K (hide (Hd (Tl T l) fs) H) H x v (fs i) := by
    cases es : ρ[i]? with
    | none => rw [es] at hs; cases hs
    | some s =>
      obtain ⟨y, hy, q⟩ := r.slot i s es
      rw [es] at hs
      obtain ⟨w, hw, q⟩ := slv_of q hs
      rw [hv] at hy
      cases hy
      cases hw
      exact q
  refine ⟨rep, ndl, fun w H' f' l' keep nd' src rp' => ?_⟩
  have ndf' := List.nodup_append.mp nd'
  -- who is new
  have hd0 : ∀ b, H b = none → ¬ Hd (Tl T l) fs b := fun b h => r.hd h
  have inf : ∀ b ∈ f' ++ l', ¬ T b ∧ ∀ j, j ≠ i → b ∉ fs j := fun b hb => by
    rcases src b hb with z | z | z
    · exact ⟨fun t => hd0 b z (.inl (.inl t)), fun j _ hj => hd0 b z (.inr ⟨j, hj⟩)⟩
    · exact ⟨fun t => r.tf b ⟨i, z⟩ (.inl t), fun j hj h => hj (r.dj j i b h z)⟩
    · exact ⟨fun t => nt b z t, fun j _ h => r.tf b ⟨j, h⟩ (.inr z)⟩
  have ex : Ex (hide (Hd (Tl T l) fs) H) (hide (Hd (Tl T l') (fset fs i f')) H') := hide_ex fun a y n e => by
    have nfi : a ∉ fs i := fun z => n (.inr ⟨i, z⟩)
    refine ⟨?_, keep a y e nfi⟩
    have srcn : a ∉ f' ++ l' := fun z => by
      rcases src a z with z | z | z
      · rw [z] at e; cases e
      · exact nfi z
      · exact n (.inl (.inr z))
    rintro ((z | z) | ⟨j, hj⟩)
    · exact n (.inl (.inl z))
    · exact srcn (List.mem_append_right _ z)
    · by_cases e : j = i
      · subst e; rw [fset_same] at hj; exact srcn (List.mem_append_left _ hj)
      · rw [fset_ne e] at hj; exact n (.inr ⟨j, hj⟩)
  have news : ∀ b y, (H b = none ∨ b ∈ fs i ∨ b ∈ l) → H' b = some y → b ∉ f' → b ∉ l' → hide (Hd (Tl T l') (fset fs i f')) H' b = some y := fun b y hb e n1 n2 => by
    refine (hide_no ?_).trans e
    have q1 : ¬ T b ∧ ∀ j, j ≠ i → b ∉ fs j := by
      rcases hb with z | z | z
      · exact ⟨fun t => hd0 b z (.inl (.inl t)), fun j _ hj => hd0 b z (.inr ⟨j, hj⟩)⟩
      · exact ⟨fun t => r.tf b ⟨i, z⟩ (.inl t), fun j hj h => hj (r.dj j i b h z)⟩
      · exact ⟨fun t => nt b z t, fun j _ h => r.tf b ⟨j, h⟩ (.inr z)⟩
    rintro ((z | z) | ⟨j, hj⟩)
    · exact q1.1 z
    · exact n2 z
    · by_cases e : j = i
      · subst e; rw [fset_same] at hj; exact n1 hj
      · rw [fset_ne e] at hj; exact q1.2 j e hj
  obtain ⟨rx, ro⟩ := rp' _ ex news
  have keepj : ∀ j, j ≠ i → ∀ a ∈ fs j, ∀ y, H a = some y → H' a = some y := fun j hj a ha y e => keep a y e fun z => hj (r.dj j i a ha z)
  -- the slot
  have slot_i : ∀ s, ρ'[i]? = some s → ∃ y, σ[i]? = some y ∧ RepS K (hide (Hd (Tl T l') (fset fs i f')) H') H' (P i) s y (fset fs i f' i) := fun s e => by
    rw [fset_same]
    unfold putS at hp
    cases es : ρ[i]? with
    | none => rw [es] at hp; cases hp
    | some s0 =>
      obtain ⟨y, hy, q⟩ := r.slot i s0 es
      cases s0 with
      | un => rw [es] at hp; cases hp
      | vl x0 =>
        simp only [es, Option.some.injEq] at hp
        subst hp
        rw [List.getElem?_set_self hlt] at e
        cases e
        obtain ⟨v', e1, e2, _⟩ := q
        rw [hv] at hy
        cases hy
        cases e1
        exact ⟨_, hv, v, rfl, e2, rx⟩
      | io x0 =>
        simp only [es, Option.some.injEq] at hp
        subst hp
        rw [List.getElem?_set_self hlt] at e
        cases e
        obtain ⟨v', e1, e2, _⟩ := q
        rw [hv] at hy
        cases hy
        cases e1
        exact ⟨_, hv, v, rfl, e2, rx⟩
      | lk x0 => rw [es] at hp; cases hp
  have slot_j : ∀ j, j ≠ i → ρ'[j]? = ρ[j]? := fun j hj => by
    unfold putS at hp
    cases es : ρ[i]? with
    | none => rw [es] at hp; cases hp
    | some s0 =>
      cases s0 with
      | un => rw [es] at hp; cases hp
      | vl x0 => simp only [es, Option.some.injEq] at hp; subst hp; exact List.getElem?_set_ne (Ne.symm hj)
      | io x0 => simp only [es, Option.some.injEq] at hp; subst hp; exact List.getElem?_set_ne (Ne.symm hj)
      | lk x0 => rw [es] at hp; cases hp
  have len : ρ'.length = ρ.length := by
    unfold putS at hp
    cases es : ρ[i]? with
    | none => rw [es] at hp; cases hp
    | some s0 =>
      cases s0 with
      | un => rw [es] at hp; cases hp
      | vl x0 => simp only [es, Option.some.injEq] at hp; subst hp; exact List.length_set
      | io x0 => simp only [es, Option.some.injEq] at hp; subst hp; exact List.length_set
      | lk x0 => rw [es] at hp; cases hp
  have plr : ∀ (j : Nat) p, P j = some p → ∃ s, ρ'[j]? = some s := fun j p e => by
    obtain ⟨s, h⟩ := r.pl j p e
    exact ⟨_, List.getElem?_eq_getElem (by rw [len]; exact (List.getElem?_eq_some_iff.mp h).1)⟩
  have there : ∀ b ∈ f' ++ l', ∃ y, H' b = some y := fun b hb => by
    rcases List.mem_append.mp hb with hb | hb
    · rcases RepO.own x' v f' rx b hb with ⟨y, e⟩ | ⟨y, e⟩ | ⟨y, e⟩ <;> exact ⟨_, e⟩
    · rcases RepO.own o' w l' ro b hb with ⟨y, e⟩ | ⟨y, e⟩ | ⟨y, e⟩ <;> exact ⟨_, e⟩
  refine k w H' (fset fs i f') l' ⟨⟨fun j s e => ?_, fun j e => ?_, fun j => ?_, fun j k a h1 h2 => ?_, fun a z t => ?_, fun a z => ?_, fun j p e => plr j p e⟩, ndf'.2.1, (fun b hb => (inf b (List.mem_append_right _ hb)).1), ro⟩ fun a y e n => ?_
  · by_cases hj : j = i
    · subst hj
      exact slot_i s e
    · rw [slot_j j hj] at e
      obtain ⟨y, h1, h2⟩ := r.slot j s e
      rw [fset_ne hj]
      exact ⟨y, h1, h2.mono ex (keepj j hj)⟩
  · by_cases hj : j = i
    · subst hj
      rw [List.getElem?_eq_none_iff, len] at e
      exact absurd hlt (Nat.not_lt.mpr e)
    · rw [slot_j j hj] at e
      rw [fset_ne hj]
      exact r.out j e
  · by_cases hj : j = i
    · subst hj; rw [fset_same]; exact ndf'.1
    · rw [fset_ne hj]; exact r.nd j
  · by_cases hj : j = i
    · by_cases hk : k = i
      · rw [hj, hk]
      · subst hj
        rw [fset_same] at h1
        rw [fset_ne hk] at h2
        exact absurd h2 ((inf a (List.mem_append_left _ h1)).2 k hk)
    · by_cases hk : k = i
      · subst hk
        rw [fset_same] at h2
        rw [fset_ne hj] at h1
        exact absurd h1 ((inf a (List.mem_append_left _ h2)).2 j hj)
      · rw [fset_ne hj] at h1
        rw [fset_ne hk] at h2
        exact r.dj j k a h1 h2
  · obtain ⟨j, hj⟩ := z
    by_cases e : j = i
    · subst e
      rw [fset_same] at hj
      rcases t with t | t
      · exact (inf a (List.mem_append_left _ hj)).1 t
      · exact ndf'.2.2 a hj a t rfl
    · rw [fset_ne e] at hj
      rcases t with t | t
      · exact r.tf a ⟨j, hj⟩ (.inl t)
      · exact (inf a (List.mem_append_right _ t)).2 j e hj
  · rcases z with z | z
    · obtain ⟨y, e⟩ := r.ta a (.inl z)
      exact ⟨y, keep a y e fun h => r.tf a ⟨i, h⟩ (.inl z)⟩
    · exact there a (List.mem_append_right _ z)
  · obtain ⟨h1, n1⟩ := f a y e n
    have nfi : a ∉ fs i := fun z => n1 (.inr ⟨i, z⟩)
    refine ⟨keep a y h1 nfi, ?_⟩
    have srcn : a ∉ f' ++ l' := fun z => by
      rcases src a z with z | z | z
      · rw [z] at h1; cases h1
      · exact nfi z
      · exact n1 (.inl z)
    rintro (z | ⟨j, hj⟩)
    · exact srcn (List.mem_append_right _ z)
    · by_cases e : j = i
      · subst e; rw [fset_same] at hj; exact srcn (List.mem_append_left _ hj)
      · rw [fset_ne e] at hj; exact n1 (.inr ⟨j, hj⟩)
end
/-- x.m(..) that changes x, x the name in slot i -/
def xMut (T : String) (i : Nat) (op : OT → List OT → Option (OT × OT)) (g : M (List Arg)) : M Arg := fun ρ => match slv ρ[i]? with
  | none => .bad
  | some x0 => if tyO T x0 then (g ρ).bind fun as ρ1 => match takes ρ1 as with
    | none => .bad
    | some (os, ρ2) => match slv ρ2[i]? with
      | none => .bad
      | some x => match op x os with
        | none => .bad
        | some (x', o') => match putS ρ2 i x' with
          | none => .bad
          | some ρ3 => .ok (.tmp o') ρ3
    else .bad
theorem tMut_op {Z : Par} {T0 : String} {r : V → List V → Hp → VK → Prop} {op : OT → List OT → Option (OT × OT)} (ho : MutOk Z.K r op) {i : Nat} {g : M (List Arg)} {σ : St} {H : Hp} {Q : VK} (h : tD Z (xMut T0 i op g) σ H Q) : tBM Z.K T0 r (tVar i) (tDA Z g) σ H Q := by
  obtain ⟨T, P, ρ, fs, rp, q⟩ := h
  unfold xMut at q
  cases c0 : slv ρ[i]? with
  | none => simp only [c0] at q; exact q.elim
  | some x0 =>
    simp only [c0] at q
    obtain ⟨v, hv⟩ := rp.has c0
    obtain ⟨f0, s0, _⟩ := RpA.see (a := .slot i) (l := []) rp ⟨rfl, hv⟩ c0
    cases ct : tyO T0 x0 with
    | false => simp only [ct] at q; exact q.elim
    | true =>
    simp only [ct, if_true] at q
    refine ⟨v, hv, tyO_ok hide_le s0 ct, T, P, ρ, fs, rp, ?_⟩
    cases e1 : g ρ with
    | bad => rw [e1] at q; exact q
    | ex x ρ' => rw [e1] at q; exact q
    | ok as ρ1 =>
      rw [e1] at q
      simp only [R.bind] at q
      intro vs H1 fs1 l1 r1 f1
      cases c1 : takes ρ1 as with
      | none => simp only [c1] at q; exact q.elim
      | some p =>
        obtain ⟨os, ρ2⟩ := p
        simp only [c1] at q
        obtain ⟨fs2, r2, s2, p2⟩ := takes_ok r1.rp r1.ar c1
        have ff : Fr H (Own fs) H1 (Ow l1 fs2) := f1.imp fun x z => z.imp id (s2 x)
        cases c2 : slv ρ2[i]? with
        | none => simp only [c2] at q; exact q.elim
        | some x =>
          simp only [c2] at q
          cases c3 : op x os with
          | none => simp only [c3] at q; exact q.elim
          | some p =>
            obtain ⟨x', o'⟩ := p
            simp only [c3] at q
            cases c4 : putS ρ2 i x' with
            | none => simp only [c4] at q; exact q.elim
            | some ρ3 =>
              simp only [c4] at q
              obtain ⟨q1, q2, q3⟩ := Rp.mutate (Q := Q) r2 r1.nd r1.nt c2 hv c4 ff q
              exact ho _ H1 x v (fs2 i) os vs l1 x' o' Q hide_le q1 p2 q2 c3 q3
/-- x[i] = .. -/
def gIx (i : Nat) (fk : M Arg) (op : OT → List OT → Option (OT × OT)) : TM := fun o ρ => match slv ρ[i]? with
  | none => .bad
  | some _ => (fk ρ).bind fun a ρ1 => match look ρ1 a with
    | some (.fz k) => match slv ρ1[i]? with
      | none => .bad
      | some x => match op x [.fz k, o] with
        | none => .bad
        | some (x', _) => match putS ρ1 i x' with
          | none => .bad
          | some ρ2 => .ok () ρ2
    | _ => .bad
theorem gIx_op {Z : Par} {ts : TSet} {op : OT → List OT → Option (OT × OT)} (ho : MutOk Z.K (fun x vs H Q => ∃ k w, vs = [k, w] ∧ ts x k w H fun H' => Q .non H') op) {i : Nat} {fk : M Arg} {v : V} {σ : St} {H : Hp} {Q : St → Hp → Prop}
    (h : gD Z [] (gIx i fk op) v σ H Q) : gSub (tVar i) (tD Z fk) ts v σ H Q := by
  obtain ⟨T, P, ρ, fs, o, l, r, q⟩ := h
  unfold gIx at q
  cases c0 : slv ρ[i]? with
  | none => simp only [c0] at q; exact q.elim
  | some x0 =>
    simp only [c0] at q
    obtain ⟨vx, hv⟩ := r.rp.has c0
    refine ⟨vx, hv, Tl T l, P, ρ, fs, r.rp, ?_⟩
    cases e1 : fk ρ with
    | bad => rw [e1] at q; exact q
    | ex x ρ' =>
      rw [e1] at q
      intro cls d σ' H' fs' rx rp fr
      have gx : Ex (hide (Hd (Tl T l) fs') H') (hide (Hd T fs') H') := hide_ex fun a y hn e => ⟨fun z => hn (z.imp Or.inl id), e⟩
      have mf : ∀ {l1 : List (Str × Dat)} {vs}, RepF Z.K (hide (Hd (Tl T l) fs') H') l1 vs → RepF Z.K (hide (Hd T fs') H') l1 vs := by
        intro l1
        induction l1 with
        | nil => intro vs h; exact h
        | cons p r ih => 
          intro vs h
          obtain ⟨n, dd⟩ := p
          obtain ⟨v, r', rfl, q, q2⟩ := h
          exact ⟨v, r', rfl, RepD.mono gx dd v q, ih q2⟩
      obtain ⟨rx1, vs, rx2, rx3⟩ := rx
      exact q cls d σ' H' fs' ⟨rx1, vs, mf rx2, rx3⟩ rp.unl fun a y e n => fr a y e fun z => n (.inr z)
    | ok a ρ1 =>
      rw [e1] at q
      simp only [R.bind] at q
      intro vk H1 fs1 l1 r1 f1
      have no := r.rp.noair
      cases c1 : look ρ1 a with
      | none => simp only [c1] at q; exact q.elim
      | some ok =>
        cases ok with
        | fz k =>
          simp only [c1] at q
          obtain ⟨g1, ⟨rfl, sk⟩, _⟩ := RpA.see r1.rp r1.ar c1
          cases c2 : slv ρ1[i]? with
          | none => simp only [c2] at q; exact q.elim
          | some x =>
            simp only [c2] at q
            cases c3 : op x [.fz k, o] with
            | none => simp only [c3] at q; exact q.elim
            | some p =>
              obtain ⟨x', o'⟩ := p
              simp only [c3] at q
              cases c4 : putS ρ1 i x' with
              | none => simp only [c4] at q; exact q.elim
              | some ρ2 =>
                simp only [c4] at q
                have ro : RepO Z.K (hide (Hd (Tl (Tl T l) l1) fs1) H1) H1 o v l := RepO.mono (hdfr (ρ := []) (ρ' := []) f1) o v l (f1.air no) r.ar
                have rr : Rp Z.K (Tl T l) P ρ1 σ H1 fs1 := r1.rp.unl
                have gx : Ex (hide (Hd (Tl (Tl T l) l1) fs1) H1) (hide (Hd (Tl T l) fs1) H1) := hide_ex fun a y hn e => ⟨fun z => hn (z.imp Or.inl id), e⟩
                have ros : RepOs Z.K (hide (Hd (Tl T l) fs1) H1) H1 [.fz k, o] [vk, v] l := ⟨vk, [v], [], l, rfl, rfl, ⟨rfl, RepD.mono gx k vk sk⟩, v, [], l, [], rfl, (List.append_nil l).symm, RepO.mono gx o v l (fun _ _ _ e => e) ro, rfl, rfl⟩
                have ff : Fr H (fun b => Ow l fs b) H1 (Ow l fs1) := fun b x e n => by
                  obtain ⟨h1, n1⟩ := f1 b x e fun z => n (.inr z)
                  exact ⟨h1, fun z => z.elim (fun z => n (.inl z)) fun z => n1 (.inr z)⟩
                obtain ⟨q1, q2, q3⟩ := Rp.mutate (H0 := H1) (fs0 := fun j => fs1 j ++ l) (o' := o') (Q := fun w H' => Q σ H') rr r.nd r.nt c2 hv c4 (Fr.refl.imp (fun x z => by
                  rcases z with z | ⟨j, hj⟩
                  · exact ⟨0, List.mem_append_right _ z⟩
                  · exact ⟨j, List.mem_append_left _ hj⟩)) (fun w H' fs' l' rA fr => q σ H' fs' (SB.refl _ _) rA.rp.unl fun b x e n => by
                    obtain ⟨h1, n1⟩ := ff b x e n
                    obtain ⟨h2, n2⟩ := fr b x h1 fun ⟨j, hj⟩ => n1 ((List.mem_append.mp hj).elim (fun z => .inr ⟨j, z⟩) .inl)
                    exact ⟨h2, fun z => n2 (.inr z)⟩)
                obtain ⟨k', w', e, z⟩ := ho _ H1 x vx (fs1 i) [.fz k, o] [vk, v] l x' o' (fun w H' => Q σ H') hide_le q1 ros q2 c3 q3
                cases e
                exact z
        | _ => simp only [c1] at q; exact q.elim
section
variable {X : Cx} {W : WX} {pos : Pos} {e : Expr}
theorem de_mut {T : String} {r : V → List V → Hp → VK → Prop} {op : OT → List OT → Option (OT × OT)} (hk : MutOk X.K r op) {i : Nat} {g : M (List Arg)} (h : PE X e (tBM X.K T r (tVar i) (tDA (zp X W) g))) : DE X W e (xMut T i op g) := pe_imp h fun _ _ _ q => tMut_op (Z := zp X W) hk q
theorem de_mut0 {T : String} {r : V → List V → Hp → VK → Prop} {op : OT → List OT → Option (OT × OT)} (hk : MutOk X.K r op) {i : Nat} (h : PE X e (tBM0 X.K T r (tVar i))) : DE X W e (xMut T i op xNil) := pe_imp h fun σ H Q q => by
  have q := tMut_op (Z := zp X W) hk q
  obtain ⟨v, hv, ty, T, P, ρ, fs, rp, q⟩ := q
  exact ⟨v, hv, ty, q [] H fs [] ⟨rp.tl0, .nil, (fun _ z => nomatch z), rfl, rfl⟩ (Fr.refl.imp fun x z => z.elim (fun z => nomatch z) id)⟩
theorem dg_ix {ts : TSet} {op : OT → List OT → Option (OT × OT)} (hk : MutOk X.K (fun x vs H Q => ∃ k w, vs = [k, w] ∧ ts x k w H fun H' => Q .non H') op) {i : Nat} {fk : M Arg} (h : PG X e (gSub (tVar i) (tD (zp X W) fk) ts)) : DG X W e [] (gIx i fk op) :=
  pg_imp h fun v σ H Q q => gIx_op (Z := zp X W) hk q
end
end Lay

namespace Lay
open PySem PySem.Spec L2

/-! ### what a def is worth -/
/-- r: what it hands back; out: what its changed argument is then (none: fz non) -/
inductive FR where
  | ok (r : OT) (out : OT)
  | ex (x : Exn) (out : OT)
  | bad
abbrev FD := List OT → FR
def mkFrom (io : Option Nat) : Nat → List OT → Env
  | _, [] => []
  | i, o :: r => (if io = some i then .io o else .vl o) :: mkFrom io (i + 1) r
def mkEnv (io : Option Nat) (os : List OT) : Env := mkFrom io 0 os
def outFrom (io : Option Nat) (out : OT) : Nat → Nat → Env
  | _, 0 => []
  | i, n + 1 => (if io = some i then .io out else .un) :: outFrom io out (i + 1) n
def outEnv (io : Option Nat) (n : Nat) (out : OT) : Env := outFrom io out 0 n
def spF (K : PySem.W.Frag) (mg : Str → Option Value) (io : Option Nat) (n : Nat) (F : FD) : Sp := fun vs H Q E => ∃ T P fs os, os.length = n ∧ vs.length = n ∧ (∀ i, P i = if io = some i then (vs[i]?.map fun v => (v, none)) else none) ∧ Rp K T P (mkEnv io os) (vs.map some) H fs ∧ match F os with
  | .ok r out => ∀ v H' fs' l, RpA K T P (outEnv io n out) (vs.map some) H' fs' (.tmp r) v l → Fr H (Own fs) H' (Ow l fs') → Q v H'
  | .ex x out => ∀ cls d H' fs', RpX K mg (hide (Hd T fs') H') H' x cls d → Rp K T P (outEnv io n out) (vs.map some) H' fs' → Fr H (Own fs) H' (Own fs') → E cls d H'
  | .bad => False
structure FnD (P : Program) (w : World) (K : PySem.W.Frag) (mg : Str → Option Value) (base : Heap) (x : Str) (k : Nat) (io : Option Nat) (n : Nat) (F : FD) : Prop where
  ex : ∃ (f : Addr) (fd : FuncData) (ps : List Str), FnOk P w K mg base (L2.CX P w) k f fd ps (spF K mg io n F) ∧ mg x = some (.ref f) ∧ PySem.W.keepIn K (.ref f) = true ∧ Binds K fd ps [] ∧ ps.length = n

def slotsOf : List Arg → List Nat
  | [] => []
  | .slot j :: r => j :: slotsOf r
  | .tmp _ :: r => slotsOf r
def ioSlot (io : Option Nat) (as : List Arg) : Option Nat := match io with
  | none => none
  | some i => match as[i]? with
    | some (.slot j) => some j
    | _ => none
/-- the arguments as the callee sees them -/
def passFrom (ρ : Env) (io : Option Nat) : Nat → List Arg → Option (List OT)
  | _, [] => some []
  | i, a :: r => match look ρ a, passFrom ρ io (i + 1) r with
    | some o, some os => some ((if io = some i then o else .fz (frz o)) :: os)
    | _, _ => none
def cntS (j : Nat) (l : List Nat) : Nat := (l.filter (· == j)).length
def okIo (ρ : Env) (io : Option Nat) (as : List Arg) : Bool := match io with
  | none => true
  | some i => match as[i]? with
    | some (.slot j) => (cntS j (slotsOf as) == 1) && (match ρ[j]? with
      | some (.vl _) => true
      | some (.io _) => true
      | _ => false)
    | _ => false
def frz1 (ρ : Env) (k : Nat) : Option Env := match ρ[k]? with
  | some (.vl (.fz _)) => some ρ
  | some (.io (.fz _)) => some ρ
  | some (.lk (.fz _)) => some ρ
  | some (.vl o) => some (ρ.set k (.vl (.fz (frz o))))
  | _ => none
def frzAll (j : Option Nat) : List Nat → Env → Option Env
  | [], ρ => some ρ
  | k :: r, ρ => if j = some k then frzAll j r ρ else match frz1 ρ k with
    | some ρ1 => frzAll j r ρ1
    | none => none
def putIo (ρ : Env) (j : Option Nat) (out : OT) : Option Env := match j with
  | none => some ρ
  | some j => putS ρ j out
def backA (ρ : Env) (io : Option Nat) (as : List Arg) (sol : Bool) (out : OT) : Option Env :=
  if sol then putIo ρ (ioSlot io as) out else (frzAll (ioSlot io as) (slotsOf as) ρ).bind fun ρ1 => putIo ρ1 (ioSlot io as) out
def xCall (io : Option Nat) (F : FD) (fa : M (List Arg)) : M Arg := fun ρ => (fa ρ).bind fun as ρ1 =>
  if okIo ρ1 io as then match passFrom ρ1 io 0 as with
    | none => .bad
    | some os => match F os with
      | .bad => .bad
      | .ok r out => match backA ρ1 io as (solidO r && solidO out) out with
        | some ρ2 => .ok (.tmp r) ρ2
        | none => .bad
      | .ex x out => match backA ρ1 io as false out with
        | some ρ2 => .ex x ρ2
        | none => .bad
  else .bad

theorem mkFrom_get (io : Option Nat) : ∀ (os : List OT) (i k : Nat), (mkFrom io i os)[k]? = (os[k]?).map fun o => if io = some (i + k) then Sl.io o else Sl.vl o
  | [], i, k => by simp [mkFrom]
  | o :: r, i, 0 => by simp [mkFrom]
  | o :: r, i, k + 1 => by
    show (mkFrom io (i + 1) r)[k]? = _
    rw [mkFrom_get io r (i + 1) k]
    simp only [List.getElem?_cons_succ]
    congr 1
    funext o
    rw [show i + 1 + k = i + (k + 1) by omega]
theorem outFrom_get (io : Option Nat) (out : OT) : ∀ (n i k : Nat), (outFrom io out i n)[k]? = if k < n then some (if io = some (i + k) then Sl.io out else Sl.un) else none
  | 0, i, k => by simp [outFrom]
  | n + 1, i, 0 => by simp [outFrom]
  | n + 1, i, k + 1 => by
    show (outFrom io out (i + 1) n)[k]? = _
    rw [outFrom_get io out n (i + 1) k]
    rw [show i + 1 + k = i + (k + 1) by omega]
    by_cases h : k < n
    · rw [if_pos h, if_pos (Nat.succ_lt_succ h)]
    · rw [if_neg h, if_neg (fun z => h (Nat.lt_of_succ_lt_succ z))]
theorem passFrom_get (ρ : Env) (io : Option Nat) : ∀ (as : List Arg) (i : Nat) (os : List OT), passFrom ρ io i as = some os → os.length = as.length ∧ ∀ (k : Nat) (a : Arg), as[k]? = some a → ∃ o, look ρ a = some o ∧ os[k]? = some (if io = some (i + k) then o else .fz (frz o))
  | [], i, os, h => by
    cases h
    exact ⟨rfl, fun k a e => by simp at e⟩
  | a :: r, i, os, h => by
    unfold passFrom at h
    cases c1 : look ρ a with
    | none => simp [c1] at h
    | some o =>
      cases c2 : passFrom ρ io (i + 1) r with
      | none => simp [c1, c2] at h
      | some os' =>
        simp only [c1, c2, Option.some.injEq] at h
        subst h
        obtain ⟨h1, h2⟩ := passFrom_get ρ io r (i + 1) os' c2
        refine ⟨by rw [List.length_cons, List.length_cons, h1], fun k b e => ?_⟩
        cases k with
        | zero =>
          simp only [List.getElem?_cons_zero, Option.some.injEq] at e
          subst e
          exact ⟨o, c1, rfl⟩
        | succ k =>
          rw [List.getElem?_cons_succ] at e
          obtain ⟨o', e1, e2⟩ := h2 k b e
          refine ⟨o', e1, ?_⟩
          rw [List.getElem?_cons_succ, e2, show i + 1 + k = i + (k + 1) by omega]
theorem ARs.get {K : PySem.W.Frag} {T : Addr → Prop} {σ : St} {H : Hp} {fs : Nat → List Addr} : ∀ {as : List Arg} {vs : List V} {l : List Addr}, ARs K T σ H fs as vs l → vs.length = as.length ∧ ∀ (k : Nat) (a : Arg), as[k]? = some a → ∃ (v : V) (la : List Addr), vs[k]? = some v ∧ AR K T σ H fs a v la ∧ ∀ b ∈ la, b ∈ l
  | [], vs, l, h => by
    obtain ⟨rfl, rfl⟩ := h
    exact ⟨rfl, fun k a e => by simp at e⟩
  | a :: r, vs, l, h => by
    obtain ⟨v, r', l1, l2, rfl, rfl, q1, q2⟩ := h
    obtain ⟨h1, h2⟩ := ARs.get q2
    refine ⟨by rw [List.length_cons, List.length_cons, h1], fun k b e => ?_⟩
    cases k with
    | zero =>
      simp only [List.getElem?_cons_zero, Option.some.injEq] at e
      subst e
      exact ⟨v, l1, rfl, q1, fun b hb => List.mem_append_left _ hb⟩
    | succ k =>
      rw [List.getElem?_cons_succ] at e
      obtain ⟨v', la, e1, e2, e3⟩ := h2 k b e
      exact ⟨v', la, by rw [List.getElem?_cons_succ]; exact e1, e2, fun b hb => List.mem_append_right _ (e3 b hb)⟩
theorem mem_slotsOf {j : Nat} : ∀ {as : List Arg} {k : Nat}, as[k]? = some (.slot j) → j ∈ slotsOf as
  | [], k, h => by simp at h
  | a :: r, 0, h => by
    simp only [List.getElem?_cons_zero, Option.some.injEq] at h
    subst h
    exact List.mem_cons_self
  | a :: r, k + 1, h => by
    rw [List.getElem?_cons_succ] at h
    have := mem_slotsOf h
    cases a with
    | slot i => exact List.mem_cons_of_mem _ this
    | tmp o => exact this
theorem cntS_pos {j : Nat} {l : List Nat} (h : j ∈ l) : 0 < cntS j l := by
  unfold cntS
  exact List.length_pos_of_mem (List.mem_filter.mpr ⟨h, by simp⟩)
theorem cntS_two {j : Nat} : ∀ {as : List Arg} {i k : Nat}, as[i]? = some (.slot j) → as[k]? = some (.slot j) → cntS j (slotsOf as) = 1 → i = k
  | [], i, k, h, _, _ => by simp at h
  | a :: r, 0, 0, _, _, _ => rfl
  | a :: r, 0, k + 1, h1, h2, h => by
    simp only [List.getElem?_cons_zero, Option.some.injEq] at h1
    subst h1
    rw [List.getElem?_cons_succ] at h2
    have q := cntS_pos (mem_slotsOf h2)
    have : cntS j (slotsOf (.slot j :: r)) = cntS j (slotsOf r) + 1 := by simp [slotsOf, cntS]
    omega
  | a :: r, i + 1, 0, h1, h2, h => by
    simp only [List.getElem?_cons_zero, Option.some.injEq] at h2
    subst h2
    rw [List.getElem?_cons_succ] at h1
    have q := cntS_pos (mem_slotsOf h1)
    have : cntS j (slotsOf (.slot j :: r)) = cntS j (slotsOf r) + 1 := by simp [slotsOf, cntS]
    omega
  | a :: r, i + 1, k + 1, h1, h2, h => by
    rw [List.getElem?_cons_succ] at h1 h2
    have h' : cntS j (slotsOf r) = 1 := by
      have q := cntS_pos (mem_slotsOf h1)
      cases a with
      | slot m =>
        by_cases e : m = j
        · subst e
          have : cntS m (slotsOf (.slot m :: r)) = cntS m (slotsOf r) + 1 := by simp [slotsOf, cntS]
          omega
        · have : cntS j (slotsOf (.slot m :: r)) = cntS j (slotsOf r) := by simp [slotsOf, cntS, e]
          omega
      | tmp o => exact h
    rw [cntS_two h1 h2 h']

/-- the callee's own share -/
def csT (T : Addr → Prop) (fs : Nat → List Addr) (as : List Arg) : Addr → Prop := fun a => T a ∨ ∃ k, a ∈ fs k ∧ k ∉ slotsOf as
def csF (io : Option Nat) (as : List Arg) (fs : Nat → List Addr) : Nat → List Addr := fun i => if io = some i then (match as[i]? with
  | some (.slot j) => fs j
  | _ => []) else []
theorem csF_own {io : Option Nat} {as : List Arg} {fs : Nat → List Addr} {a : Addr} (h : Own (csF io as fs) a) : ∃ i j, io = some i ∧ as[i]? = some (.slot j) ∧ a ∈ fs j := by
  obtain ⟨i, hi⟩ := h
  unfold csF at hi
  by_cases e : io = some i
  · rw [if_pos e] at hi
    cases ea : as[i]? with
    | none => rw [ea] at hi; cases hi
    | some x =>
      cases x with
      | slot j => rw [ea] at hi; exact ⟨i, j, e, ea, hi⟩
      | tmp o => rw [ea] at hi; cases hi
  · rw [if_neg e] at hi; cases hi
section
variable {K : PySem.W.Frag} {T : Addr → Prop} {P : Pins} {ρ : Env} {σ : St} {H H0 : Hp} {fs fs0 : Nat → List Addr} {io : Option Nat} {as : List Arg} {vs : List V} {l : List Addr} {os : List OT}
def csP (io : Option Nat) (vs : List V) : Pins := fun i => if io = some i then (vs[i]?.map fun v => (v, none)) else none
/-- whose footprint an argument has -/
def fpA (fs : Nat → List Addr) (la : List Addr) : Arg → List Addr
  | .slot j => fs j
  | .tmp _ => la
theorem AR.rep {a : Arg} {v : V} {la : List Addr} {o : OT} {T : Addr → Prop} (r : Rp K T P ρ σ H fs) (h : AR K T σ H fs a v la) (e : look ρ a = some o) : RepO K (hide (Hd T fs) H) H o v (fpA fs la a) := by
  cases a with
  | tmp o' => cases e; exact h
  | slot j =>
    obtain ⟨rfl, hσ⟩ := h
    have hl : slv ρ[j]? = some o := e
    cases es : ρ[j]? with
    | none => rw [es] at hl; cases hl
    | some s =>
      obtain ⟨y, hy, q⟩ := r.slot j s es
      rw [es] at hl
      obtain ⟨w, hw, q⟩ := slv_of q hl
      rw [hσ] at hy
      cases hy
      cases hw
      exact q
/-- what the callee finds -/
theorem Rp.callee (r : Rp K (Tl T l) P ρ σ H fs) (nt : ∀ b ∈ l, ¬ T b) (ha : ARs K (Tl T l) σ H fs as vs l) (hk : okIo ρ io as = true) (hp : passFrom ρ io 0 as = some os) :
    Rp K (csT T fs as) (csP io vs) (mkEnv io os) (vs.map some) H (csF io as fs) := by
  obtain ⟨lv, hv⟩ := ha.get
  obtain ⟨lo, ho⟩ := passFrom_get ρ io as 0 os hp
  have ex : Ex (hide (Hd (Tl T l) fs) H) (hide (Hd (csT T fs as) (csF io as fs)) H) := hide_ex fun a x n e => ⟨fun z => by
    rcases z with (z | ⟨k, z, _⟩) | z
    · exact n (.inl (.inl z))
    · exact n (.inr ⟨k, z⟩)
    · obtain ⟨i, j, _, _, hj⟩ := csF_own z
      exact n (.inr ⟨j, hj⟩), e⟩
  have cnt : ∀ i j, io = some i → as[i]? = some (.slot j) → cntS j (slotsOf as) = 1 := fun i j e1 e2 => by
    subst e1
    simp only [okIo, e2, Bool.and_eq_true, beq_iff_eq] at hk
    exact hk.1
  refine ⟨fun i s e => ?_, fun i e => ?_, fun i => ?_, fun i k a h1 h2 => ?_, fun a o t => ?_, fun a t => ?_, fun i p e => ?_⟩
  · unfold mkEnv at e
    rw [mkFrom_get] at e
    cases eo : os[i]? with
    | none => rw [eo] at e; cases e
    | some o =>
      rw [eo] at e
      simp only [Option.map_some, Nat.zero_add, Option.some.injEq] at e
      have hlt : i < as.length := by rw [← lo]; exact (List.getElem?_eq_some_iff.mp eo).1
      have eas : as[i]? = some as[i] := List.getElem?_eq_getElem hlt
      obtain ⟨v, la, hvi, har, hla⟩ := hv i _ eas
      obtain ⟨o', hl, ho'⟩ := ho i _ eas
      rw [eo, Nat.zero_add] at ho'
      refine ⟨some v, by rw [List.getElem?_map, hvi]; rfl, ?_⟩
      have rf := AR.rep r har hl
      by_cases hio : io = some i
      · rw [if_pos hio] at e ho'
        subst e
        cases ho'
        -- it is a slot
        have : ∃ j, as[i] = .slot j := by
          subst hio
          unfold okIo at hk
          simp only [eas] at hk
          cases ha' : as[i] with
          | slot j => exact ⟨j, rfl⟩
          | tmp o => rw [ha'] at hk; cases hk
        obtain ⟨j, hj⟩ := this
        rw [hj] at eas har hl rf
        have eF : csF io as fs i = fs j := by unfold csF; rw [if_pos hio, eas]
        rw [eF]
        exact ⟨v, rfl, by unfold csP; rw [if_pos hio, hvi]; rfl, RepO.mono ex o v _ (fun _ _ _ e => e) rf⟩
      · rw [if_neg hio] at e ho'
        subst e
        cases ho'
        have eF : csF io as fs i = [] := by unfold csF; rw [if_neg hio]
        rw [eF]
        refine ⟨v, rfl, by unfold csP; rw [if_neg hio], rfl, RepO.freeze ex o' v _ (fun a haf x e => (hide_no ?_).trans e) rf⟩
        -- a is not hidden from the callee
        cases ha' : as[i] with
        | tmp o2 =>
          rw [ha'] at haf
          have hal : a ∈ l := hla a haf
          have no := r.noair a hal
          rintro ((z | ⟨k, z, _⟩) | z)
          · exact nt a hal z
          · exact no ⟨k, z⟩
          · obtain ⟨_, j, _, _, hj⟩ := csF_own z
            exact no ⟨j, hj⟩
        | slot j =>
          rw [ha'] at haf eas
          have haf : a ∈ fs j := haf
          rintro ((z | ⟨k, z, hk'⟩) | z)
          · exact r.tf a ⟨j, haf⟩ (.inl z)
          · rw [r.dj k j a z haf] at hk'
            exact hk' (mem_slotsOf eas)
          · obtain ⟨i', j', e1, e2, hj⟩ := csF_own z
            rw [r.dj j' j a hj haf] at e2
            have := cntS_two e2 eas (cnt i' j e1 e2)
            subst this
            exact hio e1
  · unfold mkEnv at e
    rw [mkFrom_get] at e
    unfold csF
    by_cases hio : io = some i
    · rw [if_pos hio]
      have : as[i]? = none := by
        rw [List.getElem?_eq_none_iff, ← lo]
        cases eo : os[i]? with
        | none => exact List.getElem?_eq_none_iff.mp eo
        | some o => rw [eo] at e; cases e
      rw [this]
    · rw [if_neg hio]
  · unfold csF
    by_cases hio : io = some i
    · rw [if_pos hio]
      cases ea : as[i]? with
      | none => exact .nil
      | some x => cases x with
        | slot j => exact r.nd j
        | tmp o => exact .nil
    · rw [if_neg hio]; exact .nil
  · have q1 : io = some i := by
      unfold csF at h1
      by_cases hio : io = some i
      · exact hio
      · rw [if_neg hio] at h1; cases h1
    have q2 : io = some k := by
      unfold csF at h2
      by_cases hio : io = some k
      · exact hio
      · rw [if_neg hio] at h2; cases h2
    exact Option.some.inj (q1.symm.trans q2)
  · obtain ⟨i, j, e1, e2, hj⟩ := csF_own o
    rcases t with t | ⟨k, z, hk'⟩
    · exact r.tf a ⟨j, hj⟩ (.inl t)
    · rw [r.dj k j a z hj] at hk'
      exact hk' (mem_slotsOf e2)
  · rcases t with t | ⟨k, z, _⟩
    · exact r.ta a (.inl t)
    · exact r.owned ⟨k, z⟩
  · unfold csP at e
    by_cases hio : io = some i
    · rw [if_pos hio] at e
      cases ev : vs[i]? with
      | none => rw [ev] at e; cases e
      | some v =>
        have hlt : i < os.length := by rw [lo, ← lv]; exact (List.getElem?_eq_some_iff.mp ev).1
        unfold mkEnv
        rw [mkFrom_get, List.getElem?_eq_getElem hlt]
        exact ⟨_, rfl⟩
    · rw [if_neg hio] at e; cases e

theorem frz1_ok {k : Nat} {ρ1 : Env} (r : Rp K T P ρ σ H fs) (e : frz1 ρ k = some ρ1) : ∃ fs1, Rp K T P ρ1 σ H fs1 ∧ (∀ m, fs1 m = [] ∨ fs1 m = fs m) ∧ fs1 k = [] ∧ (∀ m, m ≠ k → fs1 m = fs m) ∧ (∀ m, m ≠ k → ρ1[m]? = ρ[m]?) := by
  unfold frz1 at e
  cases es : ρ[k]? with
  | none => simp [es] at e
  | some s =>
    have same : ∀ d, slv (some s) = some (.fz d) → fs k = [] := fun d e2 => by
      obtain ⟨x, hx, q⟩ := r.slot k s es
      obtain ⟨w, hw, q⟩ := slv_of q e2
      exact q.1
    have fin : ∀ d, slv (some s) = some (.fz d) → ρ1 = ρ → ∃ fs1, Rp K T P ρ1 σ H fs1 ∧ (∀ m, fs1 m = [] ∨ fs1 m = fs m) ∧ fs1 k = [] ∧ (∀ m, m ≠ k → fs1 m = fs m) ∧ (∀ m, m ≠ k → ρ1[m]? = ρ[m]?) := fun d e2 e3 => by
      subst e3
      exact ⟨fs, r, fun m => .inr rfl, same d e2, fun _ _ => rfl, fun _ _ => rfl⟩
    have fr : ∀ o, s = .vl o → ρ1 = ρ.set k (.vl (.fz (frz o))) → ∃ fs1, Rp K T P ρ1 σ H fs1 ∧ (∀ m, fs1 m = [] ∨ fs1 m = fs m) ∧ fs1 k = [] ∧ (∀ m, m ≠ k → fs1 m = fs m) ∧ (∀ m, m ≠ k → ρ1[m]? = ρ[m]?) := fun o e2 e3 => by
      subst e2 e3
      obtain ⟨h1, _, _⟩ := r.freeze es
      refine ⟨_, h1, fun m => ?_, fset_same, fun m hm => fset_ne hm, fun m hm => List.getElem?_set_ne (Ne.symm hm)⟩
      by_cases e : m = k
      · exact .inl (by rw [e]; exact fset_same)
      · exact .inr (fset_ne e)
    cases s with
    | un => simp [es] at e
    | vl o =>
      cases o with
      | fz d => simp only [es, Option.some.injEq] at e; exact fin d rfl e.symm
      | lst os => simp only [es, Option.some.injEq] at e; exact fr _ rfl e.symm
      | dic os => simp only [es, Option.some.injEq] at e; exact fr _ rfl e.symm
    | io o =>
      cases o with
      | fz d => simp only [es, Option.some.injEq] at e; exact fin d rfl e.symm
      | _ => simp [es] at e
    | lk o =>
      cases o with
      | fz d => simp only [es, Option.some.injEq] at e; exact fin d rfl e.symm
      | _ => simp [es] at e
theorem frzAll_ok {j : Option Nat} : ∀ {ks : List Nat} {ρ ρ1 : Env} {fs : Nat → List Addr}, Rp K T P ρ σ H fs → frzAll j ks ρ = some ρ1 → ∃ fs1, Rp K T P ρ1 σ H fs1 ∧ (∀ m, fs1 m = [] ∨ fs1 m = fs m) ∧ (∀ k ∈ ks, j ≠ some k → fs1 k = []) ∧
    (∀ m, j = some m → fs1 m = fs m ∧ ρ1[m]? = ρ[m]?)
  | [], ρ, ρ1, fs, r, e => by
    cases e
    exact ⟨fs, r, (fun _ => .inr rfl), (fun _ z => nomatch z), (fun _ _ => ⟨rfl, rfl⟩)⟩
  | k :: ks, ρ, ρ1, fs, r, e => by
    unfold frzAll at e
    by_cases hj : j = some k
    · rw [if_pos hj] at e
      obtain ⟨fs1, h1, h2, h3, h4⟩ := frzAll_ok r e
      exact ⟨fs1, h1, h2, fun m hm hn => (List.mem_cons.mp hm).elim (fun z => absurd (by rw [z]; exact hj) hn) fun z => h3 m z hn, h4⟩
    · rw [if_neg hj] at e
      cases c : frz1 ρ k with
      | none => simp [c] at e
      | some ρ2 =>
        simp only [c] at e
        obtain ⟨fs2, g1, g2, g3, g4, g5⟩ := frz1_ok r c
        obtain ⟨fs1, h1, h2, h3, h4⟩ := frzAll_ok g1 e
        refine ⟨fs1, h1, fun m => ?_, fun m hm hn => ?_, fun m hm => ?_⟩
        · rcases h2 m with z | z
          · exact .inl z
          · rw [z]; exact g2 m
        · rcases List.mem_cons.mp hm with z | z
          · subst z
            rcases h2 m with z | z
            · exact z
            · rw [z, g3]
          · exact h3 m z hn
        · have ne : m ≠ k := fun z => hj (by rw [← z]; exact hm)
          obtain ⟨q1, q2⟩ := h4 m hm
          exact ⟨by rw [q1, g4 m ne], by rw [q2, g5 m ne]⟩
/-- behind the call: ρ1 are the caller's names as they are kept -/
theorem Rp.back {fs1 : Nat → List Addr} {ρ1 ρ2 : Env} {n : Nat} {out r : OT} {v : V} {H' : Hp} {fsc : Nat → List Addr} {l' : List Addr}
    (rr : Rp K (Tl T l) P ρ σ H fs) (nt : ∀ b ∈ l, ¬ T b) (ha : ARs K (Tl T l) σ H fs as vs l) (hk : okIo ρ io as = true) (hlen : as.length = n)
    (r1 : Rp K (Tl T l) P ρ1 σ H fs1) (sub : ∀ m, fs1 m = [] ∨ fs1 m = fs m) (hj : ∀ m, ioSlot io as = some m → fs1 m = fs m ∧ ρ1[m]? = ρ[m]?)
    (sol : (solidO r && solidO out) = true ∨ ∀ k ∈ slotsOf as, ioSlot io as ≠ some k → fs1 k = []) (hp : putIo ρ1 (ioSlot io as) out = some ρ2)
    (rc : RpA K (csT T fs as) (csP io vs) (outEnv io n out) (vs.map some) H' fsc (.tmp r) v l') (fr : Fr H (Own (csF io as fs)) H' (Ow l' fsc)) :
    ∃ fs', RpA K T P ρ2 σ H' fs' (.tmp r) v l' ∧ Fr H (Ow l fs) H' (Ow l' fs') ∧
      ∀ (o : OT) (u : V) (f : List Addr), (solidO o = true ∨ ∀ k ∈ slotsOf as, ioSlot io as ≠ some k → fs1 k = []) → RepO K (hide (Hd (Tl (csT T fs as) l') fsc) H') H' o u f → RepO K (hide (Hd (Tl T l') fs') H') H' o u f := by
  -- the callee owns behind the call what its changed argument does
  have fsc0 : ∀ k, io ≠ some k → fsc k = [] := fun k hk => by
    by_cases h : k < n
    · have e : (outEnv io n out)[k]? = some .un := by
        unfold outEnv
        rw [outFrom_get, if_pos h, Nat.zero_add, if_neg hk]
      obtain ⟨x, _, q⟩ := rc.rp.slot k _ e
      exact q.1
    · exact rc.rp.out k (by
        unfold outEnv
        rw [outFrom_get, if_neg h])
  have csO : ∀ a, Own (csF io as fs) a → ∃ j, ioSlot io as = some j ∧ a ∈ fs j := fun a z => by
    obtain ⟨i, j, e1, e2, e3⟩ := csF_own z
    refine ⟨j, ?_, e3⟩
    unfold ioSlot
    subst e1
    simp only [e2]
  -- the place of the changed argument
  have place : ∀ j, ioSlot io as = some j → ∃ i, io = some i ∧ as[i]? = some (.slot j) := fun j e => by
    unfold ioSlot at e
    cases io with
    | none => cases e
    | some i =>
      simp only at e
      cases ea : as[i]? with
      | none => rw [ea] at e; cases e
      | some x =>
        cases x with
        | slot j' => rw [ea] at e; cases e; exact ⟨i, rfl, ea⟩
        | tmp o => rw [ea] at e; cases e
  have keepk : ∀ k, ioSlot io as ≠ some k → ∀ a ∈ fs k, ∀ x, H a = some x → H' a = some x ∧ ¬ Ow l' fsc a := fun k hk' a hak x e => fr a x e fun z => by
    obtain ⟨j, e1, e2⟩ := csO a z
    exact hk' (by rw [e1, rr.dj j k a e2 hak])
  have keepT : ∀ a, T a → ∀ x, H a = some x → H' a = some x ∧ ¬ Ow l' fsc a := fun a t x e => fr a x e fun z => by
    obtain ⟨j, e1, e2⟩ := csO a z
    exact rr.tf a ⟨j, e2⟩ (.inl t)
  let jf : Nat → List Addr := fun k => (io.map fsc).getD []
  let fs' : Nat → List Addr := fun k => if ioSlot io as = some k then jf k else fs1 k
  have fs'j : ∀ j i, ioSlot io as = some j → io = some i → fs' j = fsc i := fun j i e1 e2 => by
    show (if ioSlot io as = some j then jf j else fs1 j) = fsc i
    rw [if_pos e1]
    show (io.map fsc).getD [] = fsc i
    rw [e2]
    rfl
  have fs'k : ∀ k, ioSlot io as ≠ some k → fs' k = fs1 k := fun k e1 => if_neg e1
  have own' : ∀ a, Own fs' a → Own fsc a ∨ ∃ k, ioSlot io as ≠ some k ∧ a ∈ fs1 k := fun a ⟨k, hk'⟩ => by
    by_cases e : ioSlot io as = some k
    · obtain ⟨i, e1, e2⟩ := place k e
      rw [fs'j k i e e1] at hk'
      exact .inl ⟨i, hk'⟩
    · rw [fs'k k e] at hk'
      exact .inr ⟨k, e, hk'⟩
  have in1 : ∀ k a, a ∈ fs1 k → a ∈ fs k := fun k a h => by
    rcases sub k with z | z
    · rw [z] at h; cases h
    · rw [z] at h; exact h
  have there : ∀ k a, a ∈ fs k → ∃ x, H a = some x := fun k a h => rr.owned ⟨k, h⟩
  have notin : ∀ k, ioSlot io as ≠ some k → ∀ a ∈ fs1 k, ¬ Ow l' fsc a := fun k hk' a h => by
    obtain ⟨x, e⟩ := there k a (in1 k a h)
    exact (keepk k hk' a (in1 k a h) x e).2
  have exC : ∀ a x, H a = some x → ¬ Ow l fs a → H' a = some x ∧ ¬ Ow l' fs' a := fun a x e n => by
    obtain ⟨h1, n1⟩ := fr a x e fun z => by
      obtain ⟨j, _, e2⟩ := csO a z
      exact n (.inr ⟨j, e2⟩)
    refine ⟨h1, ?_⟩
    rintro (z | z)
    · exact n1 (.inl z)
    · rcases own' a z with z | ⟨k, _, z⟩
      · exact n1 (.inr z)
      · exact n (.inr ⟨k, in1 k a z⟩)
  have ex1 : Ex (hide (Hd (Tl T l) fs1) H) (hide (Hd (Tl T l') fs') H') := hide_ex fun a x n e => by
    -- what the caller may read
    by_cases hb : Own fs a
    · obtain ⟨k, hk'⟩ := hb
      have nk : ioSlot io as ≠ some k := fun z => n (.inr ⟨k, by rw [(hj k z).1]; exact hk'⟩)
      obtain ⟨h1, n1⟩ := keepk k nk a hk' x e
      refine ⟨?_, h1⟩
      rintro ((z | z) | z)
      · exact n (.inl (.inl z))
      · exact n1 (.inl z)
      · rcases own' a z with z | ⟨m, _, z⟩
        · exact n1 (.inr z)
        · exact n (.inr ⟨m, z⟩)
    · have n0 : ¬ Ow l fs a := fun z => z.elim (fun z => n (.inl (.inr z))) hb
      obtain ⟨h1, n1⟩ := exC a x e n0
      refine ⟨?_, h1⟩
      rintro ((z | z) | z)
      · exact n (.inl (.inl z))
      · exact n1 (.inl z)
      · exact n1 (.inr z)
  -- what the callee gives is seen by the caller
  have gets : ∀ (o : OT) (u : V) (f : List Addr), (solidO o = true ∨ ∀ k ∈ slotsOf as, ioSlot io as ≠ some k → fs1 k = []) → RepO K (hide (Hd (Tl (csT T fs as) l') fsc) H') H' o u f → RepO K (hide (Hd (Tl T l') fs') H') H' o u f := fun o u f hs h => by
    have cand : ∀ a x, ¬ Hd (Tl (csT T fs as) l') fsc a → H' a = some x → (Hd (Tl T l') fs' a → ∃ k, ioSlot io as ≠ some k ∧ a ∈ fs1 k ∧ k ∈ slotsOf as) := fun a x n e z => by
      rcases z with (z | z) | z
      · exact absurd (show Hd (Tl (csT T fs as) l') fsc a from .inl (.inl (.inl z))) n
      · exact absurd (show Hd (Tl (csT T fs as) l') fsc a from .inl (.inr z)) n
      · rcases own' a z with z | ⟨k, hk', z⟩
        · exact absurd (show Hd (Tl (csT T fs as) l') fsc a from .inr z) n
        · refine ⟨k, hk', z, ?_⟩
          by_cases hm : k ∈ slotsOf as
          · exact hm
          · exact absurd (show Hd (Tl (csT T fs as) l') fsc a from .inl (.inl (.inr ⟨k, in1 k a z, hm⟩))) n
    rcases hs with hs | hs
    · refine RepO.solid (fun a xs q => ?_) o u f hs h
      have up : ∀ y, hide (Hd (Tl (csT T fs as) l') fsc) H' a = some y → ((∃ zs, y = .tup zs) ∨ ∃ ob zs, y = .frz ob (.tup zs)) → hide (Hd (Tl T l') fs') H' a = some y := fun y q hy => by
        obtain ⟨q1, q2⟩ := of_hide q
        refine (hide_no fun z => ?_).trans q2
        obtain ⟨k, hk', z, _⟩ := cand a y q1 q2 z
        have own : Own fs a := ⟨k, in1 k a z⟩
        rcases rr.owns own with ⟨u', e⟩ | ⟨u', e⟩ | ⟨u', e⟩ <;>
          (have e2 := (keepk k hk' a (in1 k a z) _ e).1
           rw [q2] at e2
           rcases hy with ⟨zs, hy⟩ | ⟨ob, zs, hy⟩ <;> (rw [hy] at e2; cases e2))
      rcases q with q | ⟨ob, q⟩
      · exact .inl (up _ q (.inl ⟨_, rfl⟩))
      · exact .inr ⟨ob, up _ q (.inr ⟨_, _, rfl⟩)⟩
    · refine RepO.mono (hide_ex fun a x n e => ⟨fun z => ?_, e⟩) o u f (fun _ _ _ e => e) h
      obtain ⟨k, hk', z, hm⟩ := cand a x n e z
      rw [hs k hm hk'] at z
      cases z
  have sol1 : solidO r = true ∨ ∀ k ∈ slotsOf as, ioSlot io as ≠ some k → fs1 k = [] := sol.imp (fun z => (Bool.and_eq_true _ _ ▸ z : _ ∧ _).1) id
  have sol2 : solidO out = true ∨ ∀ k ∈ slotsOf as, ioSlot io as ≠ some k → fs1 k = [] := sol.imp (fun z => (Bool.and_eq_true _ _ ▸ z : _ ∧ _).2) id
  -- the slots
  have ρ2k : ∀ k, ioSlot io as ≠ some k → ρ2[k]? = ρ1[k]? := fun k hk' => by
    cases hio : ioSlot io as with
    | none => rw [hio] at hp; cases hp; rfl
    | some j =>
      rw [hio] at hp hk'
      have ne : k ≠ j := fun z => hk' (by rw [z])
      have hp : putS ρ1 j out = some ρ2 := hp
      unfold putS at hp
      cases es : ρ1[j]? with
      | none => rw [es] at hp; cases hp
      | some s0 =>
        cases s0 with
        | un => rw [es] at hp; cases hp
        | vl x0 => simp only [es, Option.some.injEq] at hp; subst hp; exact List.getElem?_set_ne (Ne.symm ne)
        | io x0 => simp only [es, Option.some.injEq] at hp; subst hp; exact List.getElem?_set_ne (Ne.symm ne)
        | lk x0 => rw [es] at hp; cases hp
  have slotj : ∀ j, ioSlot io as = some j → ∀ s, ρ2[j]? = some s → ∃ y, σ[j]? = some y ∧ RepS K (hide (Hd (Tl T l') fs') H') H' (P j) s y (fs' j) := fun j hio s e => by
    obtain ⟨i, e1, e2⟩ := place j hio
    have hp : putS ρ1 j out = some ρ2 := by rw [hio] at hp; exact hp
    have hlt : i < n := by rw [← hlen]; exact (List.getElem?_eq_some_iff.mp e2).1
    obtain ⟨lv, hv⟩ := ha.get
    obtain ⟨vi, la, hvi, har, _⟩ := hv i _ e2
    have hσ : σ[j]? = some (some vi) := har.2
    have eo : (outEnv io n out)[i]? = some (.io out) := by
      unfold outEnv
      rw [outFrom_get, if_pos hlt, Nat.zero_add, if_pos e1]
    obtain ⟨y, hy, w, hw, hpw, q⟩ := rc.rp.slot i _ eo
    have ew : y = some vi := by
      rw [List.getElem?_map, hvi] at hy
      exact (Option.some.inj hy).symm
    subst ew
    cases hw
    have q' := gets out vi (fsc i) sol2 q
    rw [fs'j j i hio e1]
    unfold putS at hp
    cases es : ρ1[j]? with
    | none => rw [es] at hp; cases hp
    | some s0 =>
      have hl1 : j < ρ1.length := (List.getElem?_eq_some_iff.mp es).1
      obtain ⟨y0, hy0, q0⟩ := r1.slot j s0 es
      cases s0 with
      | un => rw [es] at hp; cases hp
      | vl x0 =>
        simp only [es, Option.some.injEq] at hp
        subst hp
        rw [List.getElem?_set_self hl1] at e
        cases e
        obtain ⟨v', e3, e4, _⟩ := q0
        rw [hσ] at hy0
        cases hy0
        cases e3
        exact ⟨_, hσ, vi, rfl, e4, q'⟩
      | io x0 =>
        simp only [es, Option.some.injEq] at hp
        subst hp
        rw [List.getElem?_set_self hl1] at e
        cases e
        obtain ⟨v', e3, e4, _⟩ := q0
        rw [hσ] at hy0
        cases hy0
        cases e3
        exact ⟨_, hσ, vi, rfl, e4, q'⟩
      | lk x0 => rw [es] at hp; cases hp
  refine ⟨fs', ⟨⟨fun k s e => ?_, fun k e => ?_, fun k => ?_, fun k m a h1 h2 => ?_, fun a z t => ?_, fun a t => ?_, fun k p e => ?_⟩, rc.nd, fun b hb t => rc.nt b hb (.inl t), gets r v l' sol1 rc.ar⟩, (fun a x e n => exC a x e n), gets⟩
  · by_cases hio : ioSlot io as = some k
    · exact slotj k hio s e
    · rw [ρ2k k hio] at e
      obtain ⟨y, h1, h2⟩ := r1.slot k s e
      rw [fs'k k hio]
      exact ⟨y, h1, h2.mono ex1 fun a h x e => (keepk k hio a (in1 k a h) x e).1⟩
  · by_cases hio : ioSlot io as = some k
    · exfalso
      rw [hio] at hp
      have hp : putS ρ1 k out = some ρ2 := hp
      unfold putS at hp
      cases es : ρ1[k]? with
      | none => rw [es] at hp; cases hp
      | some s0 =>
        have hl1 : k < ρ1.length := (List.getElem?_eq_some_iff.mp es).1
        have len : ρ2.length = ρ1.length := by
          cases s0 with
          | un => rw [es] at hp; cases hp
          | vl x0 => simp only [es, Option.some.injEq] at hp; subst hp; exact List.length_set
          | io x0 => simp only [es, Option.some.injEq] at hp; subst hp; exact List.length_set
          | lk x0 => rw [es] at hp; cases hp
        rw [List.getElem?_eq_none_iff, len] at e
        exact absurd hl1 (Nat.not_lt.mpr e)
    · rw [ρ2k k hio] at e
      rw [fs'k k hio]
      exact r1.out k e
  · by_cases hio : ioSlot io as = some k
    · obtain ⟨i, e1, e2⟩ := place k hio
      rw [fs'j k i hio e1]
      exact rc.rp.nd i
    · rw [fs'k k hio]; exact r1.nd k
  · by_cases hk1 : ioSlot io as = some k
    · by_cases hm : ioSlot io as = some m
      · exact Option.some.inj (hk1.symm.trans hm)
      · obtain ⟨i, e1, e2⟩ := place k hk1
        rw [fs'j k i hk1 e1] at h1
        rw [fs'k m hm] at h2
        exact absurd (show Ow l' fsc a from .inr ⟨i, h1⟩) (notin m hm a h2)
    · by_cases hm : ioSlot io as = some m
      · obtain ⟨i, e1, e2⟩ := place m hm
        rw [fs'j m i hm e1] at h2
        rw [fs'k k hk1] at h1
        exact absurd (show Ow l' fsc a from .inr ⟨i, h2⟩) (notin k hk1 a h1)
      · rw [fs'k k hk1] at h1
        rw [fs'k m hm] at h2
        exact r1.dj k m a h1 h2
  · rcases own' a z with ⟨i, z⟩ | ⟨k, hk', z⟩
    · rcases t with t | t
      · exact rc.rp.tf a ⟨i, z⟩ (.inl (.inl t))
      · exact rc.rp.tf a ⟨i, z⟩ (.inr t)
    · rcases t with t | t
      · exact r1.tf a ⟨k, z⟩ (.inl t)
      · exact notin k hk' a z (.inl t)
  · rcases t with t | t
    · exact rc.rp.ta a (.inl (.inl t))
    · exact rc.rp.ta a (.inr t)
  · obtain ⟨s, h⟩ := r1.pl k p e
    have len : ρ2.length = ρ1.length := by
      cases hio : ioSlot io as with
      | none => rw [hio] at hp; cases hp; rfl
      | some j =>
        rw [hio] at hp
        have hp : putS ρ1 j out = some ρ2 := hp
        unfold putS at hp
        cases es : ρ1[j]? with
        | none => rw [es] at hp; cases hp
        | some s0 =>
          cases s0 with
          | un => rw [es] at hp; cases hp
          | vl x0 => simp only [es, Option.some.injEq] at hp; subst hp; exact List.length_set
          | io x0 => simp only [es, Option.some.injEq] at hp; subst hp; exact List.length_set
          | lk x0 => rw [es] at hp; cases hp
    exact ⟨_, List.getElem?_eq_getElem (by rw [len]; exact (List.getElem?_eq_some_iff.mp h).1)⟩
end
end Lay

namespace Lay
open PySem PySem.Spec L2

/-! ### the call of a def -/
def xCallN (n : Nat) (io : Option Nat) (F : FD) (fa : M (List Arg)) : M Arg := fun ρ => (fa ρ).bind fun as ρ1 =>
  if as.length = n ∧ okIo ρ1 io as = true then match passFrom ρ1 io 0 as with
    | none => .bad
    | some os => match F os with
      | .bad => .bad
      | .ok r out => match backA ρ1 io as (solidO r && solidO out) out with
        | some ρ2 => .ok (.tmp r) ρ2
        | none => .bad
      | .ex x out => match backA ρ1 io as false out with
        | some ρ2 => .ex x ρ2
        | none => .bad
  else .bad
theorem mkEnv_length (io : Option Nat) (os : List OT) : (mkEnv io os).length = os.length := by
  unfold mkEnv
  have : ∀ (os : List OT) (i : Nat), (mkFrom io i os).length = os.length := by
    intro os
    induction os with
    | nil => intro i; rfl
    | cons o r ih => intro i; show (mkFrom io (i + 1) r).length + 1 = _; rw [ih]; rfl
  exact this os 0
theorem RepF.gets {K : PySem.W.Frag} {G G' : Hp} (h : ∀ d u, RepD K G d u → RepD K G' d u) : ∀ {l : List (Str × Dat)} {vs : List (Str × V)}, RepF K G l vs → RepF K G' l vs
  | [], _, q => q
  | (n, d) :: r, _, q => by
    obtain ⟨v, r', rfl, q1, q2⟩ := q
    exact ⟨v, r', rfl, h d v q1, RepF.gets h q2⟩
theorem tCall_op {Z : Par} {n : Nat} {io : Option Nat} {F : FD} {fa : M (List Arg)} {σ : St} {H : Hp} {Q : VK} (h : tD Z (xCallN n io F fa) σ H Q) : tCallS (spF Z.K Z.mg io n F) (WE Z.W) (tDA Z fa) σ H Q := by
  obtain ⟨T, P, ρ, fs, rp, q⟩ := h
  refine ⟨T, P, ρ, fs, rp, ?_⟩
  unfold xCallN at q
  cases e1 : fa ρ with
  | bad => rw [e1] at q; exact q
  | ex x ρ' => rw [e1] at q; exact q
  | ok as ρ1 =>
    rw [e1] at q
    simp only [R.bind] at q
    intro vs H1 fs1 l1 r1 f1
    by_cases hc : as.length = n ∧ okIo ρ1 io as = true
    · rw [if_pos hc] at q
      obtain ⟨hn, hk⟩ := hc
      cases c1 : passFrom ρ1 io 0 as with
      | none => simp only [c1] at q; exact q.elim
      | some os =>
        simp only [c1] at q
        obtain ⟨lv, _⟩ := r1.ar.get
        obtain ⟨lo, _⟩ := passFrom_get ρ1 io as 0 os c1
        show spF Z.K Z.mg io n F vs H1 Q _
        refine ⟨csT T fs1 as, csP io vs, csF io as fs1, os, by rw [lo, hn], by rw [lv, hn], fun i => rfl, Rp.callee r1.rp r1.nt r1.ar hk c1, ?_⟩
        -- how one comes back
        have back : ∀ (sol : Bool) (r out : OT), (sol = true → (solidO r && solidO out) = true) → ∀ ρ2, backA ρ1 io as sol out = some ρ2 → ∀ v H' fsc l', RpA Z.K (csT T fs1 as) (csP io vs) (outEnv io n out) (vs.map some) H' fsc (.tmp r) v l' → Fr H1 (Own (csF io as fs1)) H' (Ow l' fsc) →
            ∃ fs', RpA Z.K T P ρ2 σ H' fs' (.tmp r) v l' ∧ Fr H1 (Ow l1 fs1) H' (Ow l' fs') ∧ (sol = false → ∀ (o : OT) (u : V) (f : List Addr), RepO Z.K (hide (Hd (Tl (csT T fs1 as) l') fsc) H') H' o u f → RepO Z.K (hide (Hd (Tl T l') fs') H') H' o u f) := fun sol r out hs ρ2 hb v H' fsc l' rc fr => by
          unfold backA at hb
          cases sol with
          | true =>
            rw [if_pos rfl] at hb
            obtain ⟨fs', g1, g2, g3⟩ := Rp.back r1.rp r1.nt r1.ar hk hn r1.rp (fun m => .inr rfl) (fun m _ => ⟨rfl, rfl⟩) (.inl (hs rfl)) hb rc fr
            exact ⟨fs', g1, g2, fun z => nomatch z⟩
          | false =>
            rw [if_neg (by decide)] at hb
            cases c : frzAll (ioSlot io as) (slotsOf as) ρ1 with
            | none => rw [c] at hb; cases hb
            | some ρf =>
              rw [c] at hb
              obtain ⟨fsf, k1, k2, k3, k4⟩ := frzAll_ok r1.rp c
              obtain ⟨fs', g1, g2, g3⟩ := Rp.back r1.rp r1.nt r1.ar hk hn k1 k2 k4 (.inr k3) hb rc fr
              exact ⟨fs', g1, g2, fun _ o u f h => g3 o u f (.inr k3) h⟩
        cases c2 : F os with
        | bad => simp only [c2] at q; exact q
        | ok r out =>
          simp only [c2] at q
          intro v H' fsc l' rc fr
          cases c3 : backA ρ1 io as (solidO r && solidO out) out with
          | none => simp only [c3] at q; exact q.elim
          | some ρ2 =>
            simp only [c3] at q
            obtain ⟨fs', g1, g2, _⟩ := back _ r out id ρ2 c3 v H' fsc l' rc fr
            exact q v H' fs' l' g1 (f1.trans g2)
        | ex x out =>
          simp only [c2] at q
          intro cls d H' fsc rx rc fr
          cases c3 : backA ρ1 io as false out with
          | none => simp only [c3] at q; exact q.elim
          | some ρ2 =>
            simp only [c3] at q
            have rc' : RpA Z.K (csT T fs1 as) (csP io vs) (outEnv io n out) (vs.map some) H' fsc (.tmp (.fz .non)) .non [] := ⟨rc.tl0, .nil, (fun _ z => nomatch z), rfl, rfl⟩
            obtain ⟨fs', g1, g2, g3⟩ := back false (.fz .non) out (fun z => nomatch z) ρ2 c3 .non H' fsc [] rc' (fr.imp fun x z => z.elim (fun z => nomatch z) id)
            obtain ⟨rx1, vs', rx2, rx3⟩ := rx
            refine q cls d σ H' fs' ⟨rx1, vs', RepF.gets (fun d u h => ?_) rx2, rx3⟩ g1.rp.unl ((f1.trans g2).imp fun x z => .inr z)
            have h' : RepO Z.K (hide (Hd (Tl (csT T fs1 as) []) fsc) H') H' (.fz d) u [] := ⟨rfl, by rw [Tl_nil]; exact h⟩
            have := (g3 rfl (.fz d) u [] h').2
            rwa [Tl_nil] at this
    · rw [if_neg hc] at q; exact q.elim
section
variable {X : Cx} {W : WX} {x : Str} {p pos : Pos} {k n : Nat} {io : Option Nat} {F : FD} {e : Expr} {es : List Expr} {fa : M (List Arg)}
theorem de_call (G : FnD X.prog X.w X.K X.mg X.base x k io n F) (hr : Room k X.A) (tk : Takes X W) (ha : DA X W (e :: es) fa) (hg : Gl X x := by rfl) (hdb : (x == ("__debug__" : Str)) = false := by decide)
    (he : starEach (e :: es) X.env = (false, eval e X.env) :: starEach es X.env := by rfl) (hpl : (backTo pos (starEach es X.env)).any (·.1) = false := by rfl) : DE X W (.Call (.Name x p) (e :: es) [] pos) (xCallN n io F fa) := by
  obtain ⟨f, fd, ps, hF, hm, hkp, hb, _⟩ := G.ex
  exact pe_imp (pe_callS hF hr hg hm hkp hb (fun σ => passAt tk σ) ha hdb he hpl) fun σ H Q h => tCall_op (Z := zp X W) h
end

/-! ### a def by its body -/
def outOf (io : Option Nat) (ρ : Env) : Option OT := match io with
  | none => some (.fz .non)
  | some i => match ρ[i]? with
    | some (.io o) => some o
    | _ => none
def FR.of (f : OT → FR) : Option OT → FR
  | some o => f o
  | none => .bad
/-- m: how many names the def has; n: how many parameters -/
def runF (io : Option Nat) (m n : Nat) (g : SM) : FD := fun os => match g (mkEnv io os ++ List.replicate (m - n) .un) with
  | .rt r ρ' => FR.of (.ok r) (outOf io ρ')
  | .nx ρ' => FR.of (.ok (.fz .non)) (outOf io ρ')
  | .ex x ρ' => FR.of (.ex x) (outOf io ρ')
  | _ => .bad
section
variable {K : PySem.W.Frag} {T : Addr → Prop} {P : Pins} {ρ : Env} {σ : St} {H H0 : Hp} {fs fs0 : Nat → List Addr} {io : Option Nat} {vs : List V} {os : List OT} {n m : Nat}
/-- a def's own names beside its parameters -/
theorem Rp.more (r : Rp K T P ρ (vs.map some) H fs) (hv : vs.length = n) (hρ : ρ.length = n) (hP : ∀ i, n ≤ i → P i = none) (j : Nat) : Rp K T P (ρ ++ List.replicate j .un) (vs.map some ++ List.replicate j none) H fs := by
  have far : ∀ i, n ≤ i → fs i = [] := fun i h => r.out i (List.getElem?_eq_none_iff.mpr (by omega))
  refine ⟨fun i s e => ?_, fun i e => ?_, r.nd, r.dj, r.tf, r.ta, fun i p e => ?_⟩
  · by_cases h : i < n
    · rw [List.getElem?_append_left (by omega)] at e
      obtain ⟨x, h1, h2⟩ := r.slot i s e
      exact ⟨x, by rw [List.getElem?_append_left (by rw [List.length_map]; omega)]; exact h1, h2⟩
    · rw [List.getElem?_append_right (by omega)] at e
      rw [List.getElem?_replicate] at e
      split at e
      · cases e
        refine ⟨none, ?_, far i (by omega), hP i (by omega)⟩
        rw [List.getElem?_append_right (by rw [List.length_map]; omega), List.getElem?_replicate, if_pos (by rw [List.length_map]; omega)]
      · cases e
  · by_cases h : i < n
    · rw [List.getElem?_append_left (by omega)] at e
      exact r.out i e
    · exact far i (by omega)
  · obtain ⟨s, h⟩ := r.pl i p e
    have := (List.getElem?_eq_some_iff.mp h).1
    exact ⟨s, by rw [List.getElem?_append_left this]; exact h⟩
/-- a def's end: what its caller sees -/
theorem RpA.fin {l : List Addr} {a : Arg} {v : V} {ρ' : Env} {σ' : St} {out : OT} (hP : ∀ i, P i = if io = some i then (vs[i]?.map fun v => (v, none)) else none) (hv : vs.length = n) (hio : ∀ i, io = some i → i < n)
    (r : RpA K T P ρ' σ' H fs a v l) (ho : outOf io ρ' = some out) (ha : ∃ o, a = .tmp o) :
    ∃ fs', RpA K T P (outEnv io n out) (vs.map some) H fs' a v l ∧ ∀ b, Own fs' b → Own fs b := by
  let fs' : Nat → List Addr := fun k => if io = some k then fs k else []
  have own : ∀ b, Own fs' b → Own fs b := fun b ⟨k, hk⟩ => by
    have hk : b ∈ (if io = some k then fs k else []) := hk
    by_cases e : io = some k
    · rw [if_pos e] at hk; exact ⟨k, hk⟩
    · rw [if_neg e] at hk; cases hk
  have ex : Ex (hide (Hd (Tl T l) fs) H) (hide (Hd (Tl T l) fs') H) := hide_ex fun a x n e => ⟨fun z => n (z.imp id (own a)), e⟩
  have hvi : ∀ i, i < n → ∃ w, vs[i]? = some w := fun i h => ⟨_, List.getElem?_eq_getElem (by omega)⟩
  refine ⟨fs', ⟨⟨fun i s e => ?_, fun i e => ?_, fun i => ?_, fun i j b h1 h2 => ?_, fun b z => r.rp.tf b (own b z), r.rp.ta, fun i p e => ?_⟩, r.nd, r.nt, ?_⟩, own⟩
  · unfold outEnv at e
    rw [outFrom_get, Nat.zero_add] at e
    by_cases h : i < n
    · rw [if_pos h] at e
      obtain ⟨w, hw⟩ := hvi i h
      have hf : fs' i = if io = some i then fs i else [] := rfl
      refine ⟨some w, by rw [List.getElem?_map, hw]; rfl, ?_⟩
      by_cases hi : io = some i
      · rw [if_pos hi] at e hf
        cases e
        rw [hf]
        subst hi
        have ho : (match ρ'[i]? with | some (.io o) => some o | _ => none) = some out := ho
        cases es : ρ'[i]? with
        | none => rw [es] at ho; cases ho
        | some s0 =>
          cases s0 with
          | io o =>
            rw [es] at ho
            cases ho
            obtain ⟨x, hx, u, hu, hp, q⟩ := r.rp.slot i _ es
            have hp' := hP i
            rw [if_pos rfl, hw, hp] at hp'
            simp only [Option.map_some, Option.some.injEq, Prod.mk.injEq, and_true] at hp'
            subst hp'
            exact ⟨u, rfl, hp, RepO.mono ex out u _ (fun _ _ _ e => e) q⟩
          | _ => rw [es] at ho; cases ho
      · rw [if_neg hi] at e hf
        cases e
        exact ⟨hf, by rw [hP i, if_neg hi]⟩
    · rw [if_neg h] at e; cases e
  · show (if io = some i then fs i else []) = []
    by_cases hi : io = some i
    · exfalso
      unfold outEnv at e
      rw [outFrom_get, if_pos (hio i hi)] at e
      cases e
    · rw [if_neg hi]
  · show (if io = some i then fs i else []).Nodup
    by_cases hi : io = some i
    · rw [if_pos hi]; exact r.rp.nd i
    · rw [if_neg hi]; exact .nil
  · have h1 : b ∈ (if io = some i then fs i else []) := h1
    have h2 : b ∈ (if io = some j then fs j else []) := h2
    by_cases hi : io = some i
    · by_cases hj : io = some j
      · exact Option.some.inj (hi.symm.trans hj)
      · rw [if_neg hj] at h2; cases h2
    · rw [if_neg hi] at h1; cases h1
  · have hp := hP i
    rw [e] at hp
    by_cases hi : io = some i
    · unfold outEnv
      rw [outFrom_get, if_pos (hio i hi)]
      exact ⟨_, rfl⟩
    · rw [if_neg hi] at hp; cases hp
  · obtain ⟨o, rfl⟩ := ha
    exact RepO.mono ex o v l (fun _ _ _ e => e) r.ar
end
theorem fn_rule {P : Program} {w : World} {K : PySem.W.Frag} {mg : Str → Option Value} {base : Heap} {x qual : Str} {st : Stmt} {f : Addr} {fd : FuncData} {N ps : List Str} {k n : Nat} {io : Option Nat} {g : SM} (F : Fun K x qual st f fd) (S : FnScope N ps (defScope st)) (hn : ps.length = n) (hm : n ≤ N.length) (hio : ∀ i, io = some i → i < n)
    (hbody : ∀ (cdv : Value) (A : Around) (outer : List PySem.Env) (s : Shared) (H : Hp) (E : XK), Room k (A.deeper (PyProof.Rows.envOfC qual (defScope st) s.heap.objs.size f cdv)) →
      DSs (cxOf (L2.CX P w) P w K mg base N qual (defScope st) f cdv A outer s H E) (fun cls d _ H => E cls d H) (defBody st) g) : FnOk P w K mg base (L2.CX P w) (k + 1) f fd ps (spF K mg io n (runF io N.length n g)) := by
  refine F.okX S (fun vs H Q E h => ?_) (fun cdv A outer s H vs Q E hr h => ⟨_, hbody cdv A outer s H E hr, ?_⟩)
  · obtain ⟨T, Pp, fs, os, h1, h2, _⟩ := h
    rw [h2, hn]
  · obtain ⟨T, Pp, fs, os, h1, h2, hP, rp, q⟩ := h
    have hρ : (mkEnv io os).length = n := by rw [mkEnv_length, h1]
    have far : ∀ i, n ≤ i → Pp i = none := fun i hi => by
      rw [hP i]
      by_cases e : io = some i
      · exact absurd (hio i e) (Nat.not_lt.mpr hi)
      · rw [if_neg e]
    refine ⟨T, Pp, mkEnv io os ++ List.replicate (N.length - n) .un, fs, ?_, ?_⟩
    · show Rp K T Pp (mkEnv io os ++ List.replicate (N.length - n) .un) (vs.map some ++ List.replicate (N.length - vs.length) none) H fs
      rw [h2]
      exact Rp.more rp h2 hρ far _
    · unfold runF at q
      cases e1 : g (mkEnv io os ++ List.replicate (N.length - n) .un) with
      | bad => rw [e1] at q; exact q
      | bk ρ' => rw [e1] at q; exact q.elim
      | ct ρ' => rw [e1] at q; exact q.elim
      | nx ρ' =>
        rw [e1] at q
        simp only at q
        cases ho : outOf io ρ' with
        | none => rw [ho] at q; exact q.elim
        | some out =>
          rw [ho] at q
          intro σ' H' fs' r fr
          obtain ⟨fs2, g1, g2⟩ := RpA.fin (a := .tmp (.fz .non)) (v := .non) (l := []) hP h2 hio ⟨r.tl0, .nil, (fun _ z => nomatch z), rfl, rfl⟩ ho ⟨_, rfl⟩
          exact q .non H' fs2 [] g1 (fr.imp fun x z => z.elim (fun z => nomatch z) (g2 x))
      | rt o ρ' =>
        rw [e1] at q
        simp only at q
        cases ho : outOf io ρ' with
        | none => rw [ho] at q; exact q.elim
        | some out =>
          rw [ho] at q
          intro v σ' H' fs' l r fr
          obtain ⟨fs2, g1, g2⟩ := RpA.fin hP h2 hio r ho ⟨_, rfl⟩
          exact q v H' fs2 l g1 (fr.imp fun x z => z.imp id (g2 x))
      | ex x ρ' =>
        rw [e1] at q
        simp only at q
        cases ho : outOf io ρ' with
        | none => rw [ho] at q; exact q.elim
        | some out =>
          rw [ho] at q
          intro cls d σ' H' fs' rx r fr
          obtain ⟨fs2, g1, g2⟩ := RpA.fin (a := .tmp (.fz .non)) (v := .non) (l := []) hP h2 hio ⟨r.tl0, .nil, (fun _ z => nomatch z), rfl, rfl⟩ ho ⟨_, rfl⟩
          obtain ⟨rx1, vs', rx2, rx3⟩ := rx
          refine q cls d H' fs2 ⟨rx1, vs', RepF.gets (fun d u h => RepD.mono (hide_ex fun a x n e => ⟨fun z => n (z.imp id (g2 a)), e⟩) d u h) rx2, rx3⟩ g1.rp.unl (fr.imp g2)
end Lay

namespace Lay
open PySem PySem.Spec L2

/-! ### what is walked -/
/-- what a walk leans on stands -/
def Kp (σ : St) (H1 : Hp) (fs1 : Nat → List Addr) (lks : List Nat) (H2 : Hp) : Prop :=
  (∀ a x, H1 a = some x → ¬ Own fs1 a → H2 a = some x) ∧ ∀ i ∈ lks, ∀ a vs, σ[i]? = some (some (.ref a)) → H1 a = some (.lst vs) → H2 a = some (.lst vs)
def IsIt (K : PySem.W.Frag) (T : Addr → Prop) (σ : St) (H1 : Hp) (fs1 : Nat → List Addr) (lks : List Nat) (J : It) (ds : List Dat) : Prop :=
  ∃ (G : Hp → Prop) (Y : Nat → Hp → V → Hp → Prop), Walk J ds.length G Y ∧ (∀ H2, Kp σ H1 fs1 lks H2 → G H2) ∧
    ∀ i H2 x H3, i < ds.length → Kp σ H1 fs1 lks H2 → Y i H2 x H3 → Ex H2 H3 ∧ ∃ d, ds[i]? = some d ∧ ∀ G', Ex (hide (Hd T fs1) H1) G' → (∀ b y, H2 b = none → H3 b = some y → G' b = some y) → RepD K G' d x
abbrev IM := M (List Dat × List Nat)
def AftI (Z : Par) (T : Addr → Prop) (P : Pins) (σ : St) (H : Hp) (fs : Nat → List Addr) (Q : It → Hp → Prop) : R (List Dat × List Nat) → Prop
  | .ok p ρ' => ∀ J H' fs', Rp Z.K T P ρ' σ H' fs' → Fr H (Own fs) H' (Own fs') → IsIt Z.K T σ H' fs' p.2 J p.1 → Q J H'
  | .ex x ρ' => onX Z T P H fs x ρ'
  | .bad => False
def tI (Z : Par) (it : IM) : TI := fun σ H Q => ∃ T P ρ fs, Rp Z.K T P ρ σ H fs ∧ AftI Z T P σ H fs Q (it ρ)
abbrev DI (X : Cx) (W : WX) (tg e : Expr) (it : IM) : Prop := PI X tg e (tI (zp X W) it)
theorem pi_imp {X : Cx} {tg e : Expr} {t t' : TI} (h : PI X tg e t) (hi : ∀ σ H Q, t' σ H Q → t σ H Q) : PI X tg e t' := ⟨fun pins s σ H R I q => h.run pins s σ H R I (hi σ H R q)⟩

/-- a list is walked: its slot is locked, and opened behind the walk -/
def unlS (i : Nat) (b : Bool) (ρ : Env) : Option Env := match ρ[i]? with
  | some (.lk o) => some (ρ.set i (if b then .io o else .vl o))
  | _ => none
def unlR (i : Nat) (b : Bool) : SR → SR
  | .nx ρ => match unlS i b ρ with
    | some ρ' => .nx ρ'
    | none => .bad
  | .rt o ρ => match unlS i b ρ with
    | some ρ' => .rt o ρ'
    | none => .bad
  | .ex x ρ => match unlS i b ρ with
    | some ρ' => .ex x ρ'
    | none => .bad
  | _ => .bad
def lockA : List Nat → Env → (Env → SR) → SR
  | [], ρ, k => k ρ
  | i :: r, ρ, k => match ρ[i]? with
    | some (.vl (.lst os)) => unlR i false (lockA r (ρ.set i (.lk (.lst os))) k)
    | some (.io (.lst os)) => unlR i true (lockA r (ρ.set i (.lk (.lst os))) k)
    | some (.lk _) => lockA r ρ k
    | _ => .bad
section
variable {K : PySem.W.Frag} {T : Addr → Prop} {P : Pins} {ρ ρ' : Env} {σ : St} {H H' : Hp} {fs fs' : Nat → List Addr}
def pset (P : Pins) (i : Nat) (p : V × Option (List V)) : Pins := fun j => if j = i then some p else P j
/-- one slot's standing is told otherwise -/
theorem Rp.reslot {P' : Pins} {i : Nat} {s s' : Sl} (r : Rp K T P ρ σ H fs) (h : ρ[i]? = some s) (hp : ∀ j, j ≠ i → P' j = P j) (hs : ∀ x, σ[i]? = some x → RepS K (hide (Hd T fs) H) H (P i) s x (fs i) → RepS K (hide (Hd T fs) H) H (P' i) s' x (fs i)) :
    Rp K T P' (ρ.set i s') σ H fs := by
  have hlt : i < ρ.length := (List.getElem?_eq_some_iff.mp h).1
  refine ⟨fun j t e => ?_, fun j e => ?_, r.nd, r.dj, r.tf, r.ta, fun j p e => ?_⟩
  · by_cases hj : j = i
    · subst hj
      rw [List.getElem?_set_self hlt] at e
      cases e
      obtain ⟨x, h1, h2⟩ := r.slot j s h
      exact ⟨x, h1, hs x h1 h2⟩
    · rw [List.getElem?_set_ne (Ne.symm hj)] at e
      rw [hp j hj]
      exact r.slot j t e
  · by_cases hj : j = i
    · subst hj
      rw [List.getElem?_set_self hlt] at e
      cases e
    · rw [List.getElem?_set_ne (Ne.symm hj)] at e
      exact r.out j e
  · by_cases hj : j = i
    · subst hj; exact ⟨_, List.getElem?_set_self hlt⟩
    · rw [hp j hj] at e
      obtain ⟨t, ht⟩ := r.pl j p e
      exact set_some ht
theorem Rp.lock {i : Nat} {os : List OT} (r : Rp K T P ρ σ H fs) (h : ρ[i]? = some (.vl (.lst os)) ∨ ρ[i]? = some (.io (.lst os))) :
    ∃ a vs, σ[i]? = some (some (.ref a)) ∧ H a = some (.lst vs) ∧ Rp K T (pset P i (.ref a, some vs)) (ρ.set i (.lk (.lst os))) σ H fs ∧ (ρ[i]? = some (.vl (.lst os)) → P i = none) ∧ (ρ[i]? = some (.io (.lst os)) → P i = some (.ref a, none)) := by
  have go : ∀ v p, σ[i]? = some (some v) → P i = p → RepO K (hide (Hd T fs) H) H (.lst os) v (fs i) → (∃ s, ρ[i]? = some s) → ∃ a vs, v = .ref a ∧ H a = some (.lst vs) ∧ Rp K T (pset P i (.ref a, some vs)) (ρ.set i (.lk (.lst os))) σ H fs := fun v p hv hp q ⟨s, hs⟩ => by
    obtain ⟨a, vs, f, rfl, ef, ha, ro⟩ := id q
    refine ⟨a, vs, rfl, ha, r.reslot hs (fun j hj => if_neg hj) fun x hx _ => ?_⟩
    rw [hv] at hx
    cases hx
    exact ⟨.ref a, rfl, q, vs, a, if_pos rfl, rfl, by rw [ef]; exact List.mem_cons_self, ha⟩
  rcases h with h | h
  · obtain ⟨x, hx, v, rfl, hp, q⟩ := r.slot i _ h
    obtain ⟨a, vs, rfl, ha, r'⟩ := go v _ hx hp q ⟨_, h⟩
    exact ⟨a, vs, hx, ha, r', fun _ => hp, fun z => by rw [h] at z; cases z⟩
  · obtain ⟨x, hx, v, rfl, hp, q⟩ := r.slot i _ h
    obtain ⟨a, vs, rfl, ha, r'⟩ := go v _ hx hp q ⟨_, h⟩
    exact ⟨a, vs, hx, ha, r', (fun z => by rw [h] at z; cases z), fun _ => hp⟩
theorem Rp.unlock {i : Nat} {b : Bool} {a : Addr} {vs : List V} {P' : Pins} (r : Rp K T P' ρ σ H fs) (hP : P' i = some (.ref a, some vs)) (hj : ∀ j, j ≠ i → P' j = P j) (hb : P i = if b then some (.ref a, none) else none) (e : unlS i b ρ = some ρ') : Rp K T P ρ' σ H fs := by
  unfold unlS at e
  cases es : ρ[i]? with
  | none => rw [es] at e; cases e
  | some s =>
    cases s with
    | lk o =>
      simp only [es, Option.some.injEq] at e
      subst e
      refine r.reslot es (fun j hj' => (hj j hj').symm) fun x hx q => ?_
      obtain ⟨v, rfl, q, vs', a', h1, rfl, _⟩ := q
      rw [hP] at h1
      cases h1
      cases b with
      | true => exact ⟨.ref a, rfl, hb, q⟩
      | false => exact ⟨.ref a, rfl, hb, q⟩
    | _ => rw [es] at e; cases e
end
theorem lockA_ok {Z : Par} {T : Addr → Prop} {σ : St} {H : Hp} {fs : Nat → List Addr} {D : Ends} {k : Env → SR} : ∀ {lks : List Nat} {P : Pins} {ρ : Env}, Rp Z.K T P ρ σ H fs → AftS Z T P H fs D (lockA lks ρ k) →
    ∃ P' ρ', Rp Z.K T P' ρ' σ H fs ∧ AftS Z T P' H fs D (k ρ') ∧ (∀ j p, P j = some p → p.2 ≠ none → P' j = some p) ∧ ∀ i ∈ lks, ∃ a vs, σ[i]? = some (some (.ref a)) ∧ H a = some (.lst vs) ∧ P' i = some (.ref a, some vs)
  | [], P, ρ, r, q => ⟨P, ρ, r, q, fun _ _ h _ => h, fun _ z => nomatch z⟩
  | i :: lks, P, ρ, r, q => by
    unfold lockA at q
    have rest : ∀ {P1 : Pins} {ρ1 : Env}, Rp Z.K T P1 ρ1 σ H fs → AftS Z T P1 H fs D (lockA lks ρ1 k) → (∀ j p, P j = some p → p.2 ≠ none → P1 j = some p) → (∃ a vs, σ[i]? = some (some (.ref a)) ∧ H a = some (.lst vs) ∧ P1 i = some (.ref a, some vs)) →
        ∃ P' ρ', Rp Z.K T P' ρ' σ H fs ∧ AftS Z T P' H fs D (k ρ') ∧ (∀ j p, P j = some p → p.2 ≠ none → P' j = some p) ∧ ∀ i' ∈ i :: lks, ∃ a vs, σ[i']? = some (some (.ref a)) ∧ H a = some (.lst vs) ∧ P' i' = some (.ref a, some vs) := fun {P1 ρ1} r1 q1 keep ⟨a, vs, h1, h2, h3⟩ => by
      obtain ⟨P', ρ', g1, g2, g3, g4⟩ := lockA_ok r1 q1
      refine ⟨P', ρ', g1, g2, fun j p h hn => g3 j p (keep j p h hn) hn, fun i' hi' => ?_⟩
      rcases List.mem_cons.mp hi' with z | z
      · subst z
        exact ⟨a, vs, h1, h2, g3 i' _ h3 (fun z => nomatch z)⟩
      · exact g4 i' z
    have opened : ∀ {b : Bool} {os : List OT} {a : Addr} {vs : List V}, σ[i]? = some (some (.ref a)) → H a = some (.lst vs) → Rp Z.K T (pset P i (.ref a, some vs)) (ρ.set i (.lk (.lst os))) σ H fs → P i = (if b then some (.ref a, none) else none) →
        AftS Z T P H fs D (unlR i b (lockA lks (ρ.set i (.lk (.lst os))) k)) → ∃ P' ρ', Rp Z.K T P' ρ' σ H fs ∧ AftS Z T P' H fs D (k ρ') ∧ (∀ j p, P j = some p → p.2 ≠ none → P' j = some p) ∧ ∀ i' ∈ i :: lks, ∃ a vs, σ[i']? = some (some (.ref a)) ∧ H a = some (.lst vs) ∧ P' i' = some (.ref a, some vs) := fun {b os a vs} h1 h2 r1 hb q1 => by
      have hPi : pset P i (.ref a, some vs) i = some (.ref a, some vs) := if_pos rfl
      have hPj : ∀ j, j ≠ i → pset P i (.ref a, some vs) j = P j := fun j hj => if_neg hj
      refine rest r1 ?_ (fun j p h hn => ?_) ⟨a, vs, h1, h2, hPi⟩
      · cases e : lockA lks (ρ.set i (.lk (.lst os))) k with
        | nx ρ1 =>
          rw [e] at q1
          intro σ' H' fs' rp fr
          unfold unlR at q1
          cases c : unlS i b ρ1 with
          | none => simp only [c] at q1; exact q1.elim
          | some ρ2 =>
            simp only [c] at q1
            exact q1 σ' H' fs' (rp.unlock hPi hPj hb c) fr
        | rt o ρ1 =>
          rw [e] at q1
          intro v σ' H' fs' l rp fr
          unfold unlR at q1
          cases c : unlS i b ρ1 with
          | none => simp only [c] at q1; exact q1.elim
          | some ρ2 =>
            simp only [c] at q1
            exact q1 v σ' H' fs' l ⟨rp.rp.unlock hPi hPj hb c, rp.nd, rp.nt, rp.ar⟩ fr
        | ex x ρ1 =>
          rw [e] at q1
          intro cls d σ' H' fs' rx rp fr
          unfold unlR at q1
          cases c : unlS i b ρ1 with
          | none => simp only [c] at q1; exact q1.elim
          | some ρ2 =>
            simp only [c] at q1
            exact q1 cls d σ' H' fs' rx (rp.unlock hPi hPj hb c) fr
        | bk ρ1 => rw [e] at q1; exact q1.elim
        | ct ρ1 => rw [e] at q1; exact q1.elim
        | bad => rw [e] at q1; exact q1.elim
      · by_cases hj : j = i
        · subst hj
          rw [hb] at h
          cases b with
          | true => cases h; exact absurd rfl hn
          | false => cases h
        · rw [hPj j hj]; exact h
    cases es : ρ[i]? with
    | none => simp only [es] at q; exact q.elim
    | some s =>
      cases s with
      | un => simp only [es] at q; exact q.elim
      | vl o =>
        cases o with
        | lst os =>
          simp only [es] at q
          obtain ⟨a, vs, h1, h2, r1, h3, _⟩ := r.lock (.inl es)
          exact opened (b := false) h1 h2 r1 (h3 es) q
        | _ => simp only [es] at q; exact q.elim
      | io o =>
        cases o with
        | lst os =>
          simp only [es] at q
          obtain ⟨a, vs, h1, h2, r1, _, h4⟩ := r.lock (.inr es)
          exact opened (b := true) h1 h2 r1 (h4 es) q
        | _ => simp only [es] at q; exact q.elim
      | lk o =>
        simp only [es] at q
        obtain ⟨x, hx, v, rfl, _, vs, a, hp, rfl, _, ha⟩ := r.slot i _ es
        exact rest r q (fun _ _ h _ => h) ⟨a, vs, hx, ha, hp⟩

/-! ### for -/
def forL (g : TM) (body : SM) : List Dat → SM
  | [], ρ => .nx ρ
  | d :: r, ρ => RS (g (.fz d) ρ) fun _ ρ1 => match body ρ1 with
    | .nx ρ2 => forL g body r ρ2
    | .ct ρ2 => forL g body r ρ2
    | .bk ρ2 => .nx ρ2
    | z => z
def sFor (it : IM) (g : TM) (body : SM) : SM := fun ρ => RS (it ρ) fun p ρ1 => lockA p.2 ρ1 (forL g body p.1)
theorem Kp.of {K : PySem.W.Frag} {T : Addr → Prop} {P' : Pins} {ρ' : Env} {σ σ' : St} {H1 H' : Hp} {fs1 fs' : Nat → List Addr} {lks : List Nat} (hl : ∀ i ∈ lks, ∃ a vs, σ[i]? = some (some (.ref a)) ∧ H1 a = some (.lst vs) ∧ P' i = some (.ref a, some vs))
    (r : Rp K T P' ρ' σ' H' fs') (f : Fr H1 (Own fs1) H' (Own fs')) : Kp σ H1 fs1 lks H' := by
  refine ⟨fun a x e n => (f a x e n).1, fun i hi a vs h1 h2 => ?_⟩
  obtain ⟨a', vs', g1, g2, g3⟩ := hl i hi
  rw [h1] at g1
  cases g1
  rw [h2] at g2
  cases g2
  obtain ⟨s, hs⟩ := r.pl i _ g3
  obtain ⟨x, hx, q⟩ := r.slot i s hs
  cases s with
  | un => rw [q.2] at g3; cases g3
  | vl o => obtain ⟨_, _, e, _⟩ := q; rw [e] at g3; cases g3
  | io o => obtain ⟨_, _, e, _⟩ := q; rw [e] at g3; cases g3
  | lk o =>
    obtain ⟨v, _, _, vs2, a2, e, rfl, _, ha⟩ := q
    rw [e] at g3
    cases g3
    exact ha
theorem tFor_op {Z : Par} {it : IM} {S : List Nat} {g : TM} {body : SM} {D : Ends} {σ : St} {H : Hp} (h : tS Z (sFor it g body) D σ H) : tFor (tI Z it) (gD Z S g) (tS Z body) D σ H := by
  obtain ⟨T, P, ρ, fs, rp, q⟩ := h
  refine ⟨T, P, ρ, fs, rp, ?_⟩
  unfold sFor at q
  cases e1 : it ρ with
  | bad => rw [e1] at q; exact q
  | ex x ρ' => rw [e1] at q; exact q
  | ok p ρ1 =>
    obtain ⟨ds, lks⟩ := p
    rw [e1] at q
    simp only [RS] at q
    intro J H1 fs1 r1 f1 ⟨G, Y, w, hG, hY⟩
    have q : AftS Z T P H1 fs1 D (lockA lks ρ1 (forL g body ds)) := AftS.fr q f1
    obtain ⟨P', ρ2, r2, q2, _, hl⟩ := lockA_ok r1 q
    refine for_it w (fun i σ' H' => ∃ ρ' fs', Rp Z.K T P' ρ' σ' H' fs' ∧ Fr H1 (Own fs1) H' (Own fs') ∧ AftS Z T P' H' fs' D (forL g body (ds.drop i) ρ'))
      ⟨ρ2, fs1, r2, Fr.refl, q2⟩ (fun i σ' H' _ ⟨ρ', fs', r', f', _⟩ => hG H' (Kp.of hl r' f')) (fun i x σ' H2 H3 hi ⟨ρ', fs', r', f', q'⟩ y => ?_) (fun σ' H' ⟨ρ', fs', r', f', q'⟩ => ?_)
    · obtain ⟨ex, d, hd, rd⟩ := hY i H2 x H3 hi (Kp.of hl r' f') y
      have ed : ds.drop i = d :: ds.drop (i + 1) := by
        have hh := List.getElem?_eq_some_iff.mp hd
        rw [List.drop_eq_getElem_cons hh.1, hh.2]
      rw [ed] at q'
      have r3 : Rp Z.K T P' ρ' σ' H3 fs' := r'.grow ex fun a z => .inl z
      refine ⟨T, P', ρ', fs', .fz d, [], ⟨r3.tl0, .nil, (fun _ z => nomatch z), rfl, ?_⟩, ?_⟩
      · rw [Tl_nil]
        refine rd _ (hide_ex fun a u n e => ?_) fun b u hb e => ?_
        · obtain ⟨h1, n1⟩ := f' a u e fun z => n (.inr z)
          exact ⟨fun z => z.elim (fun z => n (.inl z)) n1, ex a u h1⟩
        · exact (hide_no (r'.hd hb)).trans e
      · have g0 : Fr H2 (Own fs') H3 (Ow [] fs') := fun a u e n => ⟨ex a u e, fun z => z.elim (fun z => nomatch z) n⟩
        cases e2 : g (.fz d) ρ' with
        | bad => simp only [forL, e2, RS] at q'; exact q'
        | ex x' ρ3 =>
          simp only [forL, e2, RS] at q'
          exact fun cls dd σ4 H4 fs4 rx r4 f4 => q' cls dd σ4 H4 fs4 rx r4 (g0.trans f4)
        | ok u ρ3 =>
          simp only [forL, e2, RS] at q'
          intro σ4 H4 fs4 _ r4 f4
          have f24 : Fr H2 (Own fs') H4 (Own fs4) := g0.trans f4
          refine ⟨T, P', ρ3, fs4, r4, ?_⟩
          cases e3 : body ρ3 with
          | nx ρ5 =>
            simp only [e3] at q'
            exact fun σ5 H5 fs5 r5 f5 => ⟨ρ5, fs5, r5, f'.trans (f24.trans f5), AftS.fr (AftS.fr q' f24) f5⟩
          | ct ρ5 =>
            simp only [e3] at q'
            exact fun σ5 H5 fs5 r5 f5 => ⟨ρ5, fs5, r5, f'.trans (f24.trans f5), AftS.fr (AftS.fr q' f24) f5⟩
          | bk ρ5 =>
            simp only [e3] at q'
            exact fun σ5 H5 fs5 r5 f5 => q' σ5 H5 fs5 r5 (f24.trans f5)
          | rt o ρ5 =>
            simp only [e3] at q'
            exact fun v σ5 H5 fs5 l r5 f5 => q' v σ5 H5 fs5 l r5 (f24.trans f5)
          | ex x ρ5 =>
            simp only [e3] at q'
            exact onX.fr0 q' f24
          | bad =>
            simp only [e3] at q'
            exact q'
    · rw [List.drop_length] at q'
      exact q' σ' H' fs' r' Fr.refl
section
variable {X : Cx} {W : WX} {pos : Pos} {tg iter c : Expr} {body : List Stmt} {it : IM} {S : List Nat} {g : TM} {gb : SM}
theorem ds_for (hp : PassesOwn (model X.prog X.w) X.A X.env X.xe) (hc : X.calm = true) (hi : DI X W tg iter it) (hg : DG X W tg S g) (hb : DSs X W body gb)
    (hs : ∀ x, foldedSetIterable iter X.env x = pure x := by intro _; rfl) : DS X W (.For tg iter body [] pos) (sFor it g gb) := ps_imp (ps_for hp hc hi hg hb hs) fun D σ H h => tFor_op (Z := zp X W) h
/-! ### while -/
def whileN (t : M Bool) (body : SM) : Nat → SM
  | 0, _ => .bad
  | n + 1, ρ => RS (t ρ) fun b ρ1 => if b then (match body ρ1 with
    | .nx ρ2 => whileN t body n ρ2
    | .ct ρ2 => whileN t body n ρ2
    | .bk ρ2 => .nx ρ2
    | z => z) else .nx ρ1
/-- more turns than any while here has -/
def FUEL : Nat := 1000000000
def sWhile (t : M Bool) (body : SM) : SM := whileN t body FUEL
theorem tWhile_op {Z : Par} {t : M Bool} {gb : SM} {D : Ends} {σ : St} {H : Hp} (h : tS Z (sWhile t gb) D σ H) : tWhile (tDT Z t) (tS Z gb) D σ H := by
  obtain ⟨T, P, ρ, fs, rp, q⟩ := h
  refine ⟨fun m σ' H' => ∃ ρ' fs', Rp Z.K T P ρ' σ' H' fs' ∧ AftS Z T P H' fs' D (whileN t gb m ρ'), ⟨FUEL, ρ, fs, rp, q⟩, fun m σ' H' ⟨ρ', fs', r', q'⟩ => ?_⟩
  refine ⟨T, P, ρ', fs', r', ?_⟩
  cases m with
  | zero => exact q'.elim
  | succ n =>
    unfold whileN at q'
    refine AftS.bindT (k := fun b ρ1 => if b then (match gb ρ1 with
      | .nx ρ2 => whileN t gb n ρ2
      | .ct ρ2 => whileN t gb n ρ2
      | .bk ρ2 => .nx ρ2
      | z => z) else .nx ρ1) q' fun b ρ1 H1 fs1 r1 f1 q1 => ?_
    cases b with
    | false =>
      rw [if_neg Bool.false_ne_true] at q1
      rw [if_neg Bool.false_ne_true]
      exact q1 σ' H1 fs1 r1 Fr.refl
    | true =>
      rw [if_pos rfl] at q1
      rw [if_pos rfl]
      refine ⟨fun σ2 H2 => ∃ ρ2 fs2, Rp Z.K T P ρ2 σ2 H2 fs2 ∧ AftS Z T P H2 fs2 D (whileN t gb n ρ2), fun σ2 H2 x => ⟨n, Nat.lt_succ_self n, x⟩, T, P, ρ1, fs1, r1, ?_⟩
      cases e3 : gb ρ1 with
      | nx ρ5 => simp only [e3] at q1; exact fun σ5 H5 fs5 r5 f5 => ⟨ρ5, fs5, r5, AftS.fr q1 f5⟩
      | ct ρ5 => simp only [e3] at q1; exact fun σ5 H5 fs5 r5 f5 => ⟨ρ5, fs5, r5, AftS.fr q1 f5⟩
      | bk ρ5 => simp only [e3] at q1; exact q1
      | rt o ρ5 => simp only [e3] at q1; exact q1
      | ex x ρ5 => simp only [e3] at q1; exact q1
      | bad => simp only [e3] at q1; exact q1
theorem ds_while {t : M Bool} (hp : PassesOwn (model X.prog X.w) X.A X.env X.xe) (hc : DT X W c t) (hb : DSs X W body gb) : DS X W (.While c body [] pos) (sWhile t gb) := ps_imp (ps_while hp hc hb) fun D σ H h => tWhile_op (Z := zp X W) h
/-! ### x op= e -/
def IpOk (K : PySem.W.Frag) (r : TIp) (op : OT → OT → Option OT) : Prop := ∀ G H o1 o2 v1 v2 f1 f2 o Q, Ex G H → RepO K G H o1 v1 f1 → RepO K G H o2 v2 f2 → op o1 o2 = some o → Res K G H o Q → r v1 v2 H Q
def sAug (i : Nat) (op : OT → OT → Option OT) (f : M Arg) : SM := fun ρ => RS (x2 op (xVar i) f ρ) fun a ρ1 => match a with
  | .tmp o => RS (gNm i o ρ1) fun _ ρ2 => .nx ρ2
  | .slot _ => .bad
theorem tAug_op {Z : Par} {i : Nat} {r : TIp} {op : OT → OT → Option OT} (ho : IpOk Z.K r op) {f : M Arg} {D : Ends} {σ : St} {H : Hp} (h : tS Z (sAug i op f) D σ H) : tAug i (tD Z f) r D σ H := by
  have key : tD Z (x2 op (xVar i) f) σ H (fun z H2 => D.nx (σ.set i (some z)) H2) := by
    obtain ⟨T, P, ρ, fs, rp, q⟩ := h
    refine ⟨T, P, ρ, fs, rp, ?_⟩
    unfold sAug at q
    cases e1 : x2 op (xVar i) f ρ with
    | bad => rw [e1] at q; exact q
    | ex x ρ' => rw [e1] at q; exact q
    | ok a ρ1 =>
      rw [e1] at q
      simp only [RS] at q
      cases a with
      | slot j => exact q.elim
      | tmp o =>
        simp only at q
        intro v H1 fs1 l r1 f1
        have hn : gName i v σ H1 D.nx := by
          refine gNm_name (Z := Z) ⟨T, P, ρ1, fs1, o, l, r1, ?_⟩
          cases e2 : gNm i o ρ1 with
          | bad => rw [e2] at q; exact q
          | ex x ρ' =>
            unfold gNm at e2
            split at e2 <;> cases e2
          | ok u ρ2 =>
            rw [e2] at q
            exact fun σ' H' fs' _ rp' fr => q σ' H' fs' rp' (f1.trans fr)
        exact hn
  have k2 := t2_op (Z := Z) (r := r) ho key
  obtain ⟨T, P, ρ, fs, rp, q⟩ := k2
  unfold xVar at q
  cases e : slv ρ[i]? with
  | none => rw [e] at q; exact q.elim
  | some o =>
    rw [e] at q
    obtain ⟨v, hv⟩ := rp.has e
    exact ⟨v, hv, q v H fs [] ⟨rp.tl0, .nil, (fun _ z => nomatch z), rfl, hv⟩ (Fr.refl.imp fun x z => z.elim (fun z => nomatch z) id)⟩
theorem ds_aug {i : Nat} {r : TIp} {op : OT → OT → Option OT} {st : Stmt} {f : M Arg} (hk : IpOk X.K r op) (h : PS X st (tAug i (tD (zp X W) f) r)) : DS X W st (sAug i op f) := ps_imp h fun D σ H q => tAug_op (Z := zp X W) hk q
end
end Lay

namespace Lay
open PySem PySem.Spec L2

/-! ### what an iterable gives -/
section
variable {K : PySem.W.Frag} {T : Addr → Prop} {P : Pins} {ρ : Env} {σ : St} {H H1 : Hp} {fs fs1 : Nat → List Addr} {lks : List Nat}
theorem RepDs.get {G : Hp} : ∀ {ds : List Dat} {vs : List V} {i : Nat} {x : V}, RepDs K G ds vs → vs[i]? = some x → ∃ d, ds[i]? = some d ∧ RepD K G d x
  | [], _, i, x, h, e => by rw [show _ = [] from h] at e; simp at e
  | d :: r, _, 0, x, h, e => by
    obtain ⟨v, r', rfl, q1, q2⟩ := h
    simp only [List.getElem?_cons_zero, Option.some.injEq] at e
    subst e
    exact ⟨d, rfl, q1⟩
  | d :: r, _, i + 1, x, h, e => by
    obtain ⟨v, r', rfl, q1, q2⟩ := h
    rw [List.getElem?_cons_succ] at e
    obtain ⟨d', h1, h2⟩ := RepDs.get q2 e
    exact ⟨d', by rw [List.getElem?_cons_succ]; exact h1, h2⟩
/-- the items of a list that may be walked: what its slot is, if it must be locked -/
def allFz : List OT → Option (List Dat)
  | [] => some []
  | .fz d :: r => match allFz r with
    | some ds => some (d :: ds)
    | none => none
  | _ :: _ => none
theorem allFz_eq : ∀ {os : List OT} {ds : List Dat}, allFz os = some ds → os = ds.map .fz
  | [], ds, h => by cases h; rfl
  | o :: r, ds, h => by
    cases o with
    | fz d =>
      unfold allFz at h
      cases c : allFz r with
      | none => simp [c] at h
      | some ds' =>
        simp only [c, Option.some.injEq] at h
        subst h
        rw [List.map_cons, ← allFz_eq c]
    | _ => cases h
theorem RepOs.ds {G H : Hp} : ∀ {ds : List Dat} {vs : List V} {l : List Addr}, RepOs K G H (ds.map .fz) vs l → RepDs K G ds vs
  | [], _, _, h => h.1
  | d :: r, _, _, h => by
    obtain ⟨v, r', f1, f2, rfl, rfl, q1, q2⟩ := h
    exact ⟨v, r', rfl, q1.2, RepOs.ds q2⟩
theorem IsIt.list {a : Addr} {vs : List V} {ds : List Dat} (hS : ∀ H2, Kp σ H1 fs1 lks H2 → SqL K H2 a vs) (hd : RepDs K (hide (Hd T fs1) H1) ds vs) : IsIt K T σ H1 fs1 lks (Itl K a) ds := by
  have hl : vs.length = ds.length := hd.length
  refine ⟨_, _, by rw [← hl]; exact walk_list, hS, fun i H2 x H3 hi hk y => ?_⟩
  obtain ⟨rfl, e⟩ := y
  obtain ⟨d, h1, h2⟩ := hd.get e
  exact ⟨Ex.refl _, d, h1, fun G' ex _ => RepD.mono ex d x h2⟩
theorem IsIt.tup {a : Addr} {vs : List V} {ds : List Dat} (hS : ∀ H2, Kp σ H1 fs1 lks H2 → SqT K H2 a vs) (hd : RepDs K (hide (Hd T fs1) H1) ds vs) : IsIt K T σ H1 fs1 lks (Itt K a) ds := by
  have hl : vs.length = ds.length := hd.length
  refine ⟨_, _, by rw [← hl]; exact walk_tup, hS, fun i H2 x H3 hi hk y => ?_⟩
  obtain ⟨rfl, e⟩ := y
  obtain ⟨d, h1, h2⟩ := hd.get e
  exact ⟨Ex.refl _, d, h1, fun G' ex _ => RepD.mono ex d x h2⟩
theorem Kp.sqT {H2 : Hp} {a : Addr} {vs : List V} (k : Kp σ H1 fs1 lks H2) (h : SqT K (hide (Hd T fs1) H1) a vs) : SqT K H2 a vs := by
  have ex : Ex (hide (Hd T fs1) H1) H2 := fun b x e => by
    obtain ⟨n, e⟩ := of_hide e
    exact k.1 b x e fun z => n (.inr z)
  exact ex.sqT h
theorem Kp.sqL {H2 : Hp} {a : Addr} {vs : List V} (k : Kp σ H1 fs1 lks H2) (h : SqL K (hide (Hd T fs1) H1) a vs) : SqL K H2 a vs := by
  have ex : Ex (hide (Hd T fs1) H1) H2 := fun b x e => by
    obtain ⟨n, e⟩ := of_hide e
    exact k.1 b x e fun z => n (.inr z)
  exact ex.sqL h
end
/-- the items of what a walk is over: a name's list is locked, a new one is given away -/
def itemsOf (ρ : Env) : Arg → Option (List Dat × List Nat × Env)
  | .tmp (.fz (.tup ds)) => some (ds, [], ρ)
  | .tmp (.fz (.lst ds)) => some (ds, [], ρ)
  | .tmp (.lst os) => some (frzs os, [], ρ)
  | .tmp _ => none
  | .slot i => match ρ[i]? with
    | some (.vl (.fz (.tup ds))) => some (ds, [], ρ)
    | some (.io (.fz (.tup ds))) => some (ds, [], ρ)
    | some (.lk (.fz (.tup ds))) => some (ds, [], ρ)
    | some (.vl (.fz (.lst ds))) => some (ds, [], ρ)
    | some (.io (.fz (.lst ds))) => some (ds, [], ρ)
    | some (.lk (.fz (.lst ds))) => some (ds, [], ρ)
    | some (.vl (.lst os)) => match allFz os with
      | some ds => some (ds, [i], ρ)
      | none => some (frzs os, [], ρ.set i (.vl (.fz (.lst (frzs os)))))
    | some (.io (.lst os)) => match allFz os with
      | some ds => some (ds, [i], ρ)
      | none => none
    | some (.lk (.lst os)) => match allFz os with
      | some ds => some (ds, [i], ρ)
      | none => none
    | _ => none
/-- for .. in e -/
def iSeq (f : M Arg) : IM := fun ρ => (f ρ).bind fun a ρ1 => match itemsOf ρ1 a with
  | some (ds, lks, ρ2) => .ok (ds, lks) ρ2
  | none => .bad
def SqIt (K : PySem.W.Frag) (T : Addr → Prop) (σ : St) (H1 : Hp) (fs1 : Nat → List Addr) (lks : List Nat) (v : V) (ds : List Dat) : Prop :=
  ∃ a vs, v = .ref a ∧ RepDs K (hide (Hd T fs1) H1) ds vs ∧ ((∀ H2, Kp σ H1 fs1 lks H2 → SqT K H2 a vs) ∨ ∀ H2, Kp σ H1 fs1 lks H2 → SqL K H2 a vs)
theorem Kp.refl {σ : St} {H1 : Hp} {fs1 : Nat → List Addr} {lks : List Nat} : Kp σ H1 fs1 lks H1 := ⟨fun _ _ e _ => e, fun _ _ _ _ _ e => e⟩
section
variable {K : PySem.W.Frag} {T : Addr → Prop} {P : Pins} {ρ ρ2 : Env} {σ : St} {H H1 : Hp} {fs fs1 : Nat → List Addr} {lks : List Nat} {ds : List Dat}
theorem itemsOf_ok {a : Arg} {v : V} {l : List Addr} (r : RpA K T P ρ σ H fs a v l) (e : itemsOf ρ a = some (ds, lks, ρ2)) : ∃ fs2, Rp K T P ρ2 σ H fs2 ∧ (∀ b, Own fs2 b → Own fs b) ∧ SqIt K T σ H fs2 lks v ds := by
  have rl := r.rp.unl
  have exl : Ex (hide (Hd (Tl T l) fs) H) (hide (Hd T fs) H) := hide_ex fun a x n e => ⟨fun z => n (z.imp Or.inl id), e⟩
  have tupd : ∀ {ds : List Dat} {G : Hp}, Ex G (hide (Hd T fs) H) → RepD K G (.tup ds) v → SqIt K T σ H fs [] v ds := fun ex h => by
    obtain ⟨b, vs, rfl, q1, q2⟩ := h
    exact ⟨b, vs, rfl, RepDs.mono ex _ vs q2, .inl fun H2 k => k.sqT (ex.sqT q1)⟩
  have lstd : ∀ {ds : List Dat} {G : Hp}, Ex G (hide (Hd T fs) H) → RepD K G (.lst ds) v → SqIt K T σ H fs [] v ds := fun ex h => by
    obtain ⟨b, vs, rfl, q1, q2⟩ := h
    exact ⟨b, vs, rfl, RepDs.mono ex _ vs q2, .inr fun H2 k => k.sqL (.inl (.inl (ex b _ q1)))⟩
  cases a with
  | tmp o =>
    have har : RepO K (hide (Hd (Tl T l) fs) H) H o v l := r.ar
    cases o with
    | fz d =>
      cases d with
      | tup ds' => cases e; exact ⟨fs, rl, fun _ z => z, tupd exl har.2⟩
      | lst ds' => cases e; exact ⟨fs, rl, fun _ z => z, lstd exl har.2⟩
      | _ => cases e
    | lst os =>
      cases e
      have hl : RepD K (hide (Hd T fs) H) (frz (.lst os)) v := RepO.freeze exl (.lst os) v l (fun b hb x e => (hide_no (fun z => z.elim (r.nt b hb) (r.rp.noair b hb))).trans e) har
      exact ⟨fs, rl, fun _ z => z, lstd (Ex.refl _) hl⟩
    | dic os => cases e
  | slot i =>
    obtain ⟨rfl, hv⟩ := r.ar
    have rl' : Rp K T P ρ σ H fs := rl
    unfold itemsOf at e
    cases es : ρ[i]? with
    | none => simp [es] at e
    | some s =>
      obtain ⟨x, hx, q⟩ := rl'.slot i s es
      have val : ∀ o, slv (some s) = some o → RepO K (hide (Hd T fs) H) H o v (fs i) := fun o e2 => by
        obtain ⟨w, hw, q⟩ := slv_of q e2
        rw [hv] at hx
        cases hx
        cases hw
        exact q
      -- a list that is locked
      have lock : ∀ {os : List OT}, slv (some s) = some (.lst os) → os = ds.map .fz → SqIt K T σ H fs [i] v ds := fun {os} e2 e3 => by
        obtain ⟨b, vs, f, rfl, ef, hb, ro⟩ := val _ e2
        subst e3
        exact ⟨b, vs, rfl, RepOs.ds ro, .inr fun H2 k => .inl (.inl (k.2 i List.mem_cons_self b vs hv hb))⟩
      cases s with
      | un => simp [es] at e
      | vl o =>
        cases o with
        | fz d =>
          cases d with
          | tup ds' => simp only [es, Option.some.injEq, Prod.mk.injEq] at e; obtain ⟨rfl, rfl, rfl⟩ := e; exact ⟨fs, rl', fun _ z => z, tupd (Ex.refl _) (val _ rfl).2⟩
          | lst ds' => simp only [es, Option.some.injEq, Prod.mk.injEq] at e; obtain ⟨rfl, rfl, rfl⟩ := e; exact ⟨fs, rl', fun _ z => z, lstd (Ex.refl _) (val _ rfl).2⟩
          | _ => simp [es] at e
        | lst os =>
          simp only [es] at e
          cases c : allFz os with
          | some ds' =>
            simp only [c, Option.some.injEq, Prod.mk.injEq] at e
            obtain ⟨rfl, rfl, rfl⟩ := e
            exact ⟨fs, rl', fun _ z => z, lock rfl (allFz_eq c)⟩
          | none =>
            simp only [c, Option.some.injEq, Prod.mk.injEq] at e
            obtain ⟨rfl, rfl, rfl⟩ := e
            obtain ⟨h1, h2, v', h3, h4⟩ := rl'.freeze es
            rw [hv] at h3
            cases h3
            obtain ⟨b, vs, rfl, q1, q2⟩ := h4
            exact ⟨_, h1, h2, b, vs, rfl, q2, .inr fun H2 k => k.sqL (.inl (.inl q1))⟩
        | dic os => simp [es] at e
      | io o =>
        cases o with
        | fz d =>
          cases d with
          | tup ds' => simp only [es, Option.some.injEq, Prod.mk.injEq] at e; obtain ⟨rfl, rfl, rfl⟩ := e; exact ⟨fs, rl', fun _ z => z, tupd (Ex.refl _) (val _ rfl).2⟩
          | lst ds' => simp only [es, Option.some.injEq, Prod.mk.injEq] at e; obtain ⟨rfl, rfl, rfl⟩ := e; exact ⟨fs, rl', fun _ z => z, lstd (Ex.refl _) (val _ rfl).2⟩
          | _ => simp [es] at e
        | lst os =>
          simp only [es] at e
          cases c : allFz os with
          | some ds' =>
            simp only [c, Option.some.injEq, Prod.mk.injEq] at e
            obtain ⟨rfl, rfl, rfl⟩ := e
            exact ⟨fs, rl', fun _ z => z, lock rfl (allFz_eq c)⟩
          | none => simp [c] at e
        | dic os => simp [es] at e
      | lk o =>
        cases o with
        | fz d =>
          cases d with
          | tup ds' => simp only [es, Option.some.injEq, Prod.mk.injEq] at e; obtain ⟨rfl, rfl, rfl⟩ := e; exact ⟨fs, rl', fun _ z => z, tupd (Ex.refl _) (val _ rfl).2⟩
          | lst ds' => simp only [es, Option.some.injEq, Prod.mk.injEq] at e; obtain ⟨rfl, rfl, rfl⟩ := e; exact ⟨fs, rl', fun _ z => z, lstd (Ex.refl _) (val _ rfl).2⟩
          | _ => simp [es] at e
        | lst os =>
          simp only [es] at e
          cases c : allFz os with
          | some ds' =>
            simp only [c, Option.some.injEq, Prod.mk.injEq] at e
            obtain ⟨rfl, rfl, rfl⟩ := e
            exact ⟨fs, rl', fun _ z => z, lock rfl (allFz_eq c)⟩
          | none => simp [c] at e
        | dic os => simp [es] at e
end
/-- a list or a tuple is walked -/
def iSq (K : PySem.W.Frag) (te : TE) : TI := fun σ H R => te σ H fun x H1 => ∃ a, x = .ref a ∧ (((∃ xs, SqL K H1 a xs) ∧ R (Itl K a) H1) ∨ ((∃ xs, SqT K H1 a xs) ∧ R (Itt K a) H1))
theorem pi_sq {X : Cx} {tg l : Expr} {tl : TE} (hl : PE X l tl) : PI X tg l (iSq X.K tl) := by
  refine ⟨fun pins s σ H R I h => ?_⟩
  refine thn (hl.run pins s σ H _ I h) fun v s1 ⟨x, H1, I1, r1, q1⟩ => ?_
  obtain ⟨a, e, q⟩ := q1
  subst e
  cases r1
  rcases q with ⟨⟨xs, hq⟩, q⟩ | ⟨⟨xs, hq⟩, q⟩
  · obtain ⟨its, rv, p, hz⟩ := I1.list hq
    refine PySem.wpAny_pyIter_list p.isList ?_
    refine ⟨s1.heap.objs.size, [s1.heap.objs.size], _, _, H1, rfl, I1.kept (t' := s1.toks) fun b o e => Heap.get?_push_of_some _ e, turn_list a _, ⟨_, Heap.get?_push_size _ rfl, rfl, rfl⟩, fun b hb => ?_, q⟩
    have e : b = s1.heap.objs.size := by simpa using hb
    subst e
    exact I1.fpOk (Nat.le_refl _) (I1.hok.fresh (Nat.le_refl _))
  · obtain ⟨its, rv, p, hz⟩ := I1.tuple hq
    refine PySem.wpAny_pyIter_tuple (show s1.heap.IsTuple a its.toArray from p) ?_
    refine ⟨s1.heap.objs.size, [s1.heap.objs.size], _, _, H1, rfl, I1.kept (t' := s1.toks) fun b o e => Heap.get?_push_of_some _ e, turn_tuple a _, ⟨_, Heap.get?_push_size _ rfl, rfl, rfl⟩, fun b hb => ?_, q⟩
    have e : b = s1.heap.objs.size := by simpa using hb
    subst e
    exact I1.fpOk (Nat.le_refl _) (I1.hok.fresh (Nat.le_refl _))
section
variable {X : Cx} {W : WX} {tg e : Expr} {f : M Arg}
theorem di_seq (he : DE X W e f) : DI X W tg e (iSeq f) := pi_imp (pi_sq he) fun σ H Q ⟨T, P, ρ, fs, rp, q⟩ => by
  refine ⟨T, P, ρ, fs, rp, ?_⟩
  unfold iSeq at q
  cases e1 : f ρ with
  | bad => rw [e1] at q; exact q
  | ex x ρ' => rw [e1] at q; exact q
  | ok a ρ1 =>
    rw [e1] at q
    simp only [R.bind] at q
    intro v H1 fs1 l1 r1 f1
    cases c : itemsOf ρ1 a with
    | none => simp only [c] at q; exact q.elim
    | some p =>
      obtain ⟨ds, lks, ρ2⟩ := p
      simp only [c] at q
      obtain ⟨fs2, r2, s2, b, vs, rfl, rd, h⟩ := itemsOf_ok r1 c
      have ff : Fr H (Own fs) H1 (Own fs2) := f1.imp fun x z => .inr (s2 x z)
      refine ⟨b, rfl, ?_⟩
      rcases h with h | h
      · exact .inr ⟨⟨vs, h H1 Kp.refl⟩, q _ H1 fs2 r2 ff (IsIt.tup h rd)⟩
      · exact .inl ⟨⟨vs, h H1 Kp.refl⟩, q _ H1 fs2 r2 ff (IsIt.list h rd)⟩
end
/-! ### ranges -/
def rngL (lo : Int) : Nat → List Dat
  | 0 => []
  | n + 1 => .int lo :: rngL (lo + 1) n
theorem rngL_length : ∀ (n : Nat) (lo : Int), (rngL lo n).length = n
  | 0, _ => rfl
  | n + 1, lo => by show (rngL (lo + 1) n).length + 1 = _; rw [rngL_length n]
theorem rngL_get : ∀ (n : Nat) (lo : Int) (i : Nat), i < n → (rngL lo n)[i]? = some (.int (lo + i))
  | 0, _, i, h => absurd h (Nat.not_lt_zero i)
  | n + 1, lo, 0, _ => by simp [rngL]
  | n + 1, lo, i + 1, h => by
    show (rngL (lo + 1) n)[i]? = _
    rw [rngL_get n (lo + 1) i (Nat.lt_of_succ_lt_succ h)]
    congr 2
    show lo + 1 + (i : Int) = lo + ((i + 1 : Nat) : Int)
    omega
/-- range(n), range(a, b) of numbers in the line -/
def rngOk (i : Int) : Bool := decide (-(2 ^ 62) ≤ i) && decide (i < 2 ^ 62)
def iRg1 (f : M (List Arg)) : IM := fun ρ => (f ρ).bind fun as ρ1 => match looks ρ1 as with
  | some [.fz (.int j)] => if rngOk j then .ok (rngL 0 j.toNat, []) ρ1 else .bad
  | _ => .bad
def iRg2 (f : M (List Arg)) : IM := fun ρ => (f ρ).bind fun as ρ1 => match looks ρ1 as with
  | some [.fz (.int i), .fz (.int j)] => if rngOk i && rngOk j then .ok (rngL i (j - i).toNat, []) ρ1 else .bad
  | _ => .bad
theorem IsIt.range {K : PySem.W.Frag} {T : Addr → Prop} {σ : St} {H1 : Hp} {fs1 : Nat → List Addr} {lks : List Nat} {lo : Int} {n : Nat} : IsIt K T σ H1 fs1 lks (Itr lo n) (rngL lo n) := by
  refine ⟨_, _, by rw [rngL_length]; exact walk_range, fun _ _ => True.intro, fun i H2 x H3 hi _ y => ?_⟩
  obtain ⟨rfl, rfl⟩ := y
  rw [rngL_length] at hi
  exact ⟨Ex.refl _, _, rngL_get n lo i hi, fun G' _ _ => rfl⟩
section
variable {X : Cx} {W : WX} {tg a b : Expr} {p pos : Pos} {f : M (List Arg)}
theorem di_rng1 (hg : Gl X "range") (hm : X.mg "range" = none) (ha : DA X W [a] f) (hs : starEach [a] X.env = [(false, eval a X.env)] := by rfl) : DI X W tg (.Call (.Name "range" p) [a] [] pos) (iRg1 f) := pi_imp (pi_range1 hg hm ha hs) fun σ H Q ⟨T, P, ρ, fs, rp, q⟩ => by
  refine ⟨T, P, ρ, fs, rp, ?_⟩
  unfold iRg1 at q
  cases e1 : f ρ with
  | bad => rw [e1] at q; exact q
  | ex x ρ' => rw [e1] at q; exact q
  | ok as ρ1 =>
    rw [e1] at q
    simp only [R.bind] at q
    intro vs H1 fs1 l1 r1 f1
    cases c : looks ρ1 as with
    | none => simp only [c] at q; exact q.elim
    | some os =>
      simp only [c] at q
      have sv := see_all r1.rp r1.ar c
      split at q
      · rename_i j heq
        cases heq
        obtain ⟨v, r', _, rfl, ⟨_, hv⟩, hr⟩ := sv
        cases (show v = .int j from hv)
        cases (show r' = [] from hr)
        by_cases h : rngOk j = true
        · rw [if_pos h] at q
          simp only [rngOk, Bool.and_eq_true, decide_eq_true_eq] at h
          exact ⟨j, rfl, h.1, h.2, q _ H1 fs1 r1.rp.unl (f1.imp fun _ z => .inr z) IsIt.range⟩
        · rw [if_neg h] at q; exact q.elim
      · exact q.elim
theorem di_rng2 (hg : Gl X "range") (hm : X.mg "range" = none) (ha : DA X W [a, b] f) (hs : starEach [a, b] X.env = [(false, eval a X.env), (false, eval b X.env)] := by rfl) (hs2 : starEach [b] X.env = [(false, eval b X.env)] := by rfl) : DI X W tg (.Call (.Name "range" p) [a, b] [] pos) (iRg2 f) := pi_imp (pi_range2 hg hm ha hs hs2) fun σ H Q ⟨T, P, ρ, fs, rp, q⟩ => by
  refine ⟨T, P, ρ, fs, rp, ?_⟩
  unfold iRg2 at q
  cases e1 : f ρ with
  | bad => rw [e1] at q; exact q
  | ex x ρ' => rw [e1] at q; exact q
  | ok as ρ1 =>
    rw [e1] at q
    simp only [R.bind] at q
    intro vs H1 fs1 l1 r1 f1
    cases c : looks ρ1 as with
    | none => simp only [c] at q; exact q.elim
    | some os =>
      simp only [c] at q
      have sv := see_all r1.rp r1.ar c
      split at q
      · rename_i i j heq
        cases heq
        obtain ⟨v, r', _, rfl, ⟨_, hv⟩, v2, r2, _, rfl, ⟨_, hv2⟩, hr⟩ := sv
        cases (show v = .int i from hv)
        cases (show v2 = .int j from hv2)
        cases (show r2 = [] from hr)
        by_cases h : (rngOk i && rngOk j) = true
        · rw [if_pos h] at q
          simp only [rngOk, Bool.and_eq_true, decide_eq_true_eq] at h
          exact ⟨i, j, rfl, ⟨h.1.1, h.1.2, h.2.1, h.2.2⟩, q _ H1 fs1 r1.rp.unl (f1.imp fun _ z => .inr z) IsIt.range⟩
        · rw [if_neg h] at q; exact q.elim
      · exact q.elim
end
end Lay

namespace Lay
open PySem PySem.Spec L2

/-! ### list comprehensions -/
def lockE : List Nat → Env → Option (Env × List (Nat × Bool))
  | [], ρ => some (ρ, [])
  | i :: r, ρ => match ρ[i]? with
    | some (.vl (.lst os)) => match lockE r (ρ.set i (.lk (.lst os))) with
      | some (ρ2, us) => some (ρ2, us ++ [(i, false)])
      | none => none
    | some (.io (.lst os)) => match lockE r (ρ.set i (.lk (.lst os))) with
      | some (ρ2, us) => some (ρ2, us ++ [(i, true)])
      | none => none
    | some (.lk _) => lockE r ρ
    | _ => none
def unlE : List (Nat × Bool) → Env → Option Env
  | [], ρ => some ρ
  | (i, b) :: us, ρ => match unlS i b ρ with
    | some ρ1 => unlE us ρ1
    | none => none
theorem unlE_app : ∀ {us vs : List (Nat × Bool)} {ρ ρ2 : Env}, unlE (us ++ vs) ρ = some ρ2 → ∃ ρ1, unlE us ρ = some ρ1 ∧ unlE vs ρ1 = some ρ2
  | [], vs, ρ, ρ2, h => ⟨ρ, rfl, h⟩
  | (i, b) :: us, vs, ρ, ρ2, h => by
    unfold unlE at h
    rw [List.cons_append] at h
    cases c : unlS i b ρ with
    | none => simp [unlE, c] at h
    | some ρ1 =>
      simp only [c] at h
      obtain ⟨ρ3, h1, h2⟩ := unlE_app h
      exact ⟨ρ3, by simp only [unlE, c]; exact h1, h2⟩
section
variable {K : PySem.W.Frag} {σ : St} {H : Hp} {fs : Nat → List Addr}
theorem lockE_ok : ∀ {lks : List Nat} {T : Addr → Prop} {P : Pins} {ρ ρ2 : Env} {us : List (Nat × Bool)}, Rp K T P ρ σ H fs → lockE lks ρ = some (ρ2, us) →
    ∃ P', Rp K T P' ρ2 σ H fs ∧ (∀ i ∈ lks, ∃ a vs, σ[i]? = some (some (.ref a)) ∧ H a = some (.lst vs) ∧ P' i = some (.ref a, some vs)) ∧ (∀ j p, P j = some p → p.2 ≠ none → P' j = some p) ∧
      ∀ {T' : Addr → Prop} {ρ3 ρ4 : Env} {σ' : St} {H' : Hp} {fs' : Nat → List Addr}, Rp K T' P' ρ3 σ' H' fs' → unlE us ρ3 = some ρ4 → Rp K T' P ρ4 σ' H' fs'
  | [], T, P, ρ, ρ2, us, r, e => by
    cases e
    refine ⟨P, r, (fun _ z => nomatch z), (fun _ _ h _ => h), fun r3 e3 => ?_⟩
    cases e3
    exact r3
  | i :: lks, T, P, ρ, ρ2, us, r, e => by
    have go : ∀ {b : Bool} {os : List OT}, (ρ[i]? = some (.vl (.lst os)) ∧ b = false ∨ ρ[i]? = some (.io (.lst os)) ∧ b = true) → (match lockE lks (ρ.set i (.lk (.lst os))) with
        | some (ρ2, us) => some (ρ2, us ++ [(i, b)])
        | none => none) = some (ρ2, us) → ∃ P', Rp K T P' ρ2 σ H fs ∧ (∀ i' ∈ i :: lks, ∃ a vs, σ[i']? = some (some (.ref a)) ∧ H a = some (.lst vs) ∧ P' i' = some (.ref a, some vs)) ∧ (∀ j p, P j = some p → p.2 ≠ none → P' j = some p) ∧
      ∀ {T' : Addr → Prop} {ρ3 ρ4 : Env} {σ' : St} {H' : Hp} {fs' : Nat → List Addr}, Rp K T' P' ρ3 σ' H' fs' → unlE us ρ3 = some ρ4 → Rp K T' P ρ4 σ' H' fs' := fun {b os} hs e2 => by
      obtain ⟨a, vs, h1, h2, r1, h3, h4⟩ := r.lock (hs.elim (fun z => .inl z.1) (fun z => .inr z.1))
      have hb : P i = if b then some (.ref a, none) else none := by
        rcases hs with ⟨z, rfl⟩ | ⟨z, rfl⟩
        · exact h3 z
        · exact h4 z
      have hPi : pset P i (.ref a, some vs) i = some (.ref a, some vs) := if_pos rfl
      have hPj : ∀ j, j ≠ i → pset P i (.ref a, some vs) j = P j := fun j hj => if_neg hj
      cases c : lockE lks (ρ.set i (.lk (.lst os))) with
      | none => rw [c] at e2; cases e2
      | some p =>
        obtain ⟨ρ5, us5⟩ := p
        rw [c] at e2
        simp only [Option.some.injEq, Prod.mk.injEq] at e2
        obtain ⟨rfl, rfl⟩ := e2
        obtain ⟨P', g1, g2, g3, g4⟩ := lockE_ok r1 c
        have kp : ∀ j p, P j = some p → p.2 ≠ none → pset P i (.ref a, some vs) j = some p := fun j p h hn => by
          by_cases hj : j = i
          · subst hj
            rw [hb] at h
            cases b with
            | true => cases h; exact absurd rfl hn
            | false => cases h
          · rw [hPj j hj]; exact h
        refine ⟨P', g1, fun i' hi' => ?_, fun j p h hn => g3 j p (kp j p h hn) hn, fun r3 e3 => ?_⟩
        · rcases List.mem_cons.mp hi' with z | z
          · subst z
            exact ⟨a, vs, h1, h2, g3 i' _ hPi (fun z => nomatch z)⟩
          · exact g2 i' z
        · obtain ⟨ρ6, k1, k2⟩ := unlE_app e3
          have r6 := g4 r3 k1
          unfold unlE at k2
          cases c2 : unlS i b ρ6 with
          | none => rw [c2] at k2; cases k2
          | some ρ7 =>
            rw [c2] at k2
            have k2 : some ρ7 = some _ := k2
            cases k2
            exact r6.unlock hPi hPj hb c2
    unfold lockE at e
    cases es : ρ[i]? with
    | none => simp [es] at e
    | some s =>
      cases s with
      | un => simp [es] at e
      | vl o =>
        cases o with
        | lst os => simp only [es] at e; exact go (.inl ⟨es, rfl⟩) e
        | _ => simp [es] at e
      | io o =>
        cases o with
        | lst os => simp only [es] at e; exact go (.inr ⟨es, rfl⟩) e
        | _ => simp [es] at e
      | lk o =>
        simp only [es] at e
        obtain ⟨P', g1, g2, g3, g4⟩ := lockE_ok r e
        obtain ⟨x, hx, v, rfl, _, vs, a, hp, rfl, _, ha⟩ := r.slot i _ es
        refine ⟨P', g1, fun i' hi' => ?_, g3, g4⟩
        rcases List.mem_cons.mp hi' with z | z
        · subst z
          exact ⟨a, vs, hx, ha, g3 i' _ hp (fun z => nomatch z)⟩
        · exact g2 i' z
end
def wipeE : List Nat → Env → Env
  | [], ρ => ρ
  | v :: vs, ρ => (wipeE vs ρ).set v .un
/-- the own names of a comprehension get back what they were outside -/
def restE (ρ0 : Env) : List Nat → Env → Env
  | [], ρ => ρ
  | v :: vs, ρ => match ρ0[v]? with
    | some s => (restE ρ0 vs ρ).set v s
    | none => restE ρ0 vs ρ
/-- whose is hidden within -/
def wT (fs : Nat → List Addr) (T : Addr → Prop) : List Nat → Addr → Prop
  | [] => T
  | v :: vs => fun a => wT fs T vs a ∨ a ∈ fs v
def wP (P : Pins) (vs : List Nat) : Pins := fun j => if j ∈ vs then none else P j
def wF (fs : Nat → List Addr) (vs : List Nat) : Nat → List Addr := fun j => if j ∈ vs then [] else fs j
theorem wT_iff {fs : Nat → List Addr} {T : Addr → Prop} {a : Addr} : ∀ {vs : List Nat}, wT fs T vs a ↔ T a ∨ ∃ v ∈ vs, a ∈ fs v
  | [] => by simp [wT]
  | v :: vs => by
    show (wT fs T vs a ∨ a ∈ fs v) ↔ _
    rw [wT_iff (vs := vs)]
    constructor
    · rintro ((h | ⟨w, h1, h2⟩) | h)
      · exact .inl h
      · exact .inr ⟨w, List.mem_cons_of_mem _ h1, h2⟩
      · exact .inr ⟨v, List.mem_cons_self, h⟩
    · rintro (h | ⟨w, h1, h2⟩)
      · exact .inl (.inl h)
      · rcases List.mem_cons.mp h1 with z | z
        · subst z; exact .inr h2
        · exact .inl (.inr ⟨w, z, h2⟩)
theorem wF_own {fs : Nat → List Addr} {vs : List Nat} {a : Addr} (h : Own (wF fs vs) a) : ∃ j, j ∉ vs ∧ a ∈ fs j := by
  obtain ⟨j, hj⟩ := h
  unfold wF at hj
  by_cases e : j ∈ vs
  · rw [if_pos e] at hj; cases hj
  · rw [if_neg e] at hj; exact ⟨j, e, hj⟩
theorem wipeE_get {vs : List Nat} {ρ : Env} {j : Nat} : (wipeE vs ρ)[j]? = if j ∈ vs then (ρ[j]?).map fun _ => Sl.un else ρ[j]? := by
  induction vs with
  | nil => simp [wipeE]
  | cons v vs ih =>
    show ((wipeE vs ρ).set v .un)[j]? = _
    by_cases hj : v = j
    · subst hj
      rw [if_pos List.mem_cons_self]
      have hl : (wipeE vs ρ).length = ρ.length := by
        clear ih
        induction vs with
        | nil => rfl
        | cons w vs ih => show ((wipeE vs ρ).set w .un).length = _; rw [List.length_set]; exact ih
      by_cases hlt : v < ρ.length
      · rw [List.getElem?_set_self (by rw [hl]; exact hlt), List.getElem?_eq_getElem hlt]; rfl
      · rw [List.getElem?_eq_none_iff.mpr (by rw [List.length_set, hl]; omega), List.getElem?_eq_none_iff.mpr (by omega)]; rfl
    · rw [List.getElem?_set_ne hj, ih]
      by_cases hm : j ∈ vs
      · rw [if_pos hm, if_pos (List.mem_cons_of_mem _ hm)]
      · rw [if_neg hm, if_neg (fun z => (List.mem_cons.mp z).elim (fun z => hj z.symm) hm)]
theorem wipe_get {vs : List Nat} {σ : St} {j : Nat} : (wipe σ vs)[j]? = if j ∈ vs then (σ[j]?).map fun _ => none else σ[j]? := by
  induction vs with
  | nil => simp [wipe]
  | cons v vs ih =>
    show ((wipe σ vs).set v none)[j]? = _
    by_cases hj : v = j
    · subst hj
      rw [if_pos List.mem_cons_self]
      have hl : (wipe σ vs).length = σ.length := wipe_length σ vs
      by_cases hlt : v < σ.length
      · rw [List.getElem?_set_self (by rw [hl]; exact hlt), List.getElem?_eq_getElem hlt]; rfl
      · rw [List.getElem?_eq_none_iff.mpr (by rw [List.length_set, hl]; omega), List.getElem?_eq_none_iff.mpr (by omega)]; rfl
    · rw [List.getElem?_set_ne hj, ih]
      by_cases hm : j ∈ vs
      · rw [if_pos hm, if_pos (List.mem_cons_of_mem _ hm)]
      · rw [if_neg hm, if_neg (fun z => (List.mem_cons.mp z).elim (fun z => hj z.symm) hm)]
theorem restE_get {ρ0 : Env} {vs : List Nat} {ρ : Env} {j : Nat} (hl : ρ.length = ρ0.length) : (restE ρ0 vs ρ)[j]? = if j ∈ vs then ρ0[j]? else ρ[j]? := by
  have len : ∀ vs, (restE ρ0 vs ρ).length = ρ0.length := by
    intro vs
    induction vs with
    | nil => exact hl
    | cons w vs ih =>
      unfold restE
      cases ρ0[w]? with
      | none => exact ih
      | some s => rw [List.length_set]; exact ih
  induction vs with
  | nil => simp [restE]
  | cons v vs ih =>
    unfold restE
    cases e : ρ0[v]? with
    | none =>
      simp only
      rw [ih]
      by_cases hm : j ∈ vs
      · rw [if_pos hm, if_pos (List.mem_cons_of_mem _ hm)]
      · by_cases hj : j = v
        · subst hj
          rw [if_neg hm, if_pos List.mem_cons_self, e]
          exact List.getElem?_eq_none_iff.mpr (by rw [hl]; exact List.getElem?_eq_none_iff.mp e)
        · rw [if_neg hm, if_neg (fun z => (List.mem_cons.mp z).elim hj hm)]
    | some s =>
      simp only
      by_cases hj : v = j
      · subst hj
        rw [if_pos List.mem_cons_self, List.getElem?_set_self (by rw [len]; exact (List.getElem?_eq_some_iff.mp e).1), e]
      · rw [List.getElem?_set_ne hj, ih]
        by_cases hm : j ∈ vs
        · rw [if_pos hm, if_pos (List.mem_cons_of_mem _ hm)]
        · rw [if_neg hm, if_neg (fun z => (List.mem_cons.mp z).elim (fun z => hj z.symm) hm)]
section
variable {K : PySem.W.Frag} {T : Addr → Prop} {P : Pins} {ρ ρ' : Env} {σ σ' : St} {H H' : Hp} {fs fs' : Nat → List Addr} {vs : List Nat}
/-- within a comprehension its own names are new -/
theorem Rp.wiped (r : Rp K T P ρ σ H fs) : Rp K (wT fs T vs) (wP P vs) (wipeE vs ρ) (wipe σ vs) H (wF fs vs) := by
  have eqh : ∀ a, Hd (wT fs T vs) (wF fs vs) a ↔ Hd T fs a := fun a => by
    constructor
    · rintro (z | z)
      · rcases wT_iff.mp z with z | ⟨v, _, z⟩
        · exact .inl z
        · exact .inr ⟨v, z⟩
      · obtain ⟨j, _, z⟩ := wF_own z
        exact .inr ⟨j, z⟩
    · rintro (z | ⟨j, z⟩)
      · exact .inl (wT_iff.mpr (.inl z))
      · by_cases h : j ∈ vs
        · exact .inl (wT_iff.mpr (.inr ⟨j, h, z⟩))
        · exact .inr ⟨j, by unfold wF; rw [if_neg h]; exact z⟩
  have eh : hide (Hd (wT fs T vs) (wF fs vs)) H = hide (Hd T fs) H := by
    congr 1
    funext a
    exact propext (eqh a)
  refine ⟨fun j s e => ?_, fun j e => ?_, fun j => ?_, fun i j a h1 h2 => ?_, fun a o t => ?_, fun a t => ?_, fun j p e => ?_⟩
  · rw [wipeE_get] at e
    rw [wipe_get, eh]
    unfold wP wF
    by_cases h : j ∈ vs
    · rw [if_pos h] at e ⊢
      rw [if_pos h, if_pos h]
      cases er : ρ[j]? with
      | none => rw [er] at e; cases e
      | some s0 =>
        rw [er] at e
        cases e
        obtain ⟨x, hx, _⟩ := r.slot j s0 er
        exact ⟨none, by rw [hx]; rfl, rfl, rfl⟩
    · rw [if_neg h] at e ⊢
      rw [if_neg h, if_neg h]
      exact r.slot j s e
  · rw [wipeE_get] at e
    unfold wF
    by_cases h : j ∈ vs
    · rw [if_pos h]
    · rw [if_neg h] at e ⊢
      exact r.out j e
  · unfold wF
    by_cases h : j ∈ vs
    · rw [if_pos h]; exact .nil
    · rw [if_neg h]; exact r.nd j
  · unfold wF at h1 h2
    by_cases hi : i ∈ vs
    · rw [if_pos hi] at h1; cases h1
    · by_cases hj : j ∈ vs
      · rw [if_pos hj] at h2; cases h2
      · rw [if_neg hi] at h1; rw [if_neg hj] at h2; exact r.dj i j a h1 h2
  · obtain ⟨j, hj, hm⟩ := wF_own o
    rcases wT_iff.mp t with z | ⟨v, hv, z⟩
    · exact r.tf a ⟨j, hm⟩ z
    · exact hj (by rw [r.dj j v a hm z]; exact hv)
  · rcases wT_iff.mp t with z | ⟨v, hv, z⟩
    · exact r.ta a z
    · exact r.owned ⟨v, z⟩
  · unfold wP at e
    by_cases h : j ∈ vs
    · rw [if_pos h] at e; cases e
    · rw [if_neg h] at e
      obtain ⟨s, hs⟩ := r.pl j p e
      exact ⟨s, by rw [wipeE_get, if_neg h]; exact hs⟩
/-- and behind it they are as they were -/
theorem Rp.rested {l : List Addr} (r : Rp K T P ρ σ H fs) (r' : Rp K (Tl (wT fs T vs) l) (wP P vs) ρ' σ' H' fs') (hl : ρ'.length = ρ.length) (hσ : SB vs σ σ') (fr : Fr H (Own (wF fs vs)) H' (Ow l fs')) (hun : ∀ j ∈ vs, ∀ s, ρ'[j]? = some s → fs' j = []) :
    Rp K (Tl T l) P (restE ρ vs ρ') σ H' (fun j => if j ∈ vs then fs j else fs' j) := by
  have kept : ∀ v ∈ vs, ∀ a ∈ fs v, ∀ x, H a = some x → H' a = some x ∧ ¬ Ow l fs' a := fun v hv a ha x e => fr a x e fun z => by
    obtain ⟨j, hj, hm⟩ := wF_own z
    exact hj (by rw [r.dj j v a hm ha]; exact hv)
  have f0 : ∀ j ∈ vs, fs' j = [] := fun j hj => by
    cases e : ρ'[j]? with
    | none => exact r'.out j e
    | some s => exact hun j hj s e
  have own : ∀ a, Own (fun j => if j ∈ vs then fs j else fs' j) a → (∃ v ∈ vs, a ∈ fs v) ∨ Own fs' a := fun a ⟨j, hj⟩ => by
    have hj : a ∈ (if j ∈ vs then fs j else fs' j) := hj
    by_cases h : j ∈ vs
    · rw [if_pos h] at hj; exact .inl ⟨j, h, hj⟩
    · rw [if_neg h] at hj; exact .inr ⟨j, hj⟩
  have sees : ∀ v ∈ vs, ∀ a ∈ fs v, ¬ Own fs' a := fun v hv a ha z => by
    obtain ⟨x, e⟩ := r.owned ⟨v, ha⟩
    exact (kept v hv a ha x e).2 (.inr z)
  have eqh : ∀ a, Hd (Tl T l) (fun j => if j ∈ vs then fs j else fs' j) a ↔ Hd (Tl (wT fs T vs) l) fs' a := fun a => by
    constructor
    · rintro ((z | z) | z)
      · exact .inl (.inl (wT_iff.mpr (.inl z)))
      · exact .inl (.inr z)
      · rcases own a z with ⟨v, hv, z⟩ | z
        · exact .inl (.inl (wT_iff.mpr (.inr ⟨v, hv, z⟩)))
        · exact .inr z
    · rintro ((z | z) | z)
      · rcases wT_iff.mp z with z | ⟨v, hv, z⟩
        · exact .inl (.inl z)
        · exact .inr ⟨v, show a ∈ (if v ∈ vs then fs v else fs' v) by rw [if_pos hv]; exact z⟩
      · exact .inl (.inr z)
      · obtain ⟨j, hj⟩ := z
        refine .inr ⟨j, show a ∈ (if j ∈ vs then fs j else fs' j) from ?_⟩
        by_cases h : j ∈ vs
        · rw [f0 j h] at hj; cases hj
        · rw [if_neg h]; exact hj
  have eh : hide (Hd (Tl T l) (fun j => if j ∈ vs then fs j else fs' j)) H' = hide (Hd (Tl (wT fs T vs) l) fs') H' := by
    congr 1
    funext a
    exact propext (eqh a)
  have ex : Ex (hide (Hd T fs) H) (hide (Hd (Tl (wT fs T vs) l) fs') H') := hide_ex fun a x n e => by
    obtain ⟨h1, n1⟩ := fr a x e fun z => by
      obtain ⟨j, _, hm⟩ := wF_own z
      exact n (.inr ⟨j, hm⟩)
    refine ⟨?_, h1⟩
    rintro ((z | z) | z)
    · rcases wT_iff.mp z with z | ⟨v, hv, z⟩
      · exact n (.inl z)
      · exact n (.inr ⟨v, z⟩)
    · exact n1 (.inl z)
    · exact n1 (.inr z)
  refine ⟨fun j s e => ?_, fun j e => ?_, fun j => ?_, fun i j a h1 h2 => ?_, fun a o t => ?_, fun a t => ?_, fun j p e => ?_⟩
  · rw [restE_get hl] at e
    rw [eh]
    by_cases h : j ∈ vs
    · rw [if_pos h] at e
      show ∃ x, σ[j]? = some x ∧ RepS K _ H' (P j) s x (if j ∈ vs then fs j else fs' j)
      rw [if_pos h]
      obtain ⟨x, hx, q⟩ := r.slot j s e
      exact ⟨x, hx, q.mono ex fun a ha x e => (kept j h a ha x e).1⟩
    · rw [if_neg h] at e
      show ∃ x, σ[j]? = some x ∧ RepS K _ H' (P j) s x (if j ∈ vs then fs j else fs' j)
      rw [if_neg h]
      obtain ⟨x, hx, q⟩ := r'.slot j s e
      have hP : wP P vs j = P j := if_neg h
      rw [hP] at q
      exact ⟨x, by rw [← hσ.2 j h]; exact hx, q⟩
  · rw [restE_get hl] at e
    show (if j ∈ vs then fs j else fs' j) = []
    by_cases h : j ∈ vs
    · rw [if_pos h] at e ⊢; exact r.out j e
    · rw [if_neg h] at e ⊢; exact r'.out j e
  · show (if j ∈ vs then fs j else fs' j).Nodup
    by_cases h : j ∈ vs
    · rw [if_pos h]; exact r.nd j
    · rw [if_neg h]; exact r'.nd j
  · have h1 : a ∈ (if i ∈ vs then fs i else fs' i) := h1
    have h2 : a ∈ (if j ∈ vs then fs j else fs' j) := h2
    by_cases hi : i ∈ vs
    · rw [if_pos hi] at h1
      by_cases hj : j ∈ vs
      · rw [if_pos hj] at h2; exact r.dj i j a h1 h2
      · rw [if_neg hj] at h2; exact absurd ⟨j, h2⟩ (sees i hi a h1)
    · rw [if_neg hi] at h1
      by_cases hj : j ∈ vs
      · rw [if_pos hj] at h2; exact absurd ⟨i, h1⟩ (sees j hj a h2)
      · rw [if_neg hj] at h2; exact r'.dj i j a h1 h2
  · rcases own a o with ⟨v, hv, z⟩ | z
    · obtain ⟨x, e⟩ := r.owned ⟨v, z⟩
      rcases t with t | t
      · exact r.tf a ⟨v, z⟩ t
      · exact (kept v hv a z x e).2 (.inl t)
    · rcases t with t | t
      · exact r'.tf a z (.inl (wT_iff.mpr (.inl t)))
      · exact r'.tf a z (.inr t)
  · rcases t with t | t
    · exact r'.ta a (.inl (wT_iff.mpr (.inl t)))
    · exact r'.ta a (.inr t)
  · by_cases h : j ∈ vs
    · obtain ⟨s, hs⟩ := r.pl j p e
      exact ⟨s, by rw [restE_get hl, if_pos h]; exact hs⟩
    · have e' : wP P vs j = some p := by unfold wP; rw [if_neg h]; exact e
      obtain ⟨s, hs⟩ := r'.pl j p e'
      exact ⟨s, by rw [restE_get hl, if_neg h]; exact hs⟩
end
end Lay

namespace Lay
open PySem PySem.Spec L2
def lcL (own : List Nat) (g : TM) (t : M Bool) (e : M Arg) : List Dat → Env → R (List OT)
  | [], ρ => .ok [] ρ
  | d :: r, ρ => match g (.fz d) ρ with
    | .ok _ ρ1 => match t ρ1 with
      | .ok true ρ2 => match e ρ2 with
        | .ok a ρ3 => match take1 ρ3 a with
          | some (o, ρ4) => match lcL own g t e r (wipeE own ρ4) with
            | .ok os ρ5 => .ok (o :: os) ρ5
            | _ => .bad
          | none => .bad
        | _ => .bad
      | .ok false ρ2 => lcL own g t e r (wipeE own ρ2)
      | _ => .bad
    | _ => .bad
def xLc (own : List Nat) (it : IM) (g : TM) (t : M Bool) (e : M Arg) : M Arg := fun ρ => (it ρ).bind fun p ρ1 => match lockE p.2 ρ1 with
  | none => .bad
  | some (ρ2, us) => if p.1.length ≤ sizeLine ∧ (∀ i ∈ p.2, i ∉ own) then match lcL own g t e p.1 (wipeE own ρ2) with
    | .ok os ρ3 => if ρ3.length = ρ2.length then match unlE us (restE ρ2 own ρ3) with
      | some ρ4 => .ok (.tmp (.lst os)) ρ4
      | none => .bad
      else .bad
    | _ => .bad
    else .bad
section
variable {K : PySem.W.Frag} {T T' : Addr → Prop} {P : Pins} {ρ : Env} {σ σ' : St} {H H' : Hp} {fs fs' : Nat → List Addr} {vs : List Nat}
theorem Rp.updT (r : Rp K T P ρ σ H fs) {D : Addr} (hD : T D) (o : HO) : Rp K T P ρ σ (upd H D o) fs := by
  have ne : ∀ a, ¬ Hd T fs a → a ≠ D := fun a n z => n (.inl (by rw [z]; exact hD))
  have ex : Ex (hide (Hd T fs) H) (hide (Hd T fs) (upd H D o)) := hide_ex fun a x n e => ⟨n, by rw [upd_ne (ne a n)]; exact e⟩
  refine ⟨fun i s e => ?_, r.out, r.nd, r.dj, r.tf, fun a t => ?_, r.pl⟩
  · obtain ⟨x, h1, h2⟩ := r.slot i s e
    exact ⟨x, h1, h2.mono ex fun a ha y e => by
      have : a ≠ D := fun z => r.tf a ⟨i, ha⟩ (by rw [z]; exact hD)
      rw [upd_ne this]; exact e⟩
  · by_cases h : a = D
    · subst h; exact ⟨_, upd_same⟩
    · obtain ⟨x, e⟩ := r.ta a t
      exact ⟨x, by rw [upd_ne h]; exact e⟩
theorem wipe_sb {S : List Nat} (h : SB S (wipe σ vs) σ') (hs : ∀ j ∈ S, j ∈ vs) : wipe σ' vs = wipe σ vs := by
  apply List.ext_getElem?
  intro j
  rw [wipe_get, wipe_get]
  by_cases hj : j ∈ vs
  · rw [if_pos hj, if_pos hj]
    have hl : σ'.length = σ.length := by rw [h.1, wipe_length]
    by_cases hlt : j < σ.length
    · rw [List.getElem?_eq_getElem hlt, List.getElem?_eq_getElem (by omega)]; rfl
    · rw [List.getElem?_eq_none_iff.mpr (by omega), List.getElem?_eq_none_iff.mpr (by omega)]
  · rw [if_neg hj, if_neg hj, h.2 j fun z => hj (hs j z), wipe_get, if_neg hj]
theorem wP_idem : wP (wP P vs) vs = wP P vs := by
  funext j
  unfold wP
  by_cases h : j ∈ vs
  · rw [if_pos h, if_pos h]
  · rw [if_neg h, if_neg h]
theorem RepOs.app {G H : Hp} : ∀ {os : List OT} {us : List V} {l : List Addr} {o : OT} {v : V} {l2 : List Addr}, RepOs K G H os us l → RepO K G H o v l2 → RepOs K G H (os ++ [o]) (us ++ [v]) (l ++ l2)
  | [], us, l, o, v, l2, h, h2 => by
    obtain ⟨rfl, rfl⟩ := h
    exact ⟨v, [], l2, [], rfl, (List.append_nil l2).symm, h2, rfl, rfl⟩
  | o' :: r, us, l, o, v, l2, h, h2 => by
    obtain ⟨v', r', f1, f2, rfl, rfl, q1, q2⟩ := h
    exact ⟨v', r' ++ [v], f1, f2 ++ l2, rfl, List.append_assoc f1 f2 l2, q1, RepOs.app q2 h2⟩
end
theorem tLc_op {Z : Par} {W0 : Value → Option Addr → St → Hp → Prop} {own S : List Nat} (hS : ∀ j ∈ S, j ∈ own) {it : IM} {g : TM} {t : M Bool} {e : M Arg} {σ : St} {H : Hp} {Q : VK} (h : tD Z (xLc own it g t e) σ H Q) :
    tLc (tI Z it) (gD ⟨Z.K, Z.mg, W0⟩ S g) (tDT ⟨Z.K, Z.mg, W0⟩ t) (tD ⟨Z.K, Z.mg, W0⟩ e) own σ H Q := by
  obtain ⟨T, P, ρ, fs, rp, q⟩ := h
  refine ⟨T, P, ρ, fs, rp, ?_⟩
  unfold xLc at q
  cases e1 : it ρ with
  | bad => rw [e1] at q; exact q
  | ex x ρ' => rw [e1] at q; exact q
  | ok p ρ1 =>
    obtain ⟨ds, lks⟩ := p
    rw [e1] at q
    simp only [R.bind] at q
    intro J H1 fs1 r1 f1 ⟨G, Y, w, hG, hY⟩ D hD
    cases c1 : lockE lks ρ1 with
    | none => simp only [c1] at q; exact q.elim
    | some p2 =>
    obtain ⟨ρ2, us⟩ := p2
    simp only [c1] at q
    by_cases hz : ds.length ≤ sizeLine ∧ (∀ i ∈ lks, i ∉ own)
    · rw [if_pos hz] at q
      obtain ⟨hz, hlo⟩ := hz
      cases c2 : lcL own g t e ds (wipeE own ρ2) with
      | bad => simp only [c2] at q; exact q.elim
      | ex x ρ' => simp only [c2] at q; exact q.elim
      | ok os ρ3 =>
      simp only [c2] at q
      by_cases hlen : ρ3.length = ρ2.length
      · rw [if_pos hlen] at q
        cases c3 : unlE us (restE ρ2 own ρ3) with
        | none => simp only [c3] at q; exact q.elim
        | some ρ4 =>
        simp only [c3] at q
        obtain ⟨P', r2, hl, _, hunl⟩ := lockE_ok r1 c1
        have rw' := r2.wiped (vs := own)
        -- abbreviations
        let Tw := wT fs1 T own
        let Pw := wP P' own
        have unw : ∀ ρ0 : Env, ∀ j ∈ own, ∀ s, (wipeE own ρ0)[j]? = some s → s = .un := fun ρ0 j hj s e => by
          rw [wipeE_get, if_pos hj] at e
          cases er : ρ0[j]? with
          | none => rw [er] at e; cases e
          | some s0 => rw [er] at e; cases e; rfl
        refine lc_it w (fun i H' => ∃ ρ' fs' vacc lacc acc os', Rp Z.K (Tl Tw (D :: lacc)) Pw ρ' (wipe σ own) H' fs' ∧ (D :: lacc).Nodup ∧ (∀ b ∈ D :: lacc, ¬ Tw b) ∧ H' D = some (.lst vacc) ∧ RepOs Z.K (hide (Hd (Tl Tw (D :: lacc)) fs') H') H' acc vacc lacc ∧
            Fr H1 (Own (wF fs1 own)) H' (Ow (D :: lacc) fs') ∧ acc.length ≤ i ∧ lcL own g t e (ds.drop i) ρ' = .ok os' ρ3 ∧ acc ++ os' = os ∧ ∀ j ∈ own, ∀ s, ρ'[j]? = some s → s = .un) ?_ ?_ ?_ ?_
        · have nD : ¬ Tw D := fun z => rw'.hd hD (.inl z)
          have ex0 : ∀ a x, H1 a = some x → upd H1 D (.lst []) a = some x := fun a x e => by rw [upd_ne (ne_of_none e hD)]; exact e
          refine ⟨wipeE own ρ2, wF fs1 own, [], [], [], os, rw'.grow ex0 (fun a z => ?_), List.nodup_cons.mpr ⟨List.not_mem_nil, .nil⟩, ?_, upd_same, ⟨rfl, rfl⟩, (fun a x e n => ⟨ex0 a x e, fun z => ?_⟩), Nat.le_refl _, by rw [List.drop_zero]; exact c2, rfl, unw ρ2⟩
          · rcases z with z | z
            · exact .inl z
            · have : a = D := by simpa using z
              subst this
              exact .inr ⟨hD, _, upd_same⟩
          · intro b hb
            have : b = D := by simpa using hb
            subst this
            exact nD
          · rcases z with z | z
            · have : a = D := by simpa using z
              subst this
              rw [hD] at e; cases e
            · exact n z
        · intro i H' _ ⟨ρ', fs', vacc, lacc, acc, os', rr, _, _, _, _, fr, _⟩
          refine hG H' (Kp.of (P' := Pw) (fun i hi => ?_) rr (fun a x e n => ?_))
          · obtain ⟨a, vs, h1, h2, h3⟩ := hl i hi
            exact ⟨a, vs, h1, h2, by show wP P' own i = _; unfold wP; rw [if_neg (hlo i hi)]; exact h3⟩
          · obtain ⟨h1, n1⟩ := fr a x e fun z => by
              obtain ⟨j, _, hm⟩ := wF_own z
              exact n ⟨j, hm⟩
            exact ⟨h1, fun z => n1 (.inr z)⟩
        · rintro i x H2 H3 hi ⟨ρ', fs', vacc, lacc, acc, os', rr, nd, nTw, hDv, ra, fr, la, hlc, happ, hun⟩ y
          have frOwn : Fr H1 (Own fs1) H2 (Own fs') := fun a x e n => by
            obtain ⟨h1, n1⟩ := fr a x e fun z => by
              obtain ⟨j, _, hm⟩ := wF_own z
              exact n ⟨j, hm⟩
            exact ⟨h1, fun z => n1 (.inr z)⟩
          have kp : Kp σ H1 fs1 lks H2 := Kp.of (P' := Pw) (fun i hi => by
            obtain ⟨a, vs, h1, h2, h3⟩ := hl i hi
            exact ⟨a, vs, h1, h2, by show wP P' own i = _; unfold wP; rw [if_neg (hlo i hi)]; exact h3⟩) rr frOwn
          obtain ⟨ex, d, hd, rd⟩ := hY i H2 x H3 hi kp y
          have ed : ds.drop i = d :: ds.drop (i + 1) := by
            have hh := List.getElem?_eq_some_iff.mp hd
            rw [List.drop_eq_getElem_cons hh.1, hh.2]
          rw [ed] at hlc
          unfold lcL at hlc
          have rr3 : Rp Z.K (Tl Tw (D :: lacc)) Pw ρ' (wipe σ own) H3 fs' := rr.grow ex fun a z => .inl z
          have TD : Tl Tw (D :: lacc) D := .inr List.mem_cons_self
          have Tla : ∀ b ∈ lacc, Tl Tw (D :: lacc) b := fun b hb => .inr (List.mem_cons_of_mem _ hb)
          -- the item
          have rd' : RepD Z.K (hide (Hd (Tl Tw (D :: lacc)) fs') H3) d x := by
            refine rd _ (hide_ex fun a u n e => ?_) fun b u hb e => (hide_no (rr.hd hb)).trans e
            obtain ⟨h1, n1⟩ := fr a u e fun z => by
              obtain ⟨j, _, hm⟩ := wF_own z
              exact n (.inr ⟨j, hm⟩)
            refine ⟨?_, ex a u h1⟩
            rintro ((z | z) | z)
            · rcases wT_iff.mp z with z | ⟨v, _, z⟩
              · exact n (.inl z)
              · exact n (.inr ⟨v, z⟩)
            · exact n1 (.inl z)
            · exact n1 (.inr z)
          cases eg : g (.fz d) ρ' with
          | bad => rw [eg] at hlc; cases hlc
          | ex x' ρ9 => rw [eg] at hlc; cases hlc
          | ok u ρ5 =>
          rw [eg] at hlc
          simp only at hlc
          refine ⟨Tl Tw (D :: lacc), Pw, ρ', fs', .fz d, [], ⟨rr3.tl0, .nil, (fun _ z => nomatch z), rfl, by rw [Tl_nil]; exact rd'⟩, ?_⟩
          rw [eg]
          intro σ5 H5 fs5 sb5 r5 f5
          have f25 : Fr H2 (Own fs') H5 (Own fs5) := fun a u e n => f5 a u (ex a u e) fun z => z.elim (fun z => nomatch z) n
          refine ⟨wipe_sb sb5 hS, Tl Tw (D :: lacc), Pw, ρ5, fs5, r5, ?_⟩
          cases et : t ρ5 with
          | bad => rw [et] at hlc; cases hlc
          | ex x' ρ9 => rw [et] at hlc; cases hlc
          | ok b ρ6 =>
          rw [et] at hlc
          intro H6 fs6 r6 f6
          have f26 : Fr H2 (Own fs') H6 (Own fs6) := f25.trans f6
          -- what was in the air stands
          have airT : ∀ {Hx : Hp} {fx : Addr → Prop}, Fr H2 (Own fs') Hx fx → ∀ a, Tl Tw (D :: lacc) a → ∀ y, H2 a = some y → Hx a = some y ∧ ¬ fx a := fun fq a ta y e => fq a y e fun z => rr.tf a z ta
          have exA : ∀ {Hx : Hp} {fx : Nat → List Addr} {lx : List Addr}, Fr H2 (Own fs') Hx (Ow lx fx) → Ex (hide (Hd (Tl Tw (D :: lacc)) fs') H2) (hide (Hd (Tl (Tl Tw (D :: lacc)) lx) fx) Hx) := fun fq => hide_ex fun a y n e => by
            obtain ⟨h1, n1⟩ := fq a y e fun z => n (.inr z)
            refine ⟨?_, h1⟩
            rintro ((z | z) | z)
            · exact n (.inl z)
            · exact n1 (.inl z)
            · exact n1 (.inr z)
          cases b with
          | false =>
            simp only at hlc
            rw [if_neg Bool.false_ne_true]
            have r7 := r6.wiped (vs := own)
            have e7 : wP Pw own = Pw := wP_idem
            have e8 : wipe σ5 own = wipe σ own := wipe_sb sb5 hS
            rw [e7, e8] at r7
            have r7' : Rp Z.K (Tl Tw (D :: lacc)) Pw (wipeE own ρ6) (wipe σ own) H6 (wF fs6 own) := r7.grow (fun _ _ e => e) fun a z => .inl (wT_iff.mpr (.inl z))
            have sub : ∀ a, Own (wF fs6 own) a → Own fs6 a := fun a z => by
              obtain ⟨j, _, hm⟩ := wF_own z
              exact ⟨j, hm⟩
            refine ⟨wipeE own ρ6, wF fs6 own, vacc, lacc, acc, os', r7', nd, nTw, (airT f26 D TD _ hDv).1, ?_, ?_, Nat.le_succ_of_le la, hlc, happ, unw ρ6⟩
            · refine RepOs.mono (fun a y e => ?_) acc vacc lacc (fun b hb y e => (airT f26 b (Tla b hb) y e).1) ra
              have := exA (lx := []) (fx := fs6) (f26.imp fun x z => z.elim (fun z => nomatch z) id) a y e
              rw [Tl_nil] at this
              obtain ⟨n1, n2⟩ := of_hide this
              exact (hide_no fun z => n1 (z.imp id (sub a))).trans n2
            · intro a y e n
              obtain ⟨h1, n1⟩ := fr a y e n
              obtain ⟨h2, n2⟩ := f26 a y h1 fun z => n1 (.inr z)
              refine ⟨h2, ?_⟩
              rintro (z | z)
              · exact n1 (.inl z)
              · exact n2 (sub a z)
          | true =>
            simp only at hlc
            rw [if_pos rfl]
            refine ⟨Tl Tw (D :: lacc), Pw, ρ6, fs6, r6, ?_⟩
            cases ee : e ρ6 with
            | bad => rw [ee] at hlc; cases hlc
            | ex x' ρ9 => rw [ee] at hlc; cases hlc
            | ok a ρ7 =>
            rw [ee] at hlc
            simp only at hlc
            intro yv H7 fs7 l7 r7 f7
            cases ct : take1 ρ7 a with
            | none => rw [ct] at hlc; cases hlc
            | some p8 =>
            obtain ⟨o, ρ8⟩ := p8
            rw [ct] at hlc
            simp only at hlc
            cases cl : lcL own g t e (ds.drop (i + 1)) (wipeE own ρ8) with
            | bad => rw [cl] at hlc; cases hlc
            | ex x' ρ9 => rw [cl] at hlc; cases hlc
            | ok os9 ρ9 =>
            rw [cl] at hlc
            simp only [R.ok.injEq] at hlc
            obtain ⟨rfl, rfl⟩ := hlc
            obtain ⟨fs8, r8, s8, p8⟩ := take1_ok r7.rp r7.ar ct
            have f27 : Fr H2 (Own fs') H7 (Ow l7 fs7) := f26.trans f7
            have f28 : Fr H2 (Own fs') H7 (Ow l7 fs8) := f27.imp fun x z => z.imp id (s8 x)
            have hD7 : H7 D = some (.lst vacc) := (airT f27 D TD _ hDv).1
            have nD7 : D ∉ l7 := fun z => r7.nt D z TD
            refine ⟨vacc, hD7, ?_, ?_⟩
            · have h1 : vacc.length = acc.length := RepOs.length ra
              rw [h1]
              exact Nat.lt_of_le_of_lt la (Nat.lt_of_lt_of_le hi hz)
            · have r9 := r8.wiped (vs := own)
              have e7 : wP Pw own = Pw := wP_idem
              have e8 : wipe σ5 own = wipe σ own := wipe_sb sb5 hS
              rw [e7, e8] at r9
              have eT : ∀ a, Tl Tw (D :: (lacc ++ l7)) a ↔ Tl (Tl Tw (D :: lacc)) l7 a := fun a => by
                simp only [Tl, List.mem_cons, List.mem_append]
                constructor
                · rintro (z | z | z | z) <;> simp [z]
                · rintro ((z | z | z) | z) <;> simp [z]
              have r9' : Rp Z.K (Tl Tw (D :: (lacc ++ l7))) Pw (wipeE own ρ8) (wipe σ own) H7 (wF fs8 own) := r9.grow (fun _ _ e => e) fun a z => .inl (wT_iff.mpr (.inl ((eT a).mp z)))
              have TD' : Tl Tw (D :: (lacc ++ l7)) D := .inr List.mem_cons_self
              have sub : ∀ a, Own (wF fs8 own) a → Own fs8 a := fun a z => by
                obtain ⟨j, _, hm⟩ := wF_own z
                exact ⟨j, hm⟩
              have nda := List.nodup_cons.mp nd
              have neD : ∀ b ∈ lacc, b ≠ D := fun b hb z => nda.1 (by rw [← z]; exact hb)
              -- what may be read
              have exB : Ex (hide (Hd (Tl (Tl Tw (D :: lacc)) l7) fs8) H7) (hide (Hd (Tl Tw (D :: (lacc ++ l7))) (wF fs8 own)) (upd H7 D (.lst (vacc ++ [yv])))) := hide_ex fun a y n e => by
                have ne : a ≠ D := fun z => n (.inl (.inl (by rw [z]; exact TD)))
                refine ⟨fun z => n ?_, by rw [upd_ne ne]; exact e⟩
                rcases z with z | z
                · exact .inl ((eT a).mp z)
                · exact .inr (sub a z)
              refine ⟨wipeE own ρ8, wF fs8 own, vacc ++ [yv], lacc ++ l7, acc ++ [o], os9, r9'.updT TD' _, ?_, ?_, upd_same, ?_, ?_, ?_, cl, by rw [← happ, List.append_assoc]; rfl, unw ρ8⟩
              · refine List.nodup_cons.mpr ⟨fun z => (List.mem_append.mp z).elim nda.1 nD7, List.nodup_append.mpr ⟨nda.2, r7.nd, fun a ha b hb e => ?_⟩⟩
                subst e
                exact r7.nt a hb (Tla a ha)
              · intro b hb z
                rcases List.mem_cons.mp hb with e | hb
                · subst e; exact nTw b List.mem_cons_self z
                · rcases List.mem_append.mp hb with hb | hb
                  · exact nTw b (List.mem_cons_of_mem _ hb) z
                  · exact r7.nt b hb (.inl z)
              · refine RepOs.app (RepOs.mono ((exA f28).trans exB) acc vacc lacc (fun b hb y e => ?_) ra) (RepO.mono exB o yv l7 (fun b hb y e => ?_) p8)
                · rw [upd_ne (neD b hb)]
                  exact (airT f27 b (Tla b hb) y e).1
                · rw [upd_ne (fun z => nD7 (by rw [← z]; exact hb))]
                  exact e
              · intro a y e n
                obtain ⟨h1, n1⟩ := fr a y e n
                obtain ⟨h2, n2⟩ := f28 a y h1 fun z => n1 (.inr z)
                have ne : a ≠ D := fun z => n1 (.inl (by rw [z]; exact List.mem_cons_self))
                refine ⟨by rw [upd_ne ne]; exact h2, ?_⟩
                rintro (z | z)
                · rcases List.mem_cons.mp z with z | z
                  · exact ne z
                  · rcases List.mem_append.mp z with z | z
                    · exact n1 (.inl (List.mem_cons_of_mem _ z))
                    · exact n2 (.inl z)
                · exact n2 (.inr (sub a z))
              · rw [List.length_append]
                exact Nat.succ_le_succ la
        · rintro H' ⟨ρ', fs', vacc, lacc, acc, os', rr, nd, nTw, hDv, ra, fr, la, hlc, happ, hun⟩
          rw [List.drop_length] at hlc
          unfold lcL at hlc
          simp only [R.ok.injEq] at hlc
          obtain ⟨rfl, rfl⟩ := hlc
          rw [List.append_nil] at happ
          subst happ
          have hsb : SB own σ (wipe σ own) := ⟨wipe_length σ own, fun j hj => by rw [wipe_get, if_neg hj]⟩
          have unf : ∀ j ∈ own, ∀ s, ρ'[j]? = some s → fs' j = [] := fun j hj s e => by
            have := hun j hj s e
            subst this
            obtain ⟨x, _, q⟩ := rr.slot j _ e
            exact q.1
          have rst := Rp.rested r2 rr hlen hsb fr unf
          have r4 := hunl rst c3
          let fz : Nat → List Addr := fun j => if j ∈ own then fs1 j else fs' j
          have ownz : ∀ a, Own fz a → (∃ v ∈ own, a ∈ fs1 v) ∨ Own fs' a := fun a ⟨j, hj⟩ => by
            have hj : a ∈ (if j ∈ own then fs1 j else fs' j) := hj
            by_cases h : j ∈ own
            · rw [if_pos h] at hj; exact .inl ⟨j, h, hj⟩
            · rw [if_neg h] at hj; exact .inr ⟨j, hj⟩
          have exz : Ex (hide (Hd (Tl Tw (D :: lacc)) fs') H') (hide (Hd (Tl T (D :: lacc)) fz) H') := hide_ex fun a y n e => ⟨fun z => n (by
            rcases z with (z | z) | z
            · exact .inl (.inl (wT_iff.mpr (.inl z)))
            · exact .inl (.inr z)
            · rcases ownz a z with ⟨v, hv, z⟩ | z
              · exact .inl (.inl (wT_iff.mpr (.inr ⟨v, hv, z⟩)))
              · exact .inr z), e⟩
          refine q (.ref D) H' fz (D :: lacc) ⟨r4, nd, fun b hb z => nTw b hb (wT_iff.mpr (.inl z)), D, vacc, lacc, rfl, rfl, hDv, RepOs.mono exz acc vacc lacc (fun _ _ _ e => e) ra⟩ fun a y e n => ?_
          obtain ⟨h1, n1⟩ := f1 a y e n
          obtain ⟨h2, n2⟩ := fr a y h1 fun z => by
            obtain ⟨j, _, hm⟩ := wF_own z
            exact n1 ⟨j, hm⟩
          refine ⟨h2, ?_⟩
          rintro (z | z)
          · exact n2 (.inl z)
          · rcases ownz a z with ⟨v, _, z⟩ | z
            · exact n1 ⟨v, z⟩
            · exact n2 (.inr z)
      · rw [if_neg hlen] at q; exact q.elim
    · rw [if_neg hz] at q; exact q.elim
/-- nothing is let out -/
abbrev W0 : WX := fun _ _ _ _ => False
section
variable {X : Cx} {W : WX} {pos : Pos} {elt tg iter : Expr} {ifs : List Expr} {scope : Scope} {own : List (Str × Nat)} {S : List Nat} {it : IM} {g : TM} {t : M Bool} {e : M Arg}
def xYes : M Bool := fun ρ => .ok true ρ
theorem dts_nil : PTs X [] (tDT (zp X W) xYes) := ⟨fun pins s σ H Q I ⟨T, P, ρ, fs, r, q⟩ => pts_nil.run pins s σ H Q I (q H fs r Fr.refl)⟩
theorem dts_one {c : Expr} (h : DT X W c t) : PTs X [c] (tDT (zp X W) t) := pts_one h
theorem de_lc (hc : X.calm = true) (hN : X.N.Nodup) (hi : DI X W tg iter it) (ok : BlkOk X.N X.env.scope scope own) (hS : ∀ j ∈ S, j ∈ own.map (·.2))
    (hg : ∀ (s : Shared) (H : Hp) (C : Addr) (cl : List (Str × Addr)) (fp : List Addr), DG (X.blk s H scope (compEnvC scope cl C X.env) fp) W0 tg S g)
    (ht : ∀ (s : Shared) (H : Hp) (C : Addr) (cl : List (Str × Addr)) (fp : List Addr), PTs (X.blk s H scope (compEnvC scope cl C X.env) fp) ifs (tDT (zp X W0) t))
    (he : ∀ (s : Shared) (H : Hp) (C : Addr) (cl : List (Str × Addr)) (fp : List Addr), DE (X.blk s H scope (compEnvC scope cl C X.env) fp) W0 elt e) (hs : ∀ x, foldedSetIterable iter X.env x = pure x := by intro _; rfl) :
    DE X W (.ListComp elt [⟨tg, iter, ifs, 0⟩] scope pos) (xLc (own.map (·.2)) it g t e) := pe_imp (pe_lc hc hN hi ok hg ht he hs) fun σ H Q h => tLc_op (Z := zp X W) (W0 := W0) hS h
theorem ds_setLc {i : Nat} {y : Str} {py spos : Pos} (hc : X.calm = true) (hN : X.N.Nodup) (hy : X.N[i]? = some y) (hyl : X.env.scope.names.lookup y = some .local)
    (hsw : swapsWith (.ListComp elt [⟨tg, iter, ifs, 0⟩] scope pos) (some (.Name y py)) spos.line X.env = pure true) (hi : DI X W tg iter it) (ok : BlkOk X.N X.env.scope scope own) (hS : ∀ j ∈ S, j ∈ own.map (·.2))
    (hg : ∀ (s : Shared) (H : Hp) (C : Addr) (cl : List (Str × Addr)) (fp : List Addr), DG (X.blk s H scope (compEnvC scope cl C X.env) fp) W0 tg S g)
    (ht : ∀ (s : Shared) (H : Hp) (C : Addr) (cl : List (Str × Addr)) (fp : List Addr), PTs (X.blk s H scope (compEnvC scope cl C X.env) fp) ifs (tDT (zp X W0) t))
    (he : ∀ (s : Shared) (H : Hp) (C : Addr) (cl : List (Str × Addr)) (fp : List Addr), DE (X.blk s H scope (compEnvC scope cl C X.env) fp) W0 elt e) (hs : ∀ x, foldedSetIterable iter X.env x = pure x := by intro _; rfl) :
    DS X W (.Assign [.Name y py] (.ListComp elt [⟨tg, iter, ifs, 0⟩] scope pos) spos) (sAsg (xLc (own.map (·.2)) it g t e) (gNm i)) := by
  refine ps_imp (ps_setLc (g := gD (zp X W0) S g) (tt := tDT (zp X W0) t) (te := tD (zp X W0) e) hc hN hy hyl hsw hi ok hg ht he hs) fun D σ H q => ?_
  have q := tAsg_op (Z := zp X W) (S := [i]) q
  have q2 : tD (zp X W) (xLc (own.map (·.2)) it g t e) σ H (fun x H1 => gName i x σ H1 D.nx) := by
    obtain ⟨T, P, ρ, fs, r, q⟩ := q
    refine ⟨T, P, ρ, fs, r, ?_⟩
    cases e1 : xLc (own.map (·.2)) it g t e ρ with
    | bad => rw [e1] at q; exact q
    | ex x ρ' => rw [e1] at q; exact q
    | ok a ρ1 => rw [e1] at q; exact fun v H1 fs1 l1 r1 f1 => gNm_name (q v H1 fs1 l1 r1 f1)
  exact tLc_op (Z := zp X W) (W0 := W0) hS q2
end
end Lay

namespace Lay
open PySem PySem.Spec L2

theorem OpR.or {X : Cx} {f : Value → Value → Sem Value} {r r' : R2} (h : OpR X f r) (h' : OpR X f r') : OpR X f (fun x y H Q => r x y H Q ∨ r' x y H Q) := fun pins s σ H x y v u Q I rx ry q =>
  q.elim (h pins s σ H x y v u Q I rx ry) (h' pins s σ H x y v u Q I rx ry)
theorem CallR.or {X : Cx} {f : Value} {r r' : List V → Hp → VK → Prop} (h : CallR X f r) (h' : CallR X f r') : CallR X f (fun xs H Q => r xs H Q ∨ r' xs H Q) := fun pins s σ H xs us Q I r q =>
  q.elim (h pins s σ H xs us Q I r) (h' pins s σ H xs us Q I r)
section
variable {K : PySem.W.Frag} {G H : Hp} {Q : VK} {v : V} {f : List Addr}
/-! ### what comes new -/
theorem Res.newL {ds : List Dat} {vs : List V} {p : Addr} (h : Res K G H (.lst (ds.map .fz)) Q) (r : RepDs K G ds vs) (hp : H p = none) : Q (.ref p) (upd H p (.lst vs)) := by
  refine h (.ref p) _ [p] (fun a o e => by rw [upd_ne (ne_of_none e hp)]; exact e) (List.nodup_cons.mpr ⟨List.not_mem_nil, .nil⟩) (fun b hb => ?_) fun G' ex nw => ⟨p, vs, [], rfl, rfl, upd_same, ?_⟩
  · have : b = p := by simpa using hb
    rw [this]; exact hp
  · exact RepDs.os (RepDs.mono ex ds vs r)
theorem Res.newT {ds : List Dat} {vs : List V} {p : Addr} (h : Res K G H (.fz (.tup ds)) Q) (r : RepDs K G ds vs) (hp : H p = none) : Q (.ref p) (upd H p (.tup vs)) := by
  refine h (.ref p) _ [] (fun a o e => by rw [upd_ne (ne_of_none e hp)]; exact e) .nil (fun b hb => nomatch hb) fun G' ex nw => ⟨rfl, p, vs, rfl, .inl (.inl (nw p _ hp upd_same (fun z => nomatch z))), RepDs.mono ex ds vs r⟩
/-! ### what is read -/
/-- a list's items, if nobody owns them one by one -/
def asL : OT → Option (List Dat)
  | .fz (.lst ds) => some ds
  | .lst os => allFz os
  | _ => none
theorem asL_ok {o : OT} {ds : List Dat} (e : Ex G H) (h : RepO K G H o v f) (c : asL o = some ds) : ∃ a vs, v = .ref a ∧ H a = some (.lst vs) ∧ RepDs K G ds vs := by
  cases o with
  | fz d =>
    cases d with
    | lst ds' =>
      cases c
      obtain ⟨_, a, vs, rfl, q, r⟩ := h
      exact ⟨a, vs, rfl, e a _ q, r⟩
    | _ => cases c
  | lst os =>
    obtain ⟨a, vs, g, rfl, _, q, r⟩ := h
    rw [allFz_eq c] at r
    exact ⟨a, vs, rfl, q, RepOs.ds r⟩
  | dic os => cases c
/-- a tuple's -/
def asT : OT → Option (List Dat)
  | .fz (.tup ds) => some ds
  | _ => none
theorem asT_ok {o : OT} {ds : List Dat} (e : Ex G H) (h : RepO K G H o v f) (c : asT o = some ds) : ∃ a vs, v = .ref a ∧ SqT K H a vs ∧ RepDs K G ds vs := by
  cases o with
  | fz d =>
    cases d with
    | tup ds' =>
      cases c
      obtain ⟨_, a, vs, rfl, q, r⟩ := h
      exact ⟨a, vs, rfl, e.sqT q, r⟩
    | _ => cases c
  | _ => cases c
def asI : OT → Option Int
  | .fz (.int i) => some i
  | _ => none
theorem asI_ok {o : OT} {i : Int} (h : RepO K G H o v f) (c : asI o = some i) : v = .int i := by
  cases o with
  | fz d =>
    cases d with
    | int j => cases c; exact h.2
    | _ => cases c
  | _ => cases c
def asS : OT → Option Str
  | .fz (.str s) => some s
  | _ => none
theorem asS_ok {o : OT} {i : Str} (h : RepO K G H o v f) (c : asS o = some i) : v = .str i := by
  cases o with
  | fz d =>
    cases d with
    | str j => cases c; exact h.2
    | _ => cases c
  | _ => cases c
theorem RepDs.app {ds es : List Dat} {vs us : List V} (h : RepDs K G ds vs) (h2 : RepDs K G es us) : RepDs K G (ds ++ es) (vs ++ us) := by
  induction ds generalizing vs with
  | nil => rw [show vs = [] from h]; exact h2
  | cons d r ih =>
    obtain ⟨v, r', rfl, q1, q2⟩ := h
    exact ⟨v, r' ++ us, rfl, q1, ih q2⟩
/-- a scalar has come -/
theorem Res.int {i : Int} (h : Res K G H (.fz (.int i)) Q) : Q (.int i) H := Res.same h rfl
theorem Res.bl {i : Bool} (h : Res K G H (.fz (.bl i)) Q) : Q (.bl i) H := Res.same h rfl
theorem Res.str {i : Str} (h : Res K G H (.fz (.str i)) Q) : Q (.str i) H := Res.same h rfl
end

/-! ### + - * // % ** -/
def opAdd (x y : OT) : Option OT := match x, y with
  | .fz (.int i), .fz (.int j) => some (.fz (.int (i + j)))
  | .fz (.str s), .fz (.str t) => if s.length + t.length ≤ sizeLine then some (.fz (.str (s ++ t))) else none
  | .fz (.tup xs), .fz (.tup ys) => if xs.length + ys.length ≤ sizeLine then some (.fz (.tup (xs ++ ys))) else none
  | x, y => match asL x, asL y with
    | some xs, some ys => if xs.length + ys.length ≤ sizeLine then some (.lst ((xs ++ ys).map .fz)) else none
    | _, _ => none
def rAddA (K : PySem.W.Frag) : R2 := fun x y H Q => (rI0 (fun i j => .int (i + j)) x y H Q) ∨ (∃ i j, x = .str i ∧ y = .str j ∧ i.length + j.length ≤ sizeLine ∧ Q (.str (i ++ j)) H) ∨ rCatA K x y H Q ∨ rCat x y H Q
theorem op_addA {X : Cx} : OpR X (binaryOp .Add) (rAddA X.K) := op_add.or (op_add_str.or (op_catA.or op_cat))
theorem ok_add {K : PySem.W.Frag} : OpOk K (rAddA K) opAdd := fun G H o1 o2 v1 v2 f1 f2 o Q e r1 r2 c q => by
  have lists : ∀ {xs ys : List Dat}, asL o1 = some xs → asL o2 = some ys → (if xs.length + ys.length ≤ sizeLine then some (OT.lst ((xs ++ ys).map .fz)) else none) = some o → rAddA K v1 v2 H Q := fun {xs ys} c1 c2 c3 => by
    by_cases h : xs.length + ys.length ≤ sizeLine
    · rw [if_pos h] at c3
      cases c3
      obtain ⟨a, vs, rfl, ha, ra⟩ := asL_ok e r1 c1
      obtain ⟨b, us, rfl, hb, rb⟩ := asL_ok e r2 c2
      exact .inr (.inr (.inr ⟨a, b, vs, us, rfl, rfl, ha, hb, by rw [ra.length, rb.length]; exact h, fun p hp => Res.newL q (ra.app rb) hp⟩))
    · rw [if_neg h] at c3; cases c3
  have gen : (match asL o1, asL o2 with
    | some xs, some ys => if xs.length + ys.length ≤ sizeLine then some (OT.lst ((xs ++ ys).map .fz)) else none
    | _, _ => none) = some o → rAddA K v1 v2 H Q := fun c => by
    cases c1 : asL o1 with
    | none => rw [c1] at c; cases c
    | some xs =>
      cases c2 : asL o2 with
      | none => rw [c1, c2] at c; cases c
      | some ys => rw [c1, c2] at c; exact lists c1 c2 c
  unfold opAdd at c
  split at c
  · cases c
    cases (show v1 = .int _ from r1.2)
    cases (show v2 = .int _ from r2.2)
    exact .inl ⟨_, _, rfl, rfl, q.int⟩
  · rename_i s t
    cases (show v1 = .str _ from r1.2)
    cases (show v2 = .str _ from r2.2)
    by_cases h : s.length + t.length ≤ sizeLine
    · rw [if_pos h] at c
      cases c
      exact .inr (.inl ⟨_, _, rfl, rfl, h, q.str⟩)
    · rw [if_neg h] at c; cases c
  · rename_i xs ys
    by_cases h : xs.length + ys.length ≤ sizeLine
    · rw [if_pos h] at c
      cases c
      obtain ⟨_, a, vs, rfl, ha, ra⟩ := r1
      obtain ⟨_, b, us, rfl, hb, rb⟩ := r2
      refine .inr (.inr (.inl ⟨a, b, vs, us, rfl, rfl, e.sqT ha, e.sqT hb, by rw [ra.length, rb.length]; exact h, ?_⟩))
      refine ⟨fun e => ?_, fun _ e => ?_, fun _ _ p hp => Res.newT q (ra.app rb) hp⟩
      · subst e
        have : xs = [] := by cases xs with | nil => rfl | cons d r => obtain ⟨_, _, z, _⟩ := ra; cases z
        subst this
        exact Res.same q ⟨b, us, rfl, hb, rb⟩
      · subst e
        have : ys = [] := by cases ys with | nil => rfl | cons d r => obtain ⟨_, _, z, _⟩ := rb; cases z
        subst this
        rw [List.append_nil] at q
        exact Res.same q ⟨a, vs, rfl, ha, ra⟩
    · rw [if_neg h] at c; cases c
  · exact gen c
/-- two ints -/
def opII (C : Int → Int → Bool) (g : Int → Int → Dat) (x y : OT) : Option OT := match x, y with
  | .fz (.int i), .fz (.int j) => if C i j then some (.fz (g i j)) else none
  | _, _ => none
theorem opII_ok {C : Int → Int → Bool} {g : Int → Int → Dat} {x y o : OT} (h : opII C g x y = some o) : ∃ i j, x = .fz (.int i) ∧ y = .fz (.int j) ∧ C i j = true ∧ o = .fz (g i j) := by
  unfold opII at h
  split at h
  · rename_i i j
    by_cases c : C i j = true
    · rw [if_pos c] at h
      exact ⟨i, j, rfl, rfl, c, (Option.some.inj h).symm⟩
    · rw [if_neg c] at h; cases h
  · cases h
def gDat (g : Int → Int → V) (d : Int → Int → Dat) : Prop := ∀ K G i j, RepD K G (d i j) (g i j)
theorem ok_II {K : PySem.W.Frag} {C : Int → Int → Bool} {C' : Int → Int → Prop} {d : Int → Int → Dat} {g : Int → Int → V} (hg : gDat g d) (hc : ∀ i j, C i j = true → C' i j) : OpOk K (rI C' g) (opII C d) := fun G H o1 o2 v1 v2 f1 f2 o Q e r1 r2 c q => by
  obtain ⟨i, j, rfl, rfl, h, rfl⟩ := opII_ok c
  exact ⟨i, j, r1.2, r2.2, hc i j h, Res.same q (hg K G i j)⟩
theorem ok_II0 {K : PySem.W.Frag} {d : Int → Int → Dat} {g : Int → Int → V} (hg : gDat g d) : OpOk K (rI0 g) (opII (fun _ _ => true) d) := fun G H o1 o2 v1 v2 f1 f2 o Q e r1 r2 c q => by
  obtain ⟨i, j, rfl, rfl, h, rfl⟩ := opII_ok c
  exact ⟨i, j, r1.2, r2.2, Res.same q (hg K G i j)⟩
abbrev opSub : OT → OT → Option OT := opII (fun _ _ => true) fun i j => .int (i - j)
theorem ok_sub {K : PySem.W.Frag} : OpOk K (rI0 fun i j => .int (i - j)) opSub := ok_II0 fun _ _ _ _ => rfl
/-- ints of any size in the line -/
def cMul (i j : Int) : Bool := decide (i.natAbs < 9223372036854775808) || decide (j.natAbs < 9223372036854775808) || decide (i.natAbs.log2 + j.natAbs.log2 < 100000000)
theorem small_bits {i : Int} (h : i.natAbs < 9223372036854775808) : Builtin.Int.intBits i ≤ 64 := intBits_le_64 (by omega) (by omega)
theorem cMul_ok {i j : Int} (h : cMul i j = true) : IntMulOk i j := by
  unfold cMul at h
  simp only [Bool.or_eq_true, decide_eq_true_eq] at h
  rcases h with (h | h) | h
  · exact .of_left (small_bits h)
  · exact .of_right (small_bits h)
  · have b : ∀ x : Int, Builtin.Int.intBits x ≤ x.natAbs.log2 + 1 := fun x => by
      unfold Builtin.Int.intBits
      split <;> omega
    have h1 := b i
    have h2 := b j
    have e : bitsLine = 134217728 := by decide
    unfold IntMulOk
    intro z
    rw [Bool.and_eq_true] at z
    have z2 := z.2
    unfold Builtin.Int.intTooBig at z2
    have z3 := of_decide_eq_true z2
    rw [e] at z3
    omega
abbrev opMul : OT → OT → Option OT := opII cMul fun i j => .int (i * j)
theorem op_mulA {X : Cx} : OpR X (binaryOp .Mult) (rI IntMulOk fun i j => .int (i * j)) := opI fun _ _ _ _ _ _ _ hc q => PyProof.Rows.mul_int q hc
theorem ok_mul {K : PySem.W.Frag} : OpOk K (rI IntMulOk fun i j => .int (i * j)) opMul := ok_II (fun _ _ _ _ => rfl) fun i j h => cMul_ok h
abbrev opMod : OT → OT → Option OT := opII (fun _ j => decide (0 < j)) fun i j => .int (i % j)
theorem ok_mod {K : PySem.W.Frag} : OpOk K (rI (fun _ j => 0 < j) fun i j => .int (i % j)) opMod := ok_II (fun _ _ _ _ => rfl) fun _ _ h => of_decide_eq_true h
def cDiv (_ j : Int) : Bool := decide (j ≠ 0) && decide (j.natAbs.log2 < 9000)
abbrev opFdiv : OT → OT → Option OT := opII cDiv fun i j => .int (i.fdiv j)
theorem op_fdivA {X : Cx} : OpR X (binaryOp .FloorDiv) (rI (fun _ j => j ≠ 0 ∧ j.natAbs.log2 < 9000) fun i j => .int (i.fdiv j)) := opI fun _ _ _ _ _ _ _ hc q => PyProof.Rows.floordiv_int hc.1 q (.inl (PyProof.noPylong_of_log2 hc.2))
theorem ok_fdiv {K : PySem.W.Frag} : OpOk K (rI (fun _ j => j ≠ 0 ∧ j.natAbs.log2 < 9000) fun i j => .int (i.fdiv j)) opFdiv := ok_II (fun _ _ _ _ => rfl) fun _ _ h => by
  simp only [cDiv, Bool.and_eq_true, decide_eq_true_eq] at h
  exact h
def cPow (i j : Int) : Bool := decide (0 ≤ j) && decide (j ≤ 1000000) && decide (i.natAbs < 2 ^ 64)
abbrev opPow : OT → OT → Option OT := opII cPow fun i j => .int (i ^ j.toNat)
theorem ok_pow {K : PySem.W.Frag} : OpOk K (rI CPow fun i j => .int (i ^ j.toNat)) opPow := ok_II (fun _ _ _ _ => rfl) fun _ _ h => by
  simp only [cPow, Bool.and_eq_true, decide_eq_true_eq] at h
  exact ⟨h.1.1, h.1.2, h.2⟩
def opNeg : OT → Option OT
  | .fz (.int i) => some (.fz (.int (-i)))
  | _ => none
theorem ok_neg {K : PySem.W.Frag} : Op1Ok K (rU fun i => .int (-i)) opNeg := fun G H o1 v1 f1 o Q e r1 c q => by
  unfold opNeg at c
  split at c
  · cases c; exact ⟨_, r1.2, q.int⟩
  · cases c

/-! ### comparisons of ints and of data -/
abbrev opCmp (p : Int → Int → Bool) : OT → OT → Option OT := opII (fun _ _ => true) fun i j => .bl (p i j)
theorem ok_cmp {K : PySem.W.Frag} (p : Int → Int → Bool) : OpOk K (rI0 fun i j => .bl (p i j)) (opCmp p) := ok_II0 fun _ _ _ _ => rfl
abbrev opLt := opCmp fun i j => decide (i < j)
abbrev opLe := opCmp fun i j => decide (i ≤ j)
abbrev opGt := opCmp fun i j => decide (j < i)
abbrev opGe := opCmp fun i j => decide (j ≤ i)
mutual
def eqD : Dat → Dat → Bool
  | .non, .non => true
  | .bl a, .bl b => a == b
  | .bl a, .int j => (if a then 1 else 0) == j
  | .int i, .bl b => i == (if b then 1 else 0)
  | .int i, .int j => i == j
  | .str x, .str y => x == y
  | .lst xs, .lst ys => eqDs xs ys
  | .tup xs, .tup ys => eqDs xs ys
  | _, _ => false
def eqDs : List Dat → List Dat → Bool
  | [], [] => true
  | x :: xs, y :: ys => eqD x y && eqDs xs ys
  | _, _ => false
end
mutual
/-- as the library's data; no dicts within, not deeper than n -/
def pyD : Nat → Dat → Option PyData
  | _, .non => some .none
  | _, .bl b => some (.bool b)
  | _, .int i => some (.int i)
  | _, .str s => some (.str s)
  | n + 1, .tup xs => (pyDs n xs).map .tuple
  | n + 1, .lst xs => (pyDs n xs).map .list
  | _, _ => none
def pyDs : Nat → List Dat → Option (List PyData)
  | _, [] => some []
  | n, d :: r => match pyD n d, pyDs n r with
    | some x, some xs => some (x :: xs)
    | _, _ => none
end
mutual
/-- data that may be compared: no dicts within, at most n deep -/
def cmpOk : Nat → Dat → Bool
  | _, .non => true | _, .bl _ => true | _, .int _ => true | _, .str s => PyData.strOk s
  | n + 1, .tup xs => cmpOks n xs
  | n + 1, .lst xs => cmpOks n xs
  | _, _ => false
def cmpOks : Nat → List Dat → Bool
  | _, [] => true
  | n, d :: r => cmpOk n d && cmpOks n r
end
mutual
theorem cmp_py : ∀ (d : Dat) (n : Nat), cmpOk n d = true → ∃ p, pyD n d = some p ∧ p.canLay0 = true ∧ p.depth ≤ n
  | .non, n, _ => ⟨.none, by cases n <;> rfl, rfl, by cases n <;> simp [PyData.depth]⟩
  | .bl b, n, _ => ⟨.bool b, by cases n <;> rfl, rfl, by cases n <;> simp [PyData.depth]⟩
  | .int b, n, _ => ⟨.int b, by cases n <;> rfl, rfl, by cases n <;> simp [PyData.depth]⟩
  | .str b, n, h => ⟨.str b, by cases n <;> rfl, by cases n <;> simpa [cmpOk, PyData.canLay0] using h, by cases n <;> simp [PyData.depth]⟩
  | .tup xs, 0, h => by simp [cmpOk] at h
  | .lst xs, 0, h => by simp [cmpOk] at h
  | .tup xs, n + 1, h => by
    obtain ⟨ps, h1, h2, h3⟩ := cmp_pys xs n (by simpa [cmpOk] using h)
    exact ⟨.tuple ps, by simp [pyD, h1], by simpa [PyData.canLay0] using h2, by simp [PyData.depth]; omega⟩
  | .lst xs, n + 1, h => by
    obtain ⟨ps, h1, h2, h3⟩ := cmp_pys xs n (by simpa [cmpOk] using h)
    exact ⟨.list ps, by simp [pyD, h1], by simpa [PyData.canLay0] using h2, by simp [PyData.depth]; omega⟩
  | .dic _, n, h => by cases n <;> simp [cmpOk] at h
  | .kst _, n, h => by cases n <;> simp [cmpOk] at h
theorem cmp_pys : ∀ (ds : List Dat) (n : Nat), cmpOks n ds = true → ∃ ps, pyDs n ds = some ps ∧ PyData.canLayAll0 ps = true ∧ PyData.depthAll ps ≤ n
  | [], n, _ => ⟨[], by cases n <;> rfl, rfl, by simp [PyData.depthAll]⟩
  | d :: r, n, h => by
    have h : (cmpOk n d && cmpOks n r) = true := by cases n <;> simpa [cmpOks] using h
    rw [Bool.and_eq_true] at h
    obtain ⟨p, h1, h2, h3⟩ := cmp_py d n h.1
    obtain ⟨ps, g1, g2, g3⟩ := cmp_pys r n h.2
    exact ⟨p :: ps, by cases n <;> simp [pyDs, h1, g1], by simp [PyData.canLayAll0, h2, g2], by simp [PyData.depthAll]; omega⟩
end
section
variable {K : PySem.W.Frag} {G H : Hp}
mutual
theorem RepD.dp (e : Ex G H) : ∀ (d : Dat) (n : Nat) (v : V) (p : PyData), pyD n d = some p → RepD K G d v → Dp K H v p
  | .non, n, v, p, h, r => by
    have : p = .none := by cases n <;> (cases h; rfl)
    subst this
    cases (show v = .non from r)
    exact .non
  | .bl b, n, v, p, h, r => by
    have : p = .bool b := by cases n <;> (cases h; rfl)
    subst this
    cases (show v = .bl b from r)
    exact .bl b
  | .int b, n, v, p, h, r => by
    have : p = .int b := by cases n <;> (cases h; rfl)
    subst this
    cases (show v = .int b from r)
    exact .int b
  | .str b, n, v, p, h, r => by
    have : p = .str b := by cases n <;> (cases h; rfl)
    subst this
    cases (show v = .str b from r)
    exact .str b
  | .tup xs, 0, v, p, h, r => by cases h
  | .lst xs, 0, v, p, h, r => by cases h
  | .tup xs, n + 1, v, p, h, r => by
    obtain ⟨a, vs, rfl, q, r⟩ := r
    simp only [pyD, Option.map_eq_some_iff] at h
    obtain ⟨ps, h1, rfl⟩ := h
    exact .tup (e.sqT q) (RepDs.dp e xs n vs ps h1 r)
  | .lst xs, n + 1, v, p, h, r => by
    obtain ⟨a, vs, rfl, q, r⟩ := r
    simp only [pyD, Option.map_eq_some_iff] at h
    obtain ⟨ps, h1, rfl⟩ := h
    exact .lst (.inl (.inl (e a _ q))) (RepDs.dp e xs n vs ps h1 r)
  | .dic _, n, v, p, h, _ => by cases n <;> cases h
  | .kst _, n, v, p, h, _ => by cases n <;> cases h
theorem RepDs.dp (e : Ex G H) : ∀ (ds : List Dat) (n : Nat) (vs : List V) (ps : List PyData), pyDs n ds = some ps → RepDs K G ds vs → DpAll K H vs ps
  | [], n, vs, ps, h, r => by
    have : ps = [] := by cases n <;> (cases h; rfl)
    subst this
    rw [show vs = [] from r]
    exact .nil
  | d :: ds, n, vs, ps, h, r => by
    obtain ⟨v, r', rfl, q1, q2⟩ := r
    have h : (match pyD n d, pyDs n ds with | some x, some xs => some (x :: xs) | _, _ => none) = some ps := by cases n <;> exact h
    cases c1 : pyD n d with
    | none => rw [c1] at h; cases h
    | some x =>
      cases c2 : pyDs n ds with
      | none => rw [c1, c2] at h; cases h
      | some xs =>
        rw [c1, c2] at h
        cases h
        exact .cons (RepD.dp e d n v x c1 q1) (RepDs.dp e ds n r' xs c2 q2)
end
end
mutual
theorem eqD_py : ∀ (d e : Dat) (n m : Nat) (p q : PyData), pyD n d = some p → pyD m e = some q → PyData.eqv p q = eqD d e
  | .non, e, n, m, p, q, h1, h2 => by
    have : p = .none := by cases n <;> (cases h1; rfl)
    subst this
    cases e <;> cases m <;> simp [pyD] at h2 <;> first | (subst h2; simp [PyData.eqv, eqD]) | (obtain ⟨_, _, rfl⟩ := h2; simp [PyData.eqv, eqD])
  | .bl b, e, n, m, p, q, h1, h2 => by
    have : p = .bool b := by cases n <;> (cases h1; rfl)
    subst this
    cases e <;> cases m <;> simp [pyD] at h2 <;> first | (subst h2; simp [PyData.eqv, eqD]) | (obtain ⟨_, _, rfl⟩ := h2; simp [PyData.eqv, eqD])
  | .int b, e, n, m, p, q, h1, h2 => by
    have : p = .int b := by cases n <;> (cases h1; rfl)
    subst this
    cases e <;> cases m <;> simp [pyD] at h2 <;> first | (subst h2; simp [PyData.eqv, eqD]) | (obtain ⟨_, _, rfl⟩ := h2; simp [PyData.eqv, eqD])
  | .str b, e, n, m, p, q, h1, h2 => by
    have : p = .str b := by cases n <;> (cases h1; rfl)
    subst this
    cases e <;> cases m <;> simp [pyD] at h2 <;> first | (subst h2; simp [PyData.eqv, eqD]) | (obtain ⟨_, _, rfl⟩ := h2; simp [PyData.eqv, eqD])
  | .tup xs, e, 0, m, p, q, h1, h2 => by cases h1
  | .lst xs, e, 0, m, p, q, h1, h2 => by cases h1
  | .tup xs, e, n + 1, m, p, q, h1, h2 => by
    simp only [pyD, Option.map_eq_some_iff] at h1
    obtain ⟨ps, h1, rfl⟩ := h1
    cases e with
    | tup ys =>
      cases m with
      | zero => cases h2
      | succ m =>
        simp only [pyD, Option.map_eq_some_iff] at h2
        obtain ⟨qs, h2, rfl⟩ := h2
        simpa [PyData.eqv, eqD] using eqDs_py xs ys n m ps qs h1 h2
    | _ => cases m <;> simp [pyD] at h2 <;> first | (subst h2; simp [PyData.eqv, eqD]) | (obtain ⟨_, _, rfl⟩ := h2; simp [PyData.eqv, eqD])
  | .lst xs, e, n + 1, m, p, q, h1, h2 => by
    simp only [pyD, Option.map_eq_some_iff] at h1
    obtain ⟨ps, h1, rfl⟩ := h1
    cases e with
    | lst ys =>
      cases m with
      | zero => cases h2
      | succ m =>
        simp only [pyD, Option.map_eq_some_iff] at h2
        obtain ⟨qs, h2, rfl⟩ := h2
        simpa [PyData.eqv, eqD] using eqDs_py xs ys n m ps qs h1 h2
    | _ => cases m <;> simp [pyD] at h2 <;> first | (subst h2; simp [PyData.eqv, eqD]) | (obtain ⟨_, _, rfl⟩ := h2; simp [PyData.eqv, eqD])
  | .dic _, _, n, _, _, _, h, _ => by cases n <;> cases h
  | .kst _, _, n, _, _, _, h, _ => by cases n <;> cases h
theorem eqDs_py : ∀ (ds es : List Dat) (n m : Nat) (ps qs : List PyData), pyDs n ds = some ps → pyDs m es = some qs → PyData.eqvAll ps qs = eqDs ds es
  | [], es, n, m, ps, qs, h1, h2 => by
    have : ps = [] := by cases n <;> (cases h1; rfl)
    subst this
    cases es with
    | nil =>
      have : qs = [] := by cases m <;> (cases h2; rfl)
      subst this
      simp [PyData.eqvAll, eqDs]
    | cons e r =>
      have h2 : (match pyD m e, pyDs m r with | some x, some xs => some (x :: xs) | _, _ => none) = some qs := by cases m <;> exact h2
      split at h2
      · cases h2; simp [PyData.eqvAll, eqDs]
      · cases h2
  | d :: ds, es, n, m, ps, qs, h1, h2 => by
    have h1 : (match pyD n d, pyDs n ds with | some x, some xs => some (x :: xs) | _, _ => none) = some ps := by cases n <;> exact h1
    cases c1 : pyD n d with
    | none => rw [c1] at h1; cases h1
    | some x =>
      cases c2 : pyDs n ds with
      | none => rw [c1, c2] at h1; cases h1
      | some xs =>
        rw [c1, c2] at h1
        cases h1
        cases es with
        | nil =>
          have : qs = [] := by cases m <;> (cases h2; rfl)
          subst this
          simp [PyData.eqvAll, eqDs]
        | cons e r =>
          have h2 : (match pyD m e, pyDs m r with | some x, some xs => some (x :: xs) | _, _ => none) = some qs := by cases m <;> exact h2
          cases g1 : pyD m e with
          | none => rw [g1] at h2; cases h2
          | some y =>
            cases g2 : pyDs m r with
            | none => rw [g1, g2] at h2; cases h2
            | some ys =>
              rw [g1, g2] at h2
              cases h2
              simp only [PyData.eqvAll, eqDs, eqD_py d e n m x y c1 g1, eqDs_py ds r n m xs ys c2 g2]
end
/-- what stands there, as plain data -/
theorem RepO.dat {K : PySem.W.Frag} {G H : Hp} {o : OT} {v : V} {f : List Addr} (e : Ex G H) (r : RepO K G H o v f) : RepD K H (frz o) v := RepO.freeze e o v f (fun _ _ _ e => e) r
def eqO (x y : OT) : Option Bool := match x, y with
  | .fz (.str s), .fz (.str t) => some (decide (s = t))
  | x, y => if cmpOk 60 (frz x) && cmpOk 60 (frz y) then some (eqD (frz x) (frz y)) else none
def opEq (x y : OT) : Option OT := (eqO x y).map fun b => .fz (.bl b)
def opNe (x y : OT) : Option OT := (eqO x y).map fun b => .fz (.bl (!b))
def rEqA (K : PySem.W.Frag) : R2 := fun x y H Q => rEq x y H Q ∨ rEqD K x y H Q
def rNeA (K : PySem.W.Frag) : R2 := fun x y H Q => rNe x y H Q ∨ rNeD K x y H Q
theorem op_eqA {X : Cx} (hu : X.A.units + 64 < cLine) : OpR X (compareOp .Eq) (rEqA X.K) := op_eq.or (op_eqD hu)
theorem op_neA {X : Cx} (hu : X.A.units + 64 < cLine) : OpR X (compareOp .NotEq) (rNeA X.K) := op_ne.or (op_neD hu)
theorem eqO_dp {K : PySem.W.Frag} {G H : Hp} {o1 o2 : OT} {v1 v2 : V} {f1 f2 : List Addr} {b : Bool} (e : Ex G H) (r1 : RepO K G H o1 v1 f1) (r2 : RepO K G H o2 v2 f2) (c : eqO o1 o2 = some b) :
    (∃ s t, v1 = .str s ∧ v2 = .str t ∧ b = decide (s = t)) ∨ ∃ d1 d2, Dp K H v1 d1 ∧ Dp K H v2 d2 ∧ SeqAt.shaped d1 = true ∧ SeqAt.shaped d2 = true ∧ PyData.eqv d1 d2 = b := by
  unfold eqO at c
  split at c
  · cases c
    exact .inl ⟨_, _, r1.2, r2.2, rfl⟩
  · split at c
    · rename_i h
      cases c
      rw [Bool.and_eq_true] at h
      obtain ⟨p, h1, h2, h3⟩ := cmp_py _ _ h.1
      obtain ⟨q, g1, g2, g3⟩ := cmp_py _ _ h.2
      have sh : ∀ p : PyData, p.canLay0 = true → p.depth ≤ 60 → SeqAt.shaped p = true := fun p a b => by
        unfold SeqAt.shaped
        rw [a]
        simp only [Bool.true_and, decide_eq_true_eq]
        omega
      exact .inr ⟨p, q, RepD.dp (Ex.refl _) _ _ _ _ h1 (RepO.dat e r1), RepD.dp (Ex.refl _) _ _ _ _ g1 (RepO.dat e r2), sh p h2 h3, sh q g2 g3, eqD_py _ _ _ _ _ _ h1 g1⟩
    · cases c
theorem ok_eq {K : PySem.W.Frag} : OpOk K (rEqA K) opEq := fun G H o1 o2 v1 v2 f1 f2 o Q e r1 r2 c q => by
  unfold opEq at c
  cases h : eqO o1 o2 with
  | none => rw [h] at c; cases c
  | some b =>
    rw [h] at c
    cases c
    rcases eqO_dp e r1 r2 h with ⟨s, t, rfl, rfl, rfl⟩ | ⟨d1, d2, h1, h2, h3, h4, rfl⟩
    · refine .inl ⟨rfl, ?_⟩
      have : decide (V.str s = V.str t) = decide (s = t) := by
        by_cases h : s = t
        · subst h; simp
        · have : ¬ V.str s = V.str t := fun z => h (V.str.inj z)
          rw [decide_eq_false h, decide_eq_false this]
      rw [this]
      exact q.bl
    · exact .inr ⟨d1, d2, h1, h2, h3, h4, q.bl⟩
theorem ok_ne {K : PySem.W.Frag} : OpOk K (rNeA K) opNe := fun G H o1 o2 v1 v2 f1 f2 o Q e r1 r2 c q => by
  unfold opNe at c
  cases h : eqO o1 o2 with
  | none => rw [h] at c; cases c
  | some b =>
    rw [h] at c
    cases c
    rcases eqO_dp e r1 r2 h with ⟨s, t, rfl, rfl, rfl⟩ | ⟨d1, d2, h1, h2, h3, h4, rfl⟩
    · refine .inl ⟨rfl, ?_⟩
      have : decide (V.str s = V.str t) = decide (s = t) := by
        by_cases h : s = t
        · subst h; simp
        · have : ¬ V.str s = V.str t := fun z => h (V.str.inj z)
          rw [decide_eq_false h, decide_eq_false this]
      rw [this]
      exact q.bl
    · exact .inr ⟨d1, d2, h1, h2, h3, h4, q.bl⟩
end Lay

namespace Lay
open PySem PySem.Spec L2

/-! ### is None, is True -/
def rIsB2 (neg : Bool) : R2 := fun x y H Q => (y = .non ∧ Q (.bl (if neg then !decide (x = .non) else decide (x = .non))) H) ∨ ∃ b, y = .bl b ∧ Q (.bl (if neg then !decide (x = .bl b) else decide (x = .bl b))) H
theorem RelV.bl_iff {x : V} {v : Value} {b : Bool} (r : RelV x v) : v = Value.bool b ↔ x = .bl b := by
  cases x with
  | non => cases r; exact ⟨(fun z => nomatch z), (fun z => nomatch z)⟩
  | bl c => cases (show v = Value.bool c from r); exact ⟨(fun z => by cases z; rfl), (fun z => by cases z; rfl)⟩
  | int _ => obtain ⟨t, rfl⟩ := r; exact ⟨(fun z => nomatch z), (fun z => nomatch z)⟩
  | str _ => obtain ⟨t, rfl⟩ := r; exact ⟨(fun z => nomatch z), (fun z => nomatch z)⟩
  | byt _ => obtain ⟨t, rfl⟩ := r; exact ⟨(fun z => nomatch z), (fun z => nomatch z)⟩
  | flt _ => obtain ⟨t, rfl⟩ := r; exact ⟨(fun z => nomatch z), (fun z => nomatch z)⟩
  | ref _ => cases r; exact ⟨(fun z => nomatch z), (fun z => nomatch z)⟩
  | ty _ => cases r; exact ⟨(fun z => nomatch z), (fun z => nomatch z)⟩
theorem is_bool_gen {M : Model} {A : Around} {E : Value → Shared → Prop} {s : Shared} {Q : Value → Shared → Prop} {x : V} {v : Value} {b : Bool} (r : RelV x v) (h : Q (.bool (v == .bool b)) s) : wpAny M A (compareOp .Is v (.bool b)) Q E s := by
  cases x with
  | non => cases r; exact wpAny_pure h
  | bl c => cases (show v = Value.bool c from r); exact wpAny_pure h
  | int _ => obtain ⟨t, rfl⟩ := r; exact wpAny_pure h
  | str _ => obtain ⟨t, rfl⟩ := r; exact wpAny_pure h
  | byt _ => obtain ⟨t, rfl⟩ := r; exact wpAny_pure h
  | flt _ => obtain ⟨t, rfl⟩ := r; exact wpAny_pure h
  | ref _ => cases r; exact wpAny_pure h
  | ty _ => cases r; exact wpAny_pure h
theorem isnot_bool_gen {M : Model} {A : Around} {E : Value → Shared → Prop} {s : Shared} {Q : Value → Shared → Prop} {x : V} {v : Value} {b : Bool} (r : RelV x v) (h : Q (.bool (!(v == .bool b))) s) : wpAny M A (compareOp .IsNot v (.bool b)) Q E s := by
  cases x with
  | non => cases r; exact wpAny_pure h
  | bl c => cases (show v = Value.bool c from r); exact wpAny_pure h
  | int _ => obtain ⟨t, rfl⟩ := r; exact wpAny_pure h
  | str _ => obtain ⟨t, rfl⟩ := r; exact wpAny_pure h
  | byt _ => obtain ⟨t, rfl⟩ := r; exact wpAny_pure h
  | flt _ => obtain ⟨t, rfl⟩ := r; exact wpAny_pure h
  | ref _ => cases r; exact wpAny_pure h
  | ty _ => cases r; exact wpAny_pure h
section
variable {X : Cx}
theorem op_isA : OpR X (compareOp .Is) (rIsB2 false) := by
  intro pins s σ H x y v u Q I rx ry h
  rcases h with ⟨rfl, q⟩ | ⟨b, rfl, q⟩
  · exact op_isN pins s σ H x .non v u Q I rx ry ⟨rfl, q⟩
  · cases (show u = Value.bool b from ry)
    refine is_bool_gen rx ⟨.bl _, H, I, ?_, q⟩
    show Value.bool _ = Value.bool _
    congr 1
    by_cases e : x = .bl b
    · rw [(RelV.bl_iff rx).mpr e, if_neg Bool.false_ne_true, decide_eq_true e]; simp
    · have : v ≠ Value.bool b := fun z => e ((RelV.bl_iff rx).mp z)
      rw [if_neg Bool.false_ne_true, decide_eq_false e]
      simpa using this
theorem op_isNotA : OpR X (compareOp .IsNot) (rIsB2 true) := by
  intro pins s σ H x y v u Q I rx ry h
  rcases h with ⟨rfl, q⟩ | ⟨b, rfl, q⟩
  · exact op_notN pins s σ H x .non v u Q I rx ry ⟨rfl, q⟩
  · cases (show u = Value.bool b from ry)
    refine isnot_bool_gen rx ⟨.bl _, H, I, ?_, q⟩
    show Value.bool _ = Value.bool _
    congr 1
    by_cases e : x = .bl b
    · rw [(RelV.bl_iff rx).mpr e, if_pos rfl, decide_eq_true e]; simp
    · have : v ≠ Value.bool b := fun z => e ((RelV.bl_iff rx).mp z)
      rw [if_pos rfl, decide_eq_false e]
      simpa using this
end
def isNonO : OT → Bool
  | .fz .non => true
  | _ => false
def isBlO (b : Bool) : OT → Bool
  | .fz (.bl c) => c == b
  | _ => false
def isO (x y : OT) : Option Bool := match y with
  | .fz .non => some (isNonO x)
  | .fz (.bl b) => some (isBlO b x)
  | _ => none
def opIs (neg : Bool) (x y : OT) : Option OT := (isO x y).map fun b => .fz (.bl (if neg then !b else b))
theorem isNon_ok {K : PySem.W.Frag} {G H : Hp} {o : OT} {v : V} {f : List Addr} (r : RepO K G H o v f) : decide (v = .non) = isNonO o := by
  cases o with
  | fz d =>
    cases d with
    | non => cases (show v = .non from r.2); rfl
    | bl b => cases (show v = .bl b from r.2); rfl
    | int b => cases (show v = .int b from r.2); rfl
    | str b => cases (show v = .str b from r.2); rfl
    | tup b => obtain ⟨_, a, vs, rfl, _⟩ := r; rfl
    | lst b => obtain ⟨_, a, vs, rfl, _⟩ := r; rfl
    | dic b => obtain ⟨_, a, vs, rfl, _⟩ := r; rfl
    | kst b => obtain ⟨_, a, rfl, _⟩ := r; rfl
  | lst os => obtain ⟨a, vs, _, rfl, _⟩ := r; rfl
  | dic os => obtain ⟨a, vs, _, rfl, _⟩ := r; rfl
theorem isBl_ok {K : PySem.W.Frag} {G H : Hp} {o : OT} {v : V} {f : List Addr} {b : Bool} (r : RepO K G H o v f) : decide (v = .bl b) = isBlO b o := by
  cases o with
  | fz d =>
    cases d with
    | non => cases (show v = .non from r.2); rfl
    | bl c => cases (show v = .bl c from r.2); cases b <;> cases c <;> rfl
    | int b => cases (show v = .int b from r.2); rfl
    | str b => cases (show v = .str b from r.2); rfl
    | tup b => obtain ⟨_, a, vs, rfl, _⟩ := r; rfl
    | lst b => obtain ⟨_, a, vs, rfl, _⟩ := r; rfl
    | dic b => obtain ⟨_, a, vs, rfl, _⟩ := r; rfl
    | kst b => obtain ⟨_, a, rfl, _⟩ := r; rfl
  | lst os => obtain ⟨a, vs, _, rfl, _⟩ := r; rfl
  | dic os => obtain ⟨a, vs, _, rfl, _⟩ := r; rfl
theorem ok_is {K : PySem.W.Frag} {neg : Bool} : OpOk K (rIsB2 neg) (opIs neg) := fun G H o1 o2 v1 v2 f1 f2 o Q e r1 r2 c q => by
  unfold opIs at c
  cases h : isO o1 o2 with
  | none => rw [h] at c; cases c
  | some k =>
    rw [h] at c
    cases c
    unfold isO at h
    split at h
    · cases h
      refine .inl ⟨r2.2, ?_⟩
      rw [isNon_ok r1]
      cases neg <;> exact q.bl
    · rename_i b
      cases h
      refine .inr ⟨b, r2.2, ?_⟩
      rw [isBl_ok r1]
      cases neg <;> exact q.bl
    · cases h

/-! ### subscripts -/
def opIx (x y : OT) : Option OT := match y with
  | .fz (.int i) => match x with
    | .fz (.tup xs) => (atI xs i).map .fz
    | .fz (.kst ns) => (atI ns i).map fun n => .fz (.int n)
    | .fz (.str s) => if s.length ≤ sizeLine then (atI s.cps.toList i).map fun c => .fz (.str ⟨#[c]⟩) else none
    | x => match asL x with
      | some xs => (atI xs i).map .fz
      | none => none
  | _ => none
theorem RepDs.atI {K : PySem.W.Frag} {G : Hp} {ds : List Dat} {vs : List V} (r : RepDs K G ds vs) {i : Int} {d : Dat} (h : L2.atI ds i = some d) : ∃ v, L2.atI vs i = some v ∧ RepD K G d v := by
  unfold L2.atI at h ⊢
  rw [r.length]
  cases e : ixN ds.length i with
  | none => rw [e] at h; cases h
  | some j =>
    rw [e] at h
    have h : ds[j]? = some d := h
    have hj : j < vs.length := by rw [r.length]; exact (List.getElem?_eq_some_iff.mp h).1
    obtain ⟨d', h1, h2⟩ := r.get (List.getElem?_eq_getElem hj)
    rw [h] at h1
    cases h1
    exact ⟨_, List.getElem?_eq_getElem hj, h2⟩
theorem ok_ix {K : PySem.W.Frag} : OpOk K (rIx K) opIx := fun G H o1 o2 v1 v2 f1 f2 o Q e r1 r2 c q => by
  unfold opIx at c
  split at c
  · rename_i i
    cases (show v2 = .int i from r2.2)
    split at c
    · rename_i xs
      obtain ⟨_, a, vs, rfl, ha, ra⟩ := r1
      cases h : L2.atI xs i with
      | none => rw [h] at c; cases c
      | some d =>
        rw [h] at c
        cases c
        obtain ⟨v, g1, g2⟩ := ra.atI h
        exact .inr (.inl ⟨a, vs, i, v, rfl, rfl, e.sqT ha, g1, Res.same q g2⟩)
    · rename_i ns
      obtain ⟨_, a, rfl, ha⟩ := r1
      cases h : L2.atI ns i with
      | none => rw [h] at c; cases c
      | some n =>
        rw [h] at c
        cases c
        refine .inl ⟨a, _, i, .int n, rfl, rfl, e.sqL ha, ?_, q.int⟩
        unfold L2.atI at h ⊢
        rw [List.length_map]
        cases e : ixN ns.length i with
        | none => rw [e] at h; cases h
        | some j =>
          rw [e] at h
          have h : ns[j]? = some n := h
          show (ns.map V.int)[j]? = _
          rw [List.getElem?_map, h]
          rfl
    · rename_i s
      cases (show v1 = .str s from r1.2)
      by_cases hz : s.length ≤ sizeLine
      · rw [if_pos hz] at c
        cases h : L2.atI s.cps.toList i with
        | none => rw [h] at c; cases c
        | some n =>
          rw [h] at c
          cases c
          exact .inr (.inr ⟨s, i, n, rfl, rfl, hz, h, q.str⟩)
      · rw [if_neg hz] at c; cases c
    · cases c1 : asL o1 with
      | none => rw [c1] at c; cases c
      | some xs =>
        rw [c1] at c
        simp only at c
        obtain ⟨a, vs, rfl, ha, ra⟩ := asL_ok e r1 c1
        cases h : L2.atI xs i with
        | none => rw [h] at c; cases c
        | some d =>
          rw [h] at c
          cases c
          obtain ⟨v, g1, g2⟩ := ra.atI h
          exact .inl ⟨a, vs, i, v, rfl, rfl, .inl (.inl ha), g1, Res.same q g2⟩
  · cases c
/-- x[i] where x owns its items: what is read must stand alone -/
def lenO : OT → Option Nat
  | .fz (.str s) => if s.length ≤ sizeLine then some s.length else none
  | .fz (.tup xs) => some xs.length
  | .fz (.lst xs) => some xs.length
  | .fz (.kst xs) => some xs.length
  | .lst os => some os.length
  | _ => none
def opLen : List OT → Option OT
  | [x] => (lenO x).map fun n => .fz (.int n)
  | _ => none
theorem lenO_ok {K : PySem.W.Frag} {G H : Hp} {o : OT} {v : V} {f : List Addr} {n : Nat} (e : Ex G H) (r : RepO K G H o v f) (h : lenO o = some n) : LenV K v H n := by
  cases o with
  | fz d =>
    cases d with
    | str s =>
      cases (show v = .str s from r.2)
      have h : (if s.length ≤ sizeLine then some s.length else none) = some n := h
      by_cases hz : s.length ≤ sizeLine
      · rw [if_pos hz] at h; cases h; exact ⟨hz, rfl⟩
      · rw [if_neg hz] at h; cases h
    | tup xs => obtain ⟨_, a, vs, rfl, q, r⟩ := r; cases h; exact .inr ⟨vs, e.sqT q, r.length.symm⟩
    | lst xs => obtain ⟨_, a, vs, rfl, q, r⟩ := r; cases h; exact .inl ⟨vs, .inl (.inl (e a _ q)), r.length.symm⟩
    | kst xs => obtain ⟨_, a, rfl, q⟩ := r; cases h; exact .inl ⟨_, e.sqL q, by rw [List.length_map]⟩
    | _ => cases h
  | lst os => obtain ⟨a, vs, _, rfl, _, q, r⟩ := r; cases h; exact .inl ⟨vs, .inl (.inl q), (RepOs.length r).symm⟩
  | dic os => cases h
theorem RepV.one {K : PySem.W.Frag} {G H : Hp} {o : OT} {vs : List V} (h : RepV K G H [o] vs) : ∃ v f, vs = [v] ∧ RepO K G H o v f := by
  obtain ⟨v, r', f, rfl, q, e⟩ := h
  cases (show r' = [] from e)
  exact ⟨v, f, rfl, q⟩
theorem RepV.two {K : PySem.W.Frag} {G H : Hp} {o o' : OT} {vs : List V} (h : RepV K G H [o, o'] vs) : ∃ v v' f f', vs = [v, v'] ∧ RepO K G H o v f ∧ RepO K G H o' v' f' := by
  obtain ⟨v, r', f, rfl, q, h⟩ := h
  obtain ⟨v', f', rfl, q'⟩ := h.one
  exact ⟨v, v', f, f', rfl, q, q'⟩
theorem ok_len {K : PySem.W.Frag} : CallOk K (fun xs H Q => ∃ x n, xs = [x] ∧ LenV K x H n ∧ Q (.int n) H) opLen := fun G H os vs o Q e r c q => by
  unfold opLen at c
  split at c
  · rename_i x
    obtain ⟨v, f, rfl, r1⟩ := r.one
    cases h : lenO x with
    | none => rw [h] at c; cases c
    | some n =>
      rw [h] at c
      cases c
      exact ⟨v, n, rfl, lenO_ok e r1 h, q.int⟩
  · cases c
/-! ### calls of built-ins -/
def op1I (g : Int → Option Dat) : List OT → Option OT
  | [.fz (.int i)] => (g i).map .fz
  | _ => none
def opAbs : List OT → Option OT := op1I fun i => some (.int (if i < 0 then -i else i))
theorem ok_abs {K : PySem.W.Frag} : CallOk K (fun xs H Q => ∃ i, xs = [.int i] ∧ Q (.int (if i < 0 then -i else i)) H) opAbs := fun G H os vs o Q e r c q => by
  unfold opAbs op1I at c
  split at c
  · cases c
    obtain ⟨v, f, rfl, r1⟩ := r.one
    cases (show v = .int _ from r1.2)
    exact ⟨_, rfl, q.int⟩
  · cases c
def opInt : List OT → Option OT
  | [.fz (.int i)] => some (.fz (.int i))
  | [.fz (.bl b)] => some (.fz (.int (if b then 1 else 0)))
  | _ => none
theorem ok_int {K : PySem.W.Frag} : CallOk K (fun xs H Q => (∃ i, xs = [.int i] ∧ Q (.int i) H) ∨ ∃ k, xs = [.bl k] ∧ Q (.int (if k then 1 else 0)) H) opInt := fun G H os vs o Q e r c q => by
  unfold opInt at c
  split at c
  · cases c
    obtain ⟨v, f, rfl, r1⟩ := r.one
    cases (show v = .int _ from r1.2)
    exact .inl ⟨_, rfl, q.int⟩
  · cases c
    obtain ⟨v, f, rfl, r1⟩ := r.one
    cases (show v = .bl _ from r1.2)
    exact .inr ⟨_, rfl, q.int⟩
  · cases c
def opStrI : List OT → Option OT := op1I fun i => if i.natAbs.log2 < 1920 then some (.str (toString i)) else none
theorem ok_strI {K : PySem.W.Frag} : CallOk K (fun xs H Q => ∃ i, xs = [.int i] ∧ i.natAbs.log2 < 1920 ∧ Q (.str (toString i)) H) opStrI := fun G H os vs o Q e r c q => by
  unfold opStrI op1I at c
  split at c
  · rename_i i
    obtain ⟨v, f, rfl, r1⟩ := r.one
    cases (show v = .int _ from r1.2)
    by_cases h : i.natAbs.log2 < 1920
    · simp only [if_pos h] at c
      cases c
      exact ⟨_, rfl, h, q.str⟩
    · simp only [if_neg h] at c; cases c
  · cases c
/-- the truth values of a list -/
def blsD : List Dat → Option (List Bool)
  | [] => some []
  | .bl b :: r => match blsD r with
    | some bs => some (b :: bs)
    | none => none
  | _ :: _ => none
theorem bls_eq : ∀ {ds : List Dat} {bs : List Bool}, blsD ds = some bs → ds = bs.map .bl
  | [], bs, h => by cases h; rfl
  | d :: r, bs, h => by
    cases d with
    | bl b =>
      unfold blsD at h
      cases c : blsD r with
      | none => simp [c] at h
      | some bs' =>
        simp only [c, Option.some.injEq] at h
        subst h
        rw [List.map_cons, ← bls_eq c]
    | _ => cases h
theorem RepDs.bl {K : PySem.W.Frag} {G : Hp} : ∀ {bs : List Bool} {vs : List V}, RepDs K G (bs.map .bl) vs → vs = bs.map V.bl
  | [], _, h => h
  | b :: r, _, h => by
    obtain ⟨v, r', rfl, q1, q2⟩ := h
    cases (show v = .bl b from q1)
    rw [RepDs.bl q2]; rfl
/-- the intsD of a list -/
def intsD : List Dat → Option (List Int)
  | [] => some []
  | .int b :: r => match intsD r with
    | some bs => some (b :: bs)
    | none => none
  | _ :: _ => none
theorem ints_eq : ∀ {ds : List Dat} {bs : List Int}, intsD ds = some bs → ds = bs.map .int
  | [], bs, h => by cases h; rfl
  | d :: r, bs, h => by
    cases d with
    | int b =>
      unfold intsD at h
      cases c : intsD r with
      | none => simp [c] at h
      | some bs' =>
        simp only [c, Option.some.injEq] at h
        subst h
        rw [List.map_cons, ← ints_eq c]
    | _ => cases h
theorem RepDs.int {K : PySem.W.Frag} {G : Hp} : ∀ {bs : List Int} {vs : List V}, RepDs K G (bs.map .int) vs → vs = bs.map V.int
  | [], _, h => h
  | b :: r, _, h => by
    obtain ⟨v, r', rfl, q1, q2⟩ := h
    cases (show v = .int b from q1)
    rw [RepDs.int q2]; rfl
def strsD : List Dat → Option (List Str)
  | [] => some []
  | .str b :: r => match strsD r with
    | some bs => some (b :: bs)
    | none => none
  | _ :: _ => none
theorem strs_eq : ∀ {ds : List Dat} {bs : List Str}, strsD ds = some bs → ds = bs.map .str
  | [], bs, h => by cases h; rfl
  | d :: r, bs, h => by
    cases d with
    | str b =>
      unfold strsD at h
      cases c : strsD r with
      | none => simp [c] at h
      | some bs' =>
        simp only [c, Option.some.injEq] at h
        subst h
        rw [List.map_cons, ← strs_eq c]
    | _ => cases h
theorem RepDs.str {K : PySem.W.Frag} {G : Hp} : ∀ {bs : List Str} {vs : List V}, RepDs K G (bs.map .str) vs → vs = bs.map V.str
  | [], _, h => h
  | b :: r, _, h => by
    obtain ⟨v, r', rfl, q1, q2⟩ := h
    cases (show v = .str b from q1)
    rw [RepDs.str q2]; rfl
def opAll : List OT → Option OT
  | [x] => match (asL x).bind blsD with
    | some bs => some (.fz (.bl (bs.all id)))
    | none => none
  | _ => none
def opAny : List OT → Option OT
  | [x] => match (asL x).bind blsD with
    | some bs => some (.fz (.bl (bs.any id)))
    | none => none
  | _ => none
theorem bls_ok {K : PySem.W.Frag} {G H : Hp} {o : OT} {v : V} {f : List Addr} {bs : List Bool} (e : Ex G H) (r : RepO K G H o v f) (c : (asL o).bind blsD = some bs) : ∃ a, v = .ref a ∧ SqL K H a (bs.map V.bl) := by
  cases h : asL o with
  | none => rw [h] at c; cases c
  | some ds =>
    rw [h] at c
    obtain ⟨a, vs, rfl, ha, ra⟩ := asL_ok e r h
    rw [bls_eq c] at ra
    rw [RepDs.bl ra] at ha
    exact ⟨a, rfl, .inl (.inl ha)⟩
theorem ok_all {K : PySem.W.Frag} : CallOk K (rAll K) opAll := fun G H os vs o Q e r c q => by
  unfold opAll at c
  split at c
  · rename_i x
    obtain ⟨v, f, rfl, r1⟩ := r.one
    cases h : (asL x).bind blsD with
    | none => rw [h] at c; cases c
    | some bs =>
      rw [h] at c
      cases c
      obtain ⟨a, rfl, ha⟩ := bls_ok e r1 h
      exact ⟨a, bs, rfl, ha, q.bl⟩
  · cases c
theorem ok_any {K : PySem.W.Frag} : CallOk K (rAny K) opAny := fun G H os vs o Q e r c q => by
  unfold opAny at c
  split at c
  · rename_i x
    obtain ⟨v, f, rfl, r1⟩ := r.one
    cases h : (asL x).bind blsD with
    | none => rw [h] at c; cases c
    | some bs =>
      rw [h] at c
      cases c
      obtain ⟨a, rfl, ha⟩ := bls_ok e r1 h
      exact ⟨a, bs, rfl, ha, q.bl⟩
  · cases c
theorem ints_ok {K : PySem.W.Frag} {G H : Hp} {o : OT} {v : V} {f : List Addr} {bs : List Int} (e : Ex G H) (r : RepO K G H o v f) (c : (asL o).bind intsD = some bs) : ∃ a, v = .ref a ∧ SqL K H a (bs.map V.int) := by
  cases h : asL o with
  | none => rw [h] at c; cases c
  | some ds =>
    rw [h] at c
    obtain ⟨a, vs, rfl, ha, ra⟩ := asL_ok e r h
    rw [ints_eq c] at ra
    rw [RepDs.int ra] at ha
    exact ⟨a, rfl, .inl (.inl ha)⟩
def opSum : List OT → Option OT
  | [x] => match (asL x).bind intsD with
    | some bs => some (.fz (.int bs.sum))
    | none => none
  | _ => none
theorem ok_sum {K : PySem.W.Frag} : CallOk K (rSum K) opSum := fun G H os vs o Q e r c q => by
  unfold opSum at c
  split at c
  · rename_i x
    obtain ⟨v, f, rfl, r1⟩ := r.one
    cases h : (asL x).bind intsD with
    | none => rw [h] at c; cases c
    | some bs =>
      rw [h] at c
      cases c
      obtain ⟨a, rfl, ha⟩ := ints_ok e r1 h
      exact ⟨a, bs, rfl, ha, q.int⟩
  · cases c
def opGcd : List OT → Option OT
  | [.fz (.int i), .fz (.int j)] => some (.fz (.int ((Nat.gcd i.natAbs j.natAbs : Nat) : Int)))
  | _ => none
theorem ok_gcd {K : PySem.W.Frag} : CallOk K rGcd opGcd := fun G H os vs o Q e r c q => by
  unfold opGcd at c
  split at c
  · cases c
    obtain ⟨v, v', f, f', rfl, r1, r2⟩ := r.two
    cases (show v = .int _ from r1.2)
    cases (show v' = .int _ from r2.2)
    exact ⟨_, _, rfl, q.int⟩
  · cases c
/-- list(x), tuple(x) -/
def asSq (x : OT) : Option (List Dat) := match asT x with
  | some ds => some ds
  | none => asL x
def opList : List OT → Option OT
  | [x] => (asSq x).map fun ds => .lst (ds.map .fz)
  | _ => none
def opTuple : List OT → Option OT
  | [x] => (asSq x).map fun ds => .fz (.tup ds)
  | _ => none
theorem ok_list {K : PySem.W.Frag} : CallOk K (fun xs H Q => ∃ p ys, xs = [.ref p] ∧ (SqL K H p ys ∨ SqT K H p ys) ∧ ∀ l, H l = none → Q (.ref l) (upd H l (.lst ys))) opList := fun G H os vs o Q e r c q => by
  unfold opList at c
  split at c
  · rename_i x
    obtain ⟨v, f, rfl, r1⟩ := r.one
    unfold asSq at c
    cases h : asT x with
    | some ds =>
      rw [h] at c
      cases c
      obtain ⟨a, vs, rfl, ha, ra⟩ := asT_ok e r1 h
      exact ⟨a, vs, rfl, .inr ha, fun l hl => Res.newL q ra hl⟩
    | none =>
      rw [h] at c
      cases h2 : asL x with
      | none => rw [h2] at c; cases c
      | some ds =>
        rw [h2] at c
        cases c
        obtain ⟨a, vs, rfl, ha, ra⟩ := asL_ok e r1 h2
        exact ⟨a, vs, rfl, .inl (.inl (.inl ha)), fun l hl => Res.newL q ra hl⟩
  · cases c
theorem ok_tuple {K : PySem.W.Frag} : CallOk K (fun xs H Q => ∃ p ys, xs = [.ref p] ∧ ((SqL K H p ys ∧ ∀ l, H l = none → Q (.ref l) (upd H l (.tup ys))) ∨ (SqT K H p ys ∧ Q (.ref p) H))) opTuple := fun G H os vs o Q e r c q => by
  unfold opTuple at c
  split at c
  · rename_i x
    obtain ⟨v, f, rfl, r1⟩ := r.one
    unfold asSq at c
    cases h : asT x with
    | some ds =>
      rw [h] at c
      cases c
      obtain ⟨a, vs, rfl, ha, ra⟩ := asT_ok e r1 h
      refine ⟨a, vs, rfl, .inr ⟨ha, ?_⟩⟩
      cases x with
      | fz d =>
        cases d with
        | tup ds' => cases h; exact Res.same q r1.2
        | _ => cases h
      | _ => cases h
    | none =>
      rw [h] at c
      cases h2 : asL x with
      | none => rw [h2] at c; cases c
      | some ds =>
        rw [h2] at c
        cases c
        obtain ⟨a, vs, rfl, ha, ra⟩ := asL_ok e r1 h2
        exact ⟨a, vs, rfl, .inl ⟨.inl (.inl ha), fun l hl => Res.newT q ra hl⟩⟩
  · cases c
/-! ### isinstance -/
def tyNm : OT → String
  | .fz .non => "NoneType"
  | .fz (.bl _) => "bool"
  | .fz (.int _) => "int"
  | .fz (.str _) => "str"
  | .fz (.tup _) => "tuple"
  | .fz (.lst _) => "list"
  | .fz (.dic _) => "dict"
  | .fz (.kst _) => "list"
  | .lst _ => "list"
  | .dic _ => "dict"
theorem tyNm_ok {K : PySem.W.Frag} {G H : Hp} {o : OT} {v : V} {f : List Addr} (e : Ex G H) (r : RepO K G H o v f) : TyX K H v (.type (tyNm o)) := by
  have dk : ∀ {G : Hp} {a : Addr} {ps : List (Dat × V)}, Ex G H → DictAt G a ps → TyX K H (.ref a) (.type "dict") := fun e q => by
    rcases q with ⟨ks, q, _⟩ | ⟨ks, q, _⟩
    · exact .base (.dK (e _ _ q))
    · exact .base (.dT (e _ _ q))
  cases o with
  | fz d =>
    cases d with
    | non => cases (show v = .non from r.2); exact .base .non
    | bl b => cases (show v = .bl b from r.2); exact .base (.bl b)
    | int b => cases (show v = .int b from r.2); exact .base (.int b)
    | str b => cases (show v = .str b from r.2); exact .base (.str b)
    | tup b =>
      obtain ⟨_, a, vs, rfl, q, _⟩ := r
      rcases e.sqT q with (q | ⟨ob, q⟩) | ⟨ob, its, n, hk, hc, _⟩
      · exact .base (.tup q)
      · exact .fTuple q
      · exact .kTuple hk hc
    | lst b => obtain ⟨_, a, vs, rfl, q, _⟩ := r; exact .base (.lst (e _ _ q))
    | dic b => obtain ⟨_, a, vs, rfl, q, _⟩ := r; exact dk e q
    | kst b =>
      obtain ⟨_, a, rfl, q⟩ := r
      rcases e.sqL q with (q | ⟨ob, q⟩) | ⟨ob, its, n, hk, hc, _⟩
      · exact .base (.lst q)
      · exact .base (.frz q)
      · exact .kList hk hc
  | lst os => obtain ⟨a, vs, _, rfl, _, q, _⟩ := r; exact .base (.lst q)
  | dic os => obtain ⟨a, vs, _, rfl, _, q, _⟩ := r; exact dk (Ex.refl _) q
def opIsi (T : String) (x : OT) : Option OT := (kitB (tyNm x) T).map fun b => .fz (.bl b)
theorem ok_isi {K : PySem.W.Frag} {T : String} : Op1Ok K (fun x H Q => rIsi K [x, .ty T] H Q) (opIsi T) := fun G H o1 v1 f1 o Q e r c q => by
  unfold opIsi at c
  cases h : kitB (tyNm o1) T with
  | none => rw [h] at c; cases c
  | some b =>
    rw [h] at c
    cases c
    exact ⟨v1, .ty T, _, _, b, rfl, .ty T, tyNm_ok e r, kit_ty h, q.bl⟩
end Lay

namespace Lay
open PySem PySem.Spec L2

/-! ### and, or, not by values; chains -/
def xOrV (f g : M Arg) : M Arg := fun ρ => (f ρ).bind fun a ρ1 => match (look ρ1 a).bind truO with
  | some true => .ok a ρ1
  | some false => g ρ1
  | none => .bad
def xAndV (f g : M Arg) : M Arg := fun ρ => (f ρ).bind fun a ρ1 => match (look ρ1 a).bind truO with
  | some true => g ρ1
  | some false => .ok a ρ1
  | none => .bad
def xNotV (f : M Arg) : M Arg := x1 (fun x => (truO x).map fun b => .fz (.bl (!b))) f
theorem Aft.fr {Z : Par} {T : Addr → Prop} {P : Pins} {σ : St} {H H1 : Hp} {fs fs1 : Nat → List Addr} {Q : VK} {r : R Arg} (h : Aft Z T P σ H fs Q r) (f : Fr H (Own fs) H1 (Own fs1)) : Aft Z T P σ H1 fs1 Q r := by
  cases r with
  | ok a ρ' => exact fun v H' fs' l r f' => h v H' fs' l r (f.trans f')
  | ex x ρ' => exact onX.fr0 h f
  | bad => exact h
theorem tOr_op {Z : Par} {f g : M Arg} {σ : St} {H : Hp} {Q : VK} (h : tD Z (xOrV f g) σ H Q) : tOrT Z.K (tD Z f) (tD Z g) σ H Q := by
  obtain ⟨T, P, ρ, fs, rp, q⟩ := h
  refine ⟨T, P, ρ, fs, rp, ?_⟩
  unfold xOrV at q
  cases e1 : f ρ with
  | bad => rw [e1] at q; exact q
  | ex x ρ' => rw [e1] at q; exact q
  | ok a ρ1 =>
    rw [e1] at q
    simp only [R.bind] at q
    intro v H1 fs1 l1 r1 f1
    cases c1 : look ρ1 a with
    | none => simp only [c1, Option.bind] at q; exact q.elim
    | some o =>
      simp only [c1, Option.bind] at q
      obtain ⟨g1, s1, _⟩ := RpA.see r1.rp r1.ar c1
      cases c2 : truO o with
      | none => simp only [c2] at q; exact q.elim
      | some b =>
        simp only [c2] at q
        refine ⟨b, tru_of hide_le s1 c2, ?_⟩
        cases b with
        | true => exact q v H1 fs1 l1 r1 f1
        | false => exact ⟨T, P, ρ1, fs1, r1.rp.unl, Aft.fr q (f1.imp fun _ z => .inr z)⟩
theorem tAnd_op {Z : Par} {f g : M Arg} {σ : St} {H : Hp} {Q : VK} (h : tD Z (xAndV f g) σ H Q) : tAndT Z.K (tD Z f) (tD Z g) σ H Q := by
  obtain ⟨T, P, ρ, fs, rp, q⟩ := h
  refine ⟨T, P, ρ, fs, rp, ?_⟩
  unfold xAndV at q
  cases e1 : f ρ with
  | bad => rw [e1] at q; exact q
  | ex x ρ' => rw [e1] at q; exact q
  | ok a ρ1 =>
    rw [e1] at q
    simp only [R.bind] at q
    intro v H1 fs1 l1 r1 f1
    cases c1 : look ρ1 a with
    | none => simp only [c1, Option.bind] at q; exact q.elim
    | some o =>
      simp only [c1, Option.bind] at q
      obtain ⟨g1, s1, _⟩ := RpA.see r1.rp r1.ar c1
      cases c2 : truO o with
      | none => simp only [c2] at q; exact q.elim
      | some b =>
        simp only [c2] at q
        refine ⟨b, tru_of hide_le s1 c2, ?_⟩
        cases b with
        | false => exact q v H1 fs1 l1 r1 f1
        | true => exact ⟨T, P, ρ1, fs1, r1.rp.unl, Aft.fr q (f1.imp fun _ z => .inr z)⟩
section
variable {X : Cx} {W : WX} {pos : Pos} {a b : Expr} {rest : List Expr} {fa fb : M Arg}
theorem de_one {op : BoolOp} (h : DE X W a fa) : DE X W (.BoolOp op [a] pos) fa := pe_one h
theorem de_or (h : DE X W a fa) (h2 : DE X W (.BoolOp .Or (b :: rest) pos) fb) : DE X W (.BoolOp .Or (a :: b :: rest) pos) (xOrV fa fb) := pe_imp (pe_orT h h2) fun _ _ _ q => tOr_op (Z := zp X W) q
theorem de_and (h : DE X W a fa) (h2 : DE X W (.BoolOp .And (b :: rest) pos) fb) : DE X W (.BoolOp .And (a :: b :: rest) pos) (xAndV fa fb) := pe_imp (pe_andT h h2) fun _ _ _ q => tAnd_op (Z := zp X W) q
theorem de_not (h : DE X W a fa) : DE X W (.UnaryOp .Not a pos) (xNotV fa) := pe_imp (pe_notT h) fun σ H Q q => t1_op (Z := zp X W) (r := fun x H Q => ∃ k, TruV X.K x H k ∧ Q (.bl (!k)) H) (fun G H o1 v1 f1 o Q e r c q => by
  cases h : truO o1 with
  | none => rw [h] at c; cases c
  | some b =>
    rw [h] at c
    cases c
    exact ⟨b, tru_of e r h, q.bl⟩) q
end
/-- a op1 b op2 c -/
def xChain (op op' : OT → OT → Option OT) (f g h : M Arg) : M Arg := fun ρ => (f ρ).bind fun a ρ1 => (g ρ1).bind fun b ρ2 => match look ρ2 a, look ρ2 b with
  | some x, some y => match op x y with
    | some (.fz (.bl true)) => match y with
      | .fz d => (h ρ2).bind fun c ρ3 => match look ρ3 c with
        | some z => match op' (.fz d) z with
          | some o => .ok (.tmp o) ρ3
          | none => .bad
        | none => .bad
      | _ => .bad
    | some (.fz (.bl false)) => .ok (.tmp (.fz (.bl false))) ρ2
    | _ => .bad
  | _, _ => .bad
/-- a comparison that makes nothing: two values, its answer -/
def CmpOk (K : PySem.W.Frag) (r : R2) (op : OT → OT → Option OT) : Prop :=
  ∀ G H o1 o2 v1 v2 f1 f2 b Q, Ex G H → RepO K G H o1 v1 f1 → RepO K G H o2 v2 f2 → op o1 o2 = some (.fz (.bl b)) → Q (.bl b) H → r v1 v2 H Q
theorem tChain_op {Z : Par} {r r' : R2} {op op' : OT → OT → Option OT} (ho : CmpOk Z.K r op) (ho' : OpOk Z.K r' op') {f g h : M Arg} {σ : St} {H : Hp} {Q : VK} (hh : tD Z (xChain op op' f g h) σ H Q) : tChain r r' (tD Z f) (tD Z g) (tD Z h) σ H Q := by
  obtain ⟨T, P, ρ, fs, rp, q⟩ := hh
  refine ⟨T, P, ρ, fs, rp, ?_⟩
  unfold xChain at q
  cases e1 : f ρ with
  | bad => rw [e1] at q; exact q
  | ex x ρ' => rw [e1] at q; exact q
  | ok a ρ1 =>
    rw [e1] at q
    simp only [R.bind] at q
    intro v1 H1 fs1 l1 r1 f1
    refine ⟨Tl T l1, P, ρ1, fs1, r1.rp, ?_⟩
    cases e2 : g ρ1 with
    | bad => rw [e2] at q; exact q
    | ex x ρ' => rw [e2] at q; exact onX.fr q f1
    | ok b ρ2 =>
      rw [e2] at q
      simp only at q
      intro v2 H2 fs2 l2 r2 f2
      have a1 := AR.step r1.ar r1.rp.noair f2
      have ff : Fr H (Own fs) H2 (Own fs2) := fun b x e n => by
        obtain ⟨h1, n1⟩ := f1 b x e n
        obtain ⟨h2, n2⟩ := f2 b x h1 fun z => n1 (.inr z)
        exact ⟨h2, fun z => n2 (.inr z)⟩
      have rr : Rp Z.K T P ρ2 σ H2 fs2 := r2.rp.grow (fun _ _ e => e) fun a z => .inl (.inl (.inl z))
      cases c1 : look ρ2 a with
      | none => simp only [c1] at q; exact q.elim
      | some x =>
        cases c2 : look ρ2 b with
        | none => simp only [c1, c2] at q; exact q.elim
        | some y =>
          simp only [c1, c2] at q
          obtain ⟨g1, s1, _⟩ := RpA.see r2.rp a1 c1
          obtain ⟨g2, s2, _⟩ := RpA.see r2.rp r2.ar c2
          split at q
          · rename_i c3
            split at q
            · rename_i d
              refine ho _ H2 x (.fz d) v1 v2 g1 g2 true _ hide_le s1 s2 c3 ⟨true, rfl, ?_⟩
              rw [if_pos rfl]
              have q := Aft.fr q ff
              have gx : Ex (hide (Hd (Tl (Tl T l1) l2) fs2) H2) (hide (Hd T fs2) H2) := hide_ex fun a y hn e => ⟨fun z => hn (z.imp (fun z => .inl (.inl z)) id), e⟩
              refine ⟨T, P, ρ2, fs2, rr, ?_⟩
              cases e3 : h ρ2 with
              | bad => rw [e3] at q; exact q
              | ex x ρ' => rw [e3] at q; exact q
              | ok c ρ3 =>
                rw [e3] at q
                simp only [R.bind] at q
                intro v3 H3 fs3 l3 r3 f3
                cases c4 : look ρ3 c with
                | none => simp only [c4] at q; exact q.elim
                | some z =>
                  simp only [c4] at q
                  obtain ⟨g3, s3, _⟩ := RpA.see r3.rp r3.ar c4
                  cases c5 : op' (.fz d) z with
                  | none => simp only [c5] at q; exact q.elim
                  | some o =>
                    simp only [c5] at q
                    have sd : RepO Z.K (hide (Hd (Tl T l3) fs3) H3) H3 (.fz d) v2 [] := ⟨rfl, RepD.mono (gx.trans (hdfr (ρ := []) (ρ' := []) f3)) d v2 s2.2⟩
                    exact ho' _ H3 (.fz d) z v2 v3 [] g3 o Q hide_le sd s3 c5 (Rp.res r3.rp f3 q)
            · exact q.elim
          · rename_i c3
            refine ho _ H2 x y v1 v2 g1 g2 false _ hide_le s1 s2 c3 ⟨false, rfl, ?_⟩
            rw [if_neg Bool.false_ne_true]
            exact q _ H2 fs2 [] ⟨rr.tl0, .nil, (fun _ z => nomatch z), rfl, rfl⟩ (ff.imp fun x z => z.elim (fun z => nomatch z) id)
          · exact q.elim
theorem OpOk.cmp {K : PySem.W.Frag} {r : R2} {op : OT → OT → Option OT} (h : OpOk K r op) (hq : ∀ {G H o1 o2 v1 v2 f1 f2 b} {Q : VK}, Ex G H → RepO K G H o1 v1 f1 → RepO K G H o2 v2 f2 → op o1 o2 = some (.fz (.bl b)) → Q (.bl b) H → r v1 v2 H Q) : CmpOk K r op := fun G H o1 o2 v1 v2 f1 f2 b Q => hq
theorem cmp_II {K : PySem.W.Frag} (p : Int → Int → Bool) : CmpOk K (rI0 fun i j => .bl (p i j)) (opCmp p) := fun G H o1 o2 v1 v2 f1 f2 b Q e r1 r2 c q => by
  obtain ⟨i, j, rfl, rfl, h, e⟩ := opII_ok c
  cases e
  exact ⟨i, j, r1.2, r2.2, q⟩
section
variable {X : Cx} {W : WX} {pos : Pos} {a b c : Expr} {fa fb fc : M Arg} {r r' : R2} {op op' : OT → OT → Option OT}
theorem de_chain {o o' : CmpOp} (ho : OpR X (compareOp o) r) (ho' : OpR X (compareOp o') r') (hk : CmpOk X.K r op) (hk' : OpOk X.K r' op') (ha : DE X W a fa) (hb : DE X W b fb) (hc : DE X W c fc)
    (hm : lastMarks [o, o'] [b, c] = false := by with_unfolding_all rfl) : DE X W (.Compare a [o, o'] [b, c] pos) (xChain op op' fa fb fc) := pe_imp (pe_chain ho ho' ha hb hc hm) fun _ _ _ q => tChain_op (Z := zp X W) hk hk' q
theorem dt_chain {o o' : CmpOp} (ho : OpR X (compareOp o) r) (ho' : OpR X (compareOp o') r') (hk : CmpOk X.K r op) (hk' : OpOk X.K r' op') (ha : DE X W a fa) (hb : DE X W b fb) (hc : DE X W c fc)
    (hm : lastMarks [o, o'] [b, c] = false := by with_unfolding_all rfl) : DT X W (.Compare a [o, o'] [b, c] pos) (xT (xChain op op' fa fb fc)) := pt_imp (pt_chain ho ho' ha hb hc hm) fun σ H Q q => by
  have q := tTest_op (Z := zp X W) q
  exact tChain_op (Z := zp X W) hk hk' q
end

/-! ### slices -/
def asIx (ρ : Env) (a : Arg) : Option Int := (look ρ a).bind asI
/-- a part of a slice -/
def xPart (f : M Arg) : M (Option Int) := fun ρ => (f ρ).bind fun a ρ1 => match asIx ρ1 a with
  | some i => .ok (some i) ρ1
  | none => .bad
def xNoPart : M (Option Int) := fun ρ => .ok none ρ
def xSl (op : OT → Option Int → Option Int → Option OT) (f : M Arg) (lo hi : M (Option Int)) : M Arg := fun ρ => (f ρ).bind fun a ρ1 => (lo ρ1).bind fun l ρ2 => (hi ρ2).bind fun h ρ3 => match look ρ3 a with
  | some x => match op x l h with
    | some o => .ok (.tmp o) ρ3
    | none => .bad
  | none => .bad
def AftP (Z : Par) (T : Addr → Prop) (P : Pins) (σ : St) (H : Hp) (fs : Nat → List Addr) (Q : Option Int → Hp → Prop) : R (Option Int) → Prop
  | .ok a ρ' => ∀ H' fs', Rp Z.K T P ρ' σ H' fs' → Fr H (Own fs) H' (Own fs') → Q a H'
  | .ex x ρ' => onX Z T P H fs x ρ'
  | .bad => False
def tDP (Z : Par) (f : M (Option Int)) : TO := fun σ H Q => ∃ T P ρ fs, Rp Z.K T P ρ σ H fs ∧ AftP Z T P σ H fs Q (f ρ)
abbrev DP (X : Cx) (W : WX) (e : Option Expr) (f : M (Option Int)) : Prop := PO X e (tDP (zp X W) f)
theorem po_imp {X : Cx} {e : Option Expr} {t t' : TO} (h : PO X e t) (hi : ∀ σ H Q, t' σ H Q → t σ H Q) : PO X e t' := ⟨fun pins s σ H Q I q => h.run pins s σ H Q I (hi σ H Q q)⟩
section
variable {X : Cx} {W : WX} {e : Expr} {f : M Arg}
theorem dp_none : DP X W none xNoPart := po_imp po_none fun σ H Q ⟨T, P, ρ, fs, r, q⟩ => q H fs r Fr.refl
theorem dp_some (h : DE X W e f) : DP X W (some e) (xPart f) := po_imp (po_some h) fun σ H Q ⟨T, P, ρ, fs, r, q⟩ => by
  refine ⟨T, P, ρ, fs, r, ?_⟩
  unfold xPart at q
  cases e1 : f ρ with
  | bad => rw [e1] at q; exact q
  | ex x ρ' => rw [e1] at q; exact q
  | ok a ρ1 =>
    rw [e1] at q
    simp only [R.bind] at q
    intro v H1 fs1 l1 r1 f1
    unfold asIx at q
    cases c1 : look ρ1 a with
    | none => simp only [c1, Option.bind] at q; exact q.elim
    | some o =>
      simp only [c1, Option.bind] at q
      obtain ⟨g1, s1, _⟩ := RpA.see r1.rp r1.ar c1
      cases c2 : asI o with
      | none => simp only [c2] at q; exact q.elim
      | some i =>
        simp only [c2] at q
        exact ⟨i, asI_ok s1 c2, q H1 fs1 r1.rp.unl (f1.imp fun _ z => .inr z)⟩
end
def SlOk (K : PySem.W.Frag) (r : V → Option Int → Option Int → Hp → VK → Prop) (op : OT → Option Int → Option Int → Option OT) : Prop :=
  ∀ G H x v f lo hi o Q, Ex G H → RepO K G H x v f → op x lo hi = some o → Res K G H o Q → r v lo hi H Q
theorem tSl_op {Z : Par} {r : V → Option Int → Option Int → Hp → VK → Prop} {op : OT → Option Int → Option Int → Option OT} (ho : SlOk Z.K r op) {f : M Arg} {lo hi : M (Option Int)} {σ : St} {H : Hp} {Q : VK} (h : tD Z (xSl op f lo hi) σ H Q) : tSl r (tD Z f) (tDP Z lo) (tDP Z hi) σ H Q := by
  obtain ⟨T, P, ρ, fs, rp, q⟩ := h
  refine ⟨T, P, ρ, fs, rp, ?_⟩
  unfold xSl at q
  cases e1 : f ρ with
  | bad => rw [e1] at q; exact q
  | ex x ρ' => rw [e1] at q; exact q
  | ok a ρ1 =>
    rw [e1] at q
    simp only [R.bind] at q
    intro v1 H1 fs1 l1 r1 f1
    refine ⟨Tl T l1, P, ρ1, fs1, r1.rp, ?_⟩
    cases e2 : lo ρ1 with
    | bad => rw [e2] at q; exact q
    | ex x ρ' => rw [e2] at q; exact onX.fr q f1
    | ok i ρ2 =>
      rw [e2] at q
      simp only at q
      intro H2 fs2 r2 f2
      have a1 : AR Z.K (Tl T l1) σ H2 fs2 a v1 l1 := by
        have := AR.step (l2 := []) r1.ar r1.rp.noair (f2.imp (o3 := Ow [] fs2) fun x z => z.elim (fun z => nomatch z) id)
        rwa [Tl_nil] at this
      have f12 : Fr H (Own fs) H2 (Ow l1 fs2) := fun b x e n => by
        obtain ⟨h1, n1⟩ := f1 b x e n
        obtain ⟨h2, n2⟩ := f2 b x h1 fun z => n1 (.inr z)
        exact ⟨h2, fun z => z.elim (fun z => n1 (.inl z)) n2⟩
      refine ⟨Tl T l1, P, ρ2, fs2, r2, ?_⟩
      cases e3 : hi ρ2 with
      | bad => rw [e3] at q; exact q
      | ex x ρ' => rw [e3] at q; exact onX.fr q f12
      | ok j ρ3 =>
        rw [e3] at q
        simp only at q
        intro H3 fs3 r3 f3
        have a2 : AR Z.K (Tl T l1) σ H3 fs3 a v1 l1 := by
          have := AR.step (l2 := []) a1 r2.noair (f3.imp (o3 := Ow [] fs3) fun x z => z.elim (fun z => nomatch z) id)
          rwa [Tl_nil] at this
        have f13 : Fr H (Own fs) H3 (Ow l1 fs3) := fun b x e n => by
          obtain ⟨h1, n1⟩ := f12 b x e n
          obtain ⟨h2, n2⟩ := f3 b x h1 fun z => n1 (.inr z)
          exact ⟨h2, fun z => z.elim (fun z => n1 (.inl z)) n2⟩
        cases c1 : look ρ3 a with
        | none => simp only [c1] at q; exact q.elim
        | some x =>
          simp only [c1] at q
          obtain ⟨g1, s1, _⟩ := RpA.see r3 a2 c1
          cases c3 : op x i j with
          | none => simp only [c3] at q; exact q.elim
          | some o =>
            simp only [c3] at q
            exact ho _ H3 x v1 g1 i j o Q hide_le s1 c3 (Rp.res r3 f13 q)
section
variable {X : Cx} {W : WX} {pos p2 : Pos} {e : Expr} {lo hi : Option Expr} {f : M Arg} {fl fh : M (Option Int)}
theorem de_slice {r : V → Option Int → Option Int → Hp → VK → Prop} {op : OT → Option Int → Option Int → Option OT} (hr : SlR X r) (hk : SlOk X.K r op) (he : DE X W e f) (hl : DP X W lo fl) (hh : DP X W hi fh) : DE X W (.Subscript e (.Slice lo hi none p2) pos) (xSl op f fl fh) :=
  pe_imp (pe_slice hr he hl hh) fun _ _ _ h => tSl_op (Z := zp X W) hk h
end
def cutD {α : Type} (xs : List α) (lo hi : Option Int) : List α := (xs.drop (HT.sIx xs.length 0 lo)).take (HT.sIx xs.length xs.length hi - HT.sIx xs.length 0 lo)
def opSlA (x : OT) (lo hi : Option Int) : Option OT := match x with
  | .fz (.str s) => if s.length ≤ sizeLine then some (.fz (.str (cutS s lo hi))) else none
  | .fz (.tup xs) => some (.fz (.tup (cutD xs lo hi)))
  | x => (asL x).map fun xs => .lst ((cutD xs lo hi).map .fz)
def rSlAll (K : PySem.W.Frag) : V → Option Int → Option Int → Hp → VK → Prop := fun x lo hi H Q => rSlS x lo hi H Q ∨ rSlA K x lo hi H Q ∨ rSlL K x lo hi H Q
theorem sl_all {X : Cx} : SlR X (rSlAll X.K) := sl_str.or (sl_tupA.or sl_list)
theorem RepDs.drop {K : PySem.W.Frag} {G : Hp} : ∀ {ds : List Dat} {vs : List V} (n : Nat), RepDs K G ds vs → RepDs K G (ds.drop n) (vs.drop n)
  | _, _, 0, h => h
  | [], _, n + 1, h => by rw [show _ = [] from h]; rfl
  | d :: r, _, n + 1, h => by
    obtain ⟨v, r', rfl, q1, q2⟩ := h
    exact RepDs.drop n q2
theorem RepDs.take {K : PySem.W.Frag} {G : Hp} : ∀ {ds : List Dat} {vs : List V} (n : Nat), RepDs K G ds vs → RepDs K G (ds.take n) (vs.take n)
  | _, _, 0, h => rfl
  | [], _, n + 1, h => by rw [show _ = [] from h]; rfl
  | d :: r, _, n + 1, h => by
    obtain ⟨v, r', rfl, q1, q2⟩ := h
    exact ⟨v, _, rfl, q1, RepDs.take n q2⟩
theorem RepDs.cut {K : PySem.W.Frag} {G : Hp} {ds : List Dat} {vs : List V} {lo hi : Option Int} (h : RepDs K G ds vs) : RepDs K G (cutD ds lo hi) (cutV vs lo hi) := by
  unfold cutD cutV
  rw [h.length]
  exact (h.drop _).take _
theorem ok_slA {K : PySem.W.Frag} : SlOk K (rSlAll K) opSlA := fun G H x v f lo hi o Q e r c q => by
  unfold opSlA at c
  split at c
  · rename_i s
    cases (show v = .str s from r.2)
    by_cases h : s.length ≤ sizeLine
    · rw [if_pos h] at c
      cases c
      exact .inl ⟨s, rfl, h, q.str⟩
    · rw [if_neg h] at c; cases c
  · rename_i xs
    cases c
    obtain ⟨_, a, vs, rfl, ha, ra⟩ := r
    refine .inr (.inl ⟨a, vs, rfl, e.sqT ha, fun ⟨h1, h2⟩ => ?_, fun _ p hp => Res.newT q ra.cut hp⟩)
    refine Res.same q ?_
    have : cutD xs lo hi = xs := by
      unfold cutD
      rw [ra.length] at h1 h2
      rw [h1, h2]
      simp
    rw [this]
    exact ⟨a, vs, rfl, ha, ra⟩
  · cases h : asL x with
    | none => rw [h] at c; cases c
    | some xs =>
      rw [h] at c
      cases c
      obtain ⟨a, vs, rfl, ha, ra⟩ := asL_ok e r h
      exact .inr (.inr ⟨a, vs, rfl, .inl (.inl ha), fun p hp => Res.newL q ra.cut hp⟩)
end Lay

namespace Lay
open PySem PySem.Spec L2

/-! ### a, b = e1, e2 -/
def storeAll : List Nat → List OT → Env → SR
  | [], [], ρ => .nx ρ
  | i :: is, o :: os, ρ => RS (gNm i o ρ) fun _ ρ1 => storeAll is os ρ1
  | _, _, _ => .bad
def sPar (is : List Nat) (f : M (List Arg)) : SM := fun ρ => RS (f ρ) fun as ρ1 => match takes ρ1 as with
  | some (os, ρ2) => storeAll is os ρ2
  | none => .bad
def setAll : List Nat → List V → St → St
  | i :: is, v :: vs, σ => setAll is vs (σ.set i (some v))
  | _, _, σ => σ
theorem storeAll_ok {Z : Par} {D : Ends} : ∀ {is : List Nat} {os : List OT} {vs : List V} {l : List Addr} {T : Addr → Prop} {P : Pins} {ρ : Env} {σ : St} {H : Hp} {fs : Nat → List Addr}, Rp Z.K (Tl T l) P ρ σ H fs → l.Nodup → (∀ b ∈ l, ¬ T b) → RepOs Z.K (hide (Hd (Tl T l) fs) H) H os vs l →
    ∀ {H0 : Hp} {fs0 : Nat → List Addr}, Fr H0 (Own fs0) H (Ow l fs) → AftS Z T P H0 fs0 D (storeAll is os ρ) → is.length = vs.length ∧ D.nx (setAll is vs σ) H
  | [], [], vs, l, T, P, ρ, σ, H, fs, r, nd, nt, ro, H0, fs0, f, q => by
    obtain ⟨rfl, rfl⟩ := ro
    rw [Tl_nil] at r
    exact ⟨rfl, q σ H fs r (f.imp fun x z => .inr z)⟩
  | [], o :: os, vs, l, T, P, ρ, σ, H, fs, r, nd, nt, ro, H0, fs0, f, q => q.elim
  | i :: is, [], vs, l, T, P, ρ, σ, H, fs, r, nd, nt, ro, H0, fs0, f, q => q.elim
  | i :: is, o :: os, vs, l, T, P, ρ, σ, H, fs, r, nd, nt, ro, H0, fs0, f, q => by
    obtain ⟨v, r', l1, l2, rfl, rfl, q1, q2⟩ := ro
    have nda := List.nodup_append.mp nd
    have e12 : Tl (Tl T l2) l1 = Tl T (l1 ++ l2) := by
      funext b
      simp only [Tl, List.mem_append, eq_iff_iff]
      constructor
      · rintro ((z | z) | z) <;> simp [z]
      · rintro (z | z | z) <;> simp [z]
    rw [← e12] at r q1 q2
    have rA : RpA Z.K (Tl T l2) P ρ σ H fs (.tmp o) v l1 := ⟨r, nda.1, fun b hb z => by
      rcases z with z | z
      · exact nt b (List.mem_append_left _ hb) z
      · exact nda.2.2 b hb b z rfl, q1⟩
    unfold storeAll at q
    have go : (ρ[i]? = some .un ∨ ∃ o', ρ[i]? = some (.vl o')) → AftS Z T P H0 fs0 D (storeAll is os (ρ.set i (.vl o))) → (i :: is).length = (v :: r').length ∧ D.nx (setAll (i :: is) (v :: r') σ) H := fun hs q => by
      obtain ⟨h1, h2⟩ := rA.store hs
      have ex : Ex (hide (Hd (Tl (Tl T l2) l1) fs) H) (hide (Hd (Tl T l2) (fset fs i l1)) H) := hide_ex fun a x n e => ⟨fun z => n (by
        rcases z with z | z
        · exact .inl (.inl z)
        · rcases h2 a z with z | z
          · exact .inl (.inr z)
          · exact .inr z), e⟩
      obtain ⟨g1, g2⟩ := storeAll_ok h1 nda.2.1 (fun b hb => nt b (List.mem_append_right _ hb)) (RepOs.mono ex os r' l2 (fun _ _ _ e => e) q2) (H0 := H0) (fs0 := fs0) (f.imp fun x z => by
        rcases z with z | z
        · exact .inl (List.mem_append_right _ z)
        · rcases h2 x z with z | z
          · exact .inl (List.mem_append_left _ z)
          · exact .inr z) q
      exact ⟨by rw [List.length_cons, List.length_cons, g1], g2⟩
    unfold gNm at q
    cases es : ρ[i]? with
    | none => simp only [es, RS] at q; exact q.elim
    | some s =>
      cases s with
      | un => simp only [es, RS] at q; exact go (.inl es) q
      | vl o' => simp only [es, RS] at q; exact go (.inr ⟨o', es⟩) q
      | io o' => simp only [es, RS] at q; exact q.elim
      | lk o' => simp only [es, RS] at q; exact q.elim
def tParL (is : List Nat) (ta : TA) : TS := fun D σ H => ta σ H fun vs H1 => is.length = vs.length ∧ D.nx (setAll is vs σ) H1
theorem tPar_op {Z : Par} {is : List Nat} {f : M (List Arg)} {D : Ends} {σ : St} {H : Hp} (h : tS Z (sPar is f) D σ H) : tParL is (tDA Z f) D σ H := by
  obtain ⟨T, P, ρ, fs, rp, q⟩ := h
  refine ⟨T, P, ρ, fs, rp, ?_⟩
  unfold sPar at q
  cases e1 : f ρ with
  | bad => rw [e1] at q; exact q
  | ex x ρ' => rw [e1] at q; exact q
  | ok as ρ1 =>
    rw [e1] at q
    simp only [RS] at q
    intro vs H1 fs1 l1 r1 f1
    cases c1 : takes ρ1 as with
    | none => simp only [c1] at q; exact q.elim
    | some p =>
      obtain ⟨os, ρ2⟩ := p
      simp only [c1] at q
      obtain ⟨fs2, r2, s2, p2⟩ := takes_ok r1.rp r1.ar c1
      exact storeAll_ok r2 r1.nd r1.nt p2 (f1.imp fun x z => z.imp id (s2 x)) q
section
variable {X : Cx} {W : WX}
theorem ds_par2 {st : Stmt} {i j : Nat} {f : M (List Arg)} (h : PS X st (tPar i j (tDA (zp X W) f))) : DS X W st (sPar [i, j] f) := ps_imp h fun D σ H q => by
  obtain ⟨T, P, ρ, fs, rp, q⟩ := tPar_op (Z := zp X W) q
  refine ⟨T, P, ρ, fs, rp, ?_⟩
  cases e : f ρ with
  | bad => rw [e] at q; exact q
  | ex x ρ' => rw [e] at q; exact q
  | ok as ρ1 =>
    rw [e] at q
    intro vs H1 fs1 l1 r1 f1
    obtain ⟨hl, hd⟩ := q vs H1 fs1 l1 r1 f1
    match vs, hl with
    | [v, w], _ => exact ⟨v, w, rfl, hd⟩
theorem ds_par3 {st : Stmt} {i j k : Nat} {f : M (List Arg)} (h : PS X st (tPar3 i j k (tDA (zp X W) f))) : DS X W st (sPar [i, j, k] f) := ps_imp h fun D σ H q => by
  obtain ⟨T, P, ρ, fs, rp, q⟩ := tPar_op (Z := zp X W) q
  refine ⟨T, P, ρ, fs, rp, ?_⟩
  cases e : f ρ with
  | bad => rw [e] at q; exact q
  | ex x ρ' => rw [e] at q; exact q
  | ok as ρ1 =>
    rw [e] at q
    intro vs H1 fs1 l1 r1 f1
    obtain ⟨hl, hd⟩ := q vs H1 fs1 l1 r1 f1
    match vs, hl with
    | [u, v, w], _ => exact ⟨u, v, w, rfl, hd⟩
end

/-! ### lists changed -/
def muAppend (x : OT) (os : List OT) : Option (OT × OT) := match x, os with
  | .lst xs, [o] => if xs.length < sizeLine then some (.lst (xs ++ [o]), .fz .non) else none
  | _, _ => none
theorem mu_append {K : PySem.W.Frag} : MutOk K rAppend muAppend := fun G H x v f os vs l x' o' Q e r1 r2 nd c q => by
  unfold muAppend at c
  split at c
  · rename_i xs o
    by_cases hz : xs.length < sizeLine
    · rw [if_pos hz] at c
      cases c
      obtain ⟨a, ws, g, rfl, rfl, ha, rx⟩ := r1
      obtain ⟨w, r', l1, l2, rfl, rfl, q1, q2⟩ := r2
      obtain ⟨rfl, rfl⟩ := q2
      rw [List.append_nil] at nd q
      have nda := List.nodup_append.mp nd
      have ndg := List.nodup_cons.mp nda.1
      refine ⟨a, ws, w, rfl, rfl, ha, by rw [RepOs.length rx]; exact hz, q .non _ (a :: (g ++ l1)) [] (fun b y h n => ?_) ?_ (fun b hb => ?_) fun G' ex nw => ⟨⟨a, ws ++ [w], g ++ l1, rfl, rfl, upd_same, ?_⟩, rfl, rfl⟩⟩
      · rw [upd_ne (fun z => n (by rw [z]; exact List.mem_cons_self))]; exact h
      · rw [List.append_nil]
        refine List.nodup_cons.mpr ⟨fun z => ?_, List.nodup_append.mpr ⟨ndg.2, nda.2.1, fun b hb c hc => nda.2.2 b (List.mem_cons_of_mem _ hb) c hc⟩⟩
        rcases List.mem_append.mp z with z | z
        · exact ndg.1 z
        · exact nda.2.2 a List.mem_cons_self a z rfl
      · rw [List.append_nil] at hb
        rcases List.mem_cons.mp hb with z | z
        · exact .inr (.inl (by rw [z]; exact List.mem_cons_self))
        · rcases List.mem_append.mp z with z | z
          · exact .inr (.inl (List.mem_cons_of_mem _ z))
          · exact .inr (.inr z)
      · refine RepOs.app (RepOs.mono ex xs ws g (fun b hb y h => ?_) rx) (RepO.mono ex o w l1 (fun b hb y h => ?_) q1)
        · rw [upd_ne (fun z => ndg.1 (by rw [← z]; exact hb))]; exact h
        · rw [upd_ne (fun z => nda.2.2 a List.mem_cons_self b hb z.symm)]; exact h
    · rw [if_neg hz] at c; cases c
  · cases c
/-- the footprints of a list's items, one by one -/
theorem RepOs.split {K : PySem.W.Frag} {G H H' : Hp} : ∀ {os : List OT} {vs : List V} {l : List Addr} {j : Nat}, RepOs K G H os vs l → j < os.length → (∀ b ∈ l, ∀ x, H b = some x → H' b = some x) → ∃ v f1 f f2, vs[j]? = some v ∧ l = f1 ++ f ++ f2 ∧ RepO K G H (os[j]?.getD (.fz .non)) v f ∧
    ∀ G', Ex G G' → ∀ {o w g}, RepO K G' H' o w g → RepOs K G' H' (os.set j o) (vs.set j w) (f1 ++ g ++ f2)
  | [], _, _, j, _, h, _ => absurd h (Nat.not_lt_zero j)
  | o0 :: r, _, _, 0, h, _, k => by
    obtain ⟨v, r', f1, f2, rfl, rfl, q1, q2⟩ := h
    exact ⟨v, [], f1, f2, rfl, rfl, q1, fun G' ex {o w g} h => ⟨w, r', g, f2, rfl, rfl, h, RepOs.mono ex r r' f2 (fun b hb => k b (List.mem_append_right _ hb)) q2⟩⟩
  | o0 :: r, _, _, j + 1, h, hj, k => by
    obtain ⟨v, r', g1, g2, rfl, rfl, q1, q2⟩ := h
    obtain ⟨w, f1, f, f2, h1, rfl, h3, h4⟩ := RepOs.split q2 (Nat.lt_of_succ_lt_succ hj) (fun b hb => k b (List.mem_append_right _ hb))
    refine ⟨w, g1 ++ f1, f, f2, by rw [List.getElem?_cons_succ]; exact h1, by simp only [List.append_assoc], h3, fun G' ex {o w g} h => ⟨v, _, g1, f1 ++ g ++ f2, rfl, by simp only [List.append_assoc], RepO.mono ex o0 v g1 (fun b hb => k b (List.mem_append_left _ hb)) q1, h4 G' ex h⟩⟩
def muSetL (x : OT) (os : List OT) : Option (OT × OT) := match x, os with
  | .lst xs, [.fz (.int k), o] => match ixN xs.length k with
    | some j => some (.lst (xs.set j o), .fz .non)
    | none => none
  | _, _ => none
theorem mu_setL {K : PySem.W.Frag} : MutOk K (fun x vs H Q => ∃ k w, vs = [k, w] ∧ rSetL x k w H fun H' => Q .non H') muSetL := fun G H x v f os vs l x' o' Q e r1 r2 nd c q => by
  unfold muSetL at c
  split at c
  · rename_i xs k o
    cases hx : ixN xs.length k with
    | none => rw [hx] at c; cases c
    | some j =>
      rw [hx] at c
      cases c
      obtain ⟨a, ws, g, rfl, rfl, ha, rx⟩ := r1
      obtain ⟨vk, r', l1, l2, rfl, rfl, qk, q2⟩ := r2
      obtain ⟨w, r'', l3, l4, rfl, rfl, q1, q2⟩ := q2
      obtain ⟨rfl, rfl⟩ := q2
      obtain ⟨rfl, qk⟩ := qk
      cases (show vk = .int k from qk)
      rw [List.append_nil, List.nil_append] at nd q
      have nda := List.nodup_append.mp nd
      have ndg := List.nodup_cons.mp nda.1
      have hlt : j < xs.length := (ixN_seq hx).2.1
      obtain ⟨u, f1, f, f2, h1, rfl, h3, h4⟩ := RepOs.split (H' := upd H a (.lst (ws.set j w))) rx hlt (fun b hb y h => by rw [upd_ne (fun z => ndg.1 (by rw [← z]; exact hb))]; exact h)
      have n3 := List.nodup_append.mp ndg.2
      have n4 := List.nodup_append.mp n3.1
      refine ⟨.int k, w, rfl, a, ws, k, j, rfl, rfl, ha, by rw [RepOs.length rx]; exact hx, q .non _ (a :: (f1 ++ l3 ++ f2)) [] (fun b y h n => ?_) ?_ (fun b hb => ?_) fun G' ex nw => ⟨⟨a, ws.set j w, f1 ++ l3 ++ f2, rfl, rfl, upd_same, ?_⟩, rfl, rfl⟩⟩
      · rw [upd_ne (fun z => n (by rw [z]; exact List.mem_cons_self))]; exact h
      · rw [List.append_nil]
        refine List.nodup_cons.mpr ⟨fun z => ?_, ?_⟩
        · rcases List.mem_append.mp z with z | z
          · rcases List.mem_append.mp z with z | z
            · exact ndg.1 (List.mem_append_left _ (List.mem_append_left _ z))
            · exact nda.2.2 a List.mem_cons_self a z rfl
          · exact ndg.1 (List.mem_append_right _ z)
        · refine List.nodup_append.mpr ⟨List.nodup_append.mpr ⟨n4.1, nda.2.1, fun b hb c hc => nda.2.2 b (List.mem_cons_of_mem _ (List.mem_append_left _ (List.mem_append_left _ hb))) c hc⟩, n3.2.1, fun b hb c hc => ?_⟩
          rcases List.mem_append.mp hb with hb | hb
          · exact n3.2.2 b (List.mem_append_left _ hb) c hc
          · exact fun e => nda.2.2 c (List.mem_cons_of_mem _ (List.mem_append_right _ hc)) b hb e.symm
      · rw [List.append_nil] at hb
        rcases List.mem_cons.mp hb with z | z
        · exact .inr (.inl (by rw [z]; exact List.mem_cons_self))
        · rcases List.mem_append.mp z with z | z
          · rcases List.mem_append.mp z with z | z
            · exact .inr (.inl (List.mem_cons_of_mem _ (List.mem_append_left _ (List.mem_append_left _ z))))
            · exact .inr (.inr z)
          · exact .inr (.inl (List.mem_cons_of_mem _ (List.mem_append_right _ z)))
      · have mo := RepO.mono (H' := upd H a (.lst (ws.set j w))) ex o w l3 (fun b hb y h => by rw [upd_ne (fun z => nda.2.2 a List.mem_cons_self b hb z.symm)]; exact h) q1
        exact h4 G' ex mo
  · cases c
/-- .. with what comes given away for good -/
def muF (op : OT → List OT → Option (OT × OT)) (x : OT) (os : List OT) : Option (OT × OT) := op x (os.map fun o => .fz (frz o))
theorem RepOs.frozen {K : PySem.W.Frag} {G G' H : Hp} (e : Ex G G') : ∀ (os : List OT) (vs : List V) (fp : List Addr), (∀ a ∈ fp, ∀ x, H a = some x → G' a = some x) → ∀ H', RepOs K G H os vs fp → RepOs K G' H' (os.map fun o => .fz (frz o)) vs []
  | [], _, _, _, _, h => ⟨h.1, rfl⟩
  | o :: r, _, _, k, H', h => by
    obtain ⟨v, r', f1, f2, rfl, rfl, q1, q2⟩ := h
    exact ⟨v, r', [], [], rfl, rfl, ⟨rfl, RepO.freeze e o v f1 (fun b hb => k b (List.mem_append_left _ hb)) q1⟩, RepOs.frozen e r r' f2 (fun b hb => k b (List.mem_append_right _ hb)) H' q2⟩
open Classical in
theorem MutOk.fz {K : PySem.W.Frag} {r : V → List V → Hp → VK → Prop} {op : OT → List OT → Option (OT × OT)} (h : MutOk K r op) : MutOk K r (muF op) := fun G H x v f os vs l x' o' Q e r1 r2 nd c q => by
  have nda := List.nodup_append.mp nd
  have exG : Ex G (fun a => if a ∈ l then H a else G a) := fun a y ha => by
    show (if a ∈ l then H a else G a) = some y
    split
    · exact e a y ha
    · exact ha
  refine h (fun a => if a ∈ l then H a else G a) H x v f (os.map fun o => .fz (frz o)) vs [] x' o' Q (fun a y ha => ?_) (RepO.mono exG x v f (fun _ _ _ e => e) r1) (RepOs.frozen exG os vs l (fun a ha y hy => by
    show (if a ∈ l then H a else G a) = some y
    rw [if_pos ha]; exact hy) H r2) (by rw [List.append_nil]; exact nda.1) c fun w H' f' l' hk hn hb hr => q w H' f' l' hk hn (fun b z => ?_) fun G' ex nw => hr G' (fun a y ha => ?_) fun b y hb => nw b y (by
      rcases hb with z | z | z
      · exact .inl z
      · exact .inr (.inl z)
      · cases z)
  · have ha : (if a ∈ l then H a else G a) = some y := ha
    split at ha
    · exact ha
    · exact e a y ha
  · rcases hb b z with z | z | z
    · exact .inl z
    · exact .inr (.inl z)
    · cases z
  · have ha : (if a ∈ l then H a else G a) = some y := ha
    split at ha
    · rename_i hl
      have nf : a ∉ f := fun z => nda.2.2 a z a hl rfl
      have no : a ∉ f' ++ l' := fun z => by
        rcases hb a z with z | z | z
        · rw [ha] at z; cases z
        · exact nf z
        · cases z
      exact nw a y (.inr (.inr hl)) (hk a y ha nf) (fun z => no (List.mem_append_left _ z)) (fun z => no (List.mem_append_right _ z))
    · exact ex a y ha
/-- a list display whose items are given away for good -/
def xLstF (f : M (List Arg)) : M Arg := fun ρ => (f ρ).bind fun as ρ1 => match takes ρ1 as with
  | some (os, ρ2) => if os.length ≤ sizeLine then .ok (.tmp (.lst (os.map fun o => .fz (frz o)))) ρ2 else .bad
  | none => .bad
theorem tLstF_op {Z : Par} {f : M (List Arg)} {σ : St} {H : Hp} {Q : VK} (h : tD Z (xLstF f) σ H Q) : tLst (tDA Z f) σ H Q := by
  obtain ⟨T, P, ρ, fs, rp, q⟩ := h
  refine ⟨T, P, ρ, fs, rp, ?_⟩
  unfold xLstF at q
  cases e1 : f ρ with
  | bad => rw [e1] at q; exact q
  | ex x ρ' => rw [e1] at q; exact q
  | ok as ρ1 =>
    rw [e1] at q
    intro vs H1 fs1 l1 r1 f1
    simp only [R.bind] at q
    cases c1 : takes ρ1 as with
    | none => simp only [c1] at q; exact q.elim
    | some p =>
      obtain ⟨os, ρ2⟩ := p
      simp only [c1] at q
      obtain ⟨fs2, r2, s2, p2⟩ := takes_ok r1.rp r1.ar c1
      by_cases hz : os.length ≤ sizeLine
      · rw [if_pos hz] at q
        refine ⟨by rw [RepOs.length p2]; exact hz, fun p hp => ?_⟩
        have ff : Fr H (Own fs) H1 (Ow l1 fs2) := f1.imp fun x z => z.imp id (s2 x)
        have old : ∀ a o, H1 a = some o → upd H1 p (.lst vs) a = some o := fun a o e => by rw [upd_ne (ne_of_none e hp)]; exact e
        have np : ∀ b ∈ l1, b ≠ p := fun b z y => by
          subst y
          rcases RepOs.own os vs l1 p2 b z with ⟨x, e⟩ | ⟨x, e⟩ | ⟨x, e⟩ <;> (rw [hp] at e; cases e)
        refine Rp.resL (o := .lst (os.map fun o => .fz (frz o))) r2 r1.nt ff q (.ref p) _ [p] old (List.nodup_cons.mpr ⟨List.not_mem_nil, .nil⟩) (fun b z => (List.mem_cons.mp z).elim (fun z => .inl (by rw [z]; exact hp)) (fun z => nomatch z)) fun G' ex nw => ⟨p, vs, [], rfl, rfl, upd_same, ?_⟩
        exact RepOs.frozen ex os vs l1 (fun a ha x e => nw a x (.inr ha) (old a x e) (fun z => np a ha (List.mem_singleton.mp z))) _ p2
      · rw [if_neg hz] at q; exact q.elim
theorem de_lstF {X : Cx} {W : WX} {pos : Pos} {es : List Expr} {fs : M (List Arg)} (h : DA X W es fs) : DE X W (.List es pos) (xLstF fs) := pe_imp (pe_lst h) fun _ _ _ q => tLstF_op (Z := zp X W) q
end Lay

namespace Lay
open PySem PySem.Spec L2

/-! ### isinstance(x, T) -/
section
variable {X : Cx} {W : WX} {pos p p1 p2 : Pos} {a : Expr} {fa : M Arg} {T : String} {t : Str}
theorem de_isi (hg : Gl X "isinstance") (hm : X.mg "isinstance" = none) (hv : bootBuiltins "isinstance" = some (.builtin "isinstance")) (ha : DE X W a fa) (tg : Gl X t) (tm : X.mg t = none) (tv : bootBuiltins t = some (.type T)) (hn : t ≠ "__name__" := by decide) (hd : (t == ("__debug__" : Str)) = false := by decide)
    (h1 : starEach [a, .Name t p2] X.env = (false, eval a X.env) :: starEach [.Name t p2] X.env := by rfl) (h2 : starEach [.Name t p2] X.env = (false, eval (.Name t p2) X.env) :: starEach [] X.env := by rfl) (hpl : (backTo pos (starEach [.Name t p2] X.env)).any (·.1) = false := by rfl) :
    DE X W (.Call (.Name "isinstance" p) [a, .Name t p2] [] pos) (x1 (opIsi T) fa) :=
  pe_imp (pe_callB call_isi hg hm hv (pa_cons ha (pa_cons (pe_bltn (v := .ty T) tg tm tv rfl hn hd) pa_nil h2) h1) (by decide) (by decide) h1 hpl) fun σ H Q q => by
    exact t1_op (Z := zp X W) ok_isi q
end

/-! ### sep.join(texts) -/
def opJoin (x : OT) (os : List OT) : Option OT := match x, os with
  | .fz (.str s), [o] => match (asSq o).bind strsD with
    | some ys => if (ys.map (·.length)).sum + ys.length * s.length ≤ 16777216 then some (.fz (.str (Txt.join s ys))) else none
    | none => none
  | _, _ => none
theorem asSq_ok {K : PySem.W.Frag} {G H : Hp} {o : OT} {v : V} {f : List Addr} {ds : List Dat} (e : Ex G H) (h : RepO K G H o v f) (c : asSq o = some ds) : ∃ a vs, v = .ref a ∧ (SqL K H a vs ∨ SqT K H a vs) ∧ RepDs K G ds vs := by
  unfold asSq at c
  cases c1 : asT o with
  | some xs =>
    rw [c1] at c
    cases c
    obtain ⟨a, vs, h1, h2, h3⟩ := asT_ok e h c1
    exact ⟨a, vs, h1, .inr h2, h3⟩
  | none =>
    rw [c1] at c
    obtain ⟨a, vs, h1, h2, h3⟩ := asL_ok e h c
    exact ⟨a, vs, h1, .inl (.inl (.inl h2)), h3⟩
theorem ok_join {K : PySem.W.Frag} : MethOk K "str" (fun x xs H Q => ∃ a p, ∃ ys : List Str, x = .str a ∧ xs = [.ref p] ∧ (SqL K H p (ys.map V.str) ∨ SqT K H p (ys.map V.str)) ∧
    (ys.map (·.length)).sum + ys.length * a.length ≤ 16777216 ∧ Q (.str (Txt.join a ys)) H) opJoin := fun G H x os v vs f o Q e r1 r2 c q => by
  unfold opJoin at c
  split at c
  · rename_i s o1
    cases c1 : (asSq o1).bind strsD with
    | none => rw [c1] at c; cases c
    | some ys =>
      rw [c1] at c
      simp only at c
      by_cases hz : (ys.map (·.length)).sum + ys.length * s.length ≤ 16777216
      · rw [if_pos hz] at c
        cases c
        obtain ⟨w, g, rfl, rw1⟩ := RepV.one r2
        cases c2 : asSq o1 with
        | none => rw [c2] at c1; cases c1
        | some ds =>
          rw [c2] at c1
          obtain ⟨p, us, rfl, hs, rd⟩ := asSq_ok e rw1 c2
          rw [strs_eq c1] at rd
          rw [RepDs.str rd] at hs
          exact ⟨s, p, ys, r1.2, rfl, hs, hz, q.str⟩
      · rw [if_neg hz] at c; cases c
  · cases c

/-! ### f'..' -/
def opFmt : OT → Option OT
  | .fz (.str y) => if y.length ≤ sizeLine then some (.fz (.str y)) else none
  | .fz (.int i) => if i.natAbs.log2 < 1920 then some (.fz (.str (toString i))) else none
  | _ => none
theorem ok_fmt {K : PySem.W.Frag} : Op1Ok K (fun x H Q => (∃ y : Str, x = .str y ∧ y.length ≤ sizeLine ∧ Q (.str y) H) ∨ ∃ i : Int, x = .int i ∧ i.natAbs.log2 < 1920 ∧ Q (.str (toString i)) H) opFmt := fun G H o1 v1 f1 o Q e r1 c q => by
  unfold opFmt at c
  split at c
  · rename_i y
    by_cases h : y.length ≤ sizeLine
    · rw [if_pos h] at c
      cases c
      exact .inl ⟨y, r1.2, h, q.str⟩
    · rw [if_neg h] at c; cases c
  · rename_i i
    by_cases h : i.natAbs.log2 < 1920
    · rw [if_pos h] at c
      cases c
      exact .inr ⟨i, r1.2, h, q.str⟩
    · rw [if_neg h] at c; cases c
  · cases c
def opFmtR : OT → Option OT
  | .fz (.str y) => if (reprText y).length ≤ sizeLine then some (.fz (.str (reprText y))) else none
  | .fz (.int i) => if i.natAbs.log2 < 1920 then some (.fz (.str (toString i))) else none
  | _ => none
theorem ok_fmtR {K : PySem.W.Frag} : Op1Ok K (fun x H Q => (∃ y : Str, x = .str y ∧ (reprText y).length ≤ sizeLine ∧ Q (.str (reprText y)) H) ∨ ∃ i : Int, x = .int i ∧ i.natAbs.log2 < 1920 ∧ Q (.str (toString i)) H) opFmtR := fun G H o1 v1 f1 o Q e r1 c q => by
  unfold opFmtR at c
  split at c
  · rename_i y
    by_cases h : (reprText y).length ≤ sizeLine
    · rw [if_pos h] at c
      cases c
      exact .inl ⟨y, r1.2, h, q.str⟩
    · rw [if_neg h] at c; cases c
  · rename_i i
    by_cases h : i.natAbs.log2 < 1920
    · rw [if_pos h] at c
      cases c
      exact .inr ⟨i, r1.2, h, q.str⟩
    · rw [if_neg h] at c; cases c
  · cases c
def xJs : List (M Arg) → Str → M Arg
  | [], acc => fun ρ => .ok (.tmp (.fz (.str acc))) ρ
  | f :: r, acc => fun ρ => (f ρ).bind fun a ρ1 => match look ρ1 a with
    | some (.fz (.str y)) => if acc.length + y.length ≤ sizeLine then xJs r (acc ++ y) ρ1 else .bad
    | _ => .bad
theorem tJs_op {Z : Par} : ∀ (fs : List (M Arg)) (acc : Str) {σ : St} {H : Hp} {Q : Str → Hp → Prop}, tD Z (xJs fs acc) σ H (fun v H => ∃ out, v = .str out ∧ Q out H) → tJs (fs.map (tD Z)) acc σ H Q
  | [], acc, σ, H, Q, ⟨T, P, ρ, fs, rp, q⟩ => by
    obtain ⟨out, e, h⟩ := q (.str acc) H fs [] ⟨rp.tl0, .nil, (fun _ z => nomatch z), rfl, rfl⟩ (Fr.refl.imp fun x z => z.elim (fun z => nomatch z) id)
    cases e
    exact h
  | f :: r, acc, σ, H, Q, ⟨T, P, ρ, fs, rp, q⟩ => by
    refine ⟨T, P, ρ, fs, rp, ?_⟩
    unfold xJs at q
    cases e1 : f ρ with
    | bad => rw [e1] at q; exact q
    | ex x ρ' => rw [e1] at q; exact q
    | ok a ρ1 =>
      rw [e1] at q
      intro v H1 fs1 l1 r1 f1
      simp only [R.bind] at q
      cases c1 : look ρ1 a with
      | none => simp only [c1] at q; exact q.elim
      | some o =>
        simp only [c1] at q
        obtain ⟨g1, s1, _⟩ := RpA.see r1.rp r1.ar c1
        cases o with
        | fz d =>
          cases d with
          | str y =>
            simp only at q
            by_cases hz : acc.length + y.length ≤ sizeLine
            · rw [if_pos hz] at q
              exact ⟨y, s1.2, by rw [strLen_append]; exact hz, tJs_op r (acc ++ y) ⟨T, P, ρ1, fs1, r1.rp.unl, q.fr (f1.imp fun _ z => .inr z)⟩⟩
            · rw [if_neg hz] at q; exact q.elim
          | _ => exact q.elim
        | lst os => exact q.elim
        | dic os => exact q.elim
inductive DJ (X : Cx) (W : WX) : List Expr → List (M Arg) → Prop where
  | nil : DJ X W [] []
  | cons {e : Expr} {t : M Arg} {es : List Expr} {ts : List (M Arg)} (h : DE X W e t) (r : DJ X W es ts) : DJ X W (e :: es) (t :: ts)
section
variable {X : Cx} {W : WX} {pos : Pos} {e v1 v2 : Expr} {rest : List Expr} {f : M Arg} {fs : List (M Arg)}
theorem DJ.pj : ∀ {es : List Expr} {fs : List (M Arg)}, DJ X W es fs → PJ X es (fs.map (tD (zp X W)))
  | _, _, .nil => .nil
  | _, _, .cons h r => .cons h r.pj
theorem de_fmt (h : DE X W e f) : DE X W (.FormattedValue e (-1) none pos) (x1 opFmt f) := pe_imp (pe_fmt h) fun σ H Q q => t1_op (Z := zp X W) ok_fmt q
theorem de_fmtR (h : DE X W e f) : DE X W (.FormattedValue e 114 none pos) (x1 opFmtR f) := pe_imp (pe_fmtR h) fun σ H Q q => t1_op (Z := zp X W) ok_fmtR q
theorem de_joined (h : DJ X W (v1 :: v2 :: rest) fs) : DE X W (.JoinedStr (v1 :: v2 :: rest) pos) (xJs fs Str.empty) := pe_imp (pe_joined h.pj) fun σ H Q ⟨T, P, ρ, ff, rp, q⟩ => by
  refine tJs_op (Z := zp X W) fs Str.empty ⟨T, P, ρ, ff, rp, ?_⟩
  have key : ∀ (fs : List (M Arg)) (acc : Str) (ρ : Env), (∃ ρ' s, xJs fs acc ρ = .ok (.tmp (.fz (.str s))) ρ') ∨ (∃ x ρ', xJs fs acc ρ = .ex x ρ') ∨ xJs fs acc ρ = .bad := by
    intro fs
    induction fs with
    | nil => exact fun acc ρ => .inl ⟨_, _, rfl⟩
    | cons f r ih =>
      intro acc ρ
      unfold xJs
      cases f ρ with
      | bad => exact .inr (.inr rfl)
      | ex x ρ' => exact .inr (.inl ⟨_, _, rfl⟩)
      | ok a ρ1 =>
        show (∃ ρ' s, (match look ρ1 a with | some (.fz (.str y)) => if acc.length + y.length ≤ sizeLine then xJs r (acc ++ y) ρ1 else .bad | _ => .bad) = _) ∨ _
        simp only [R.bind]
        split
        · split
          · exact ih _ _
          · exact .inr (.inr rfl)
        · exact .inr (.inr rfl)
  rcases key fs Str.empty ρ with ⟨ρ', s, e⟩ | ⟨x, ρ', e⟩ | e
  · rw [e] at q ⊢
    intro v H1 fs1 l1 r1 f1
    cases (show v = .str s from r1.ar.2)
    exact ⟨s, rfl, q _ H1 fs1 l1 r1 f1⟩
  · rw [e] at q ⊢
    exact q
  · rw [e] at q ⊢
    exact q
theorem de_joined1 (h : DE X W e f) : DE X W (.JoinedStr [e] pos) f := pe_joined1 h
end

/-! ### a new list whose items are given away for good -/
def xFz (f : M Arg) : M Arg := fun ρ => match f ρ with
  | .ok (.tmp (.lst os)) ρ1 => .ok (.tmp (.lst (os.map fun o => .fz (frz o)))) ρ1
  | r => r
theorem xFz_op {Z : Par} {f : M Arg} {σ : St} {H : Hp} {Q : VK} (h : tD Z (xFz f) σ H Q) : tD Z f σ H Q := by
  obtain ⟨T, P, ρ, fs, rp, q⟩ := h
  refine ⟨T, P, ρ, fs, rp, ?_⟩
  unfold xFz at q
  cases e1 : f ρ with
  | bad => rw [e1] at q; exact q
  | ex x ρ' => rw [e1] at q; exact q
  | ok a ρ1 =>
    rw [e1] at q
    cases a with
    | slot i => exact q
    | tmp o =>
      cases o with
      | fz d => exact q
      | dic d => exact q
      | lst os =>
        intro v H1 fs1 l1 r1 f1
        obtain ⟨a, vs, g, rfl, rfl, ha, ro⟩ := (show RepO Z.K _ H1 (.lst os) v l1 from r1.ar)
        have ex : Ex (hide (Hd (Tl T (a :: g)) fs1) H1) (hide (Hd (Tl T [a]) fs1) H1) := hide_ex fun b x n e => ⟨fun z => n (by
          rcases z with (z | z) | z
          · exact .inl (.inl z)
          · exact .inl (.inr (by rw [List.mem_singleton.mp z]; exact List.mem_cons_self))
          · exact .inr z), e⟩
        refine q (.ref a) H1 fs1 [a] ⟨r1.rp.grow (fun _ _ e => e) fun b z => .inl (z.imp id fun z => by rw [List.mem_singleton.mp z]; exact List.mem_cons_self), List.nodup_cons.mpr ⟨List.not_mem_nil, .nil⟩, fun b z => r1.nt b (by rw [List.mem_singleton.mp z]; exact List.mem_cons_self), a, vs, [], rfl, rfl, ha, ?_⟩ (f1.imp fun x z => z.imp (fun z => by rw [List.mem_singleton.mp z]; exact List.mem_cons_self) id)
        refine RepOs.frozen ex os vs g (fun b hb x e => ?_) _ ro
        refine (hide_no ?_).trans e
        rintro ((z | z) | z)
        · exact r1.nt b (List.mem_cons_of_mem _ hb) z
        · rw [List.mem_singleton.mp z] at hb
          exact (List.nodup_cons.mp r1.nd).1 hb
        · exact r1.rp.tf b z (.inr (List.mem_cons_of_mem _ hb))
theorem de_fz {X : Cx} {W : WX} {e : Expr} {f : M Arg} (h : DE X W e f) : DE X W e (xFz f) := pe_imp h fun _ _ _ q => xFz_op (Z := zp X W) q
end Lay

namespace Lay
open PySem PySem.Spec L2

/-! ### built-in names -/
theorem bt_isinstance : bootBuiltins "isinstance" = some (.builtin "isinstance") := by decide +kernel
theorem bt_len : bootBuiltins "len" = some (.builtin "len") := by decide +kernel
theorem bt_abs : bootBuiltins "abs" = some (.builtin "abs") := by decide +kernel
theorem bt_all : bootBuiltins "all" = some (.builtin "all") := by decide +kernel
theorem bt_any : bootBuiltins "any" = some (.builtin "any") := by decide +kernel
theorem bt_sum : bootBuiltins "sum" = some (.builtin "sum") := by decide +kernel
theorem bt_int : bootBuiltins "int" = some (.type "int") := by decide +kernel
theorem bt_bool : bootBuiltins "bool" = some (.type "bool") := by decide +kernel
theorem bt_str : bootBuiltins "str" = some (.type "str") := by decide +kernel
theorem bt_tuple : bootBuiltins "tuple" = some (.type "tuple") := by decide +kernel
theorem bt_list : bootBuiltins "list" = some (.type "list") := by decide +kernel
theorem bt_dict : bootBuiltins "dict" = some (.type "dict") := by decide +kernel

/-! ### a module's constant -/
def GD (mgf : Str → Option Value) (x : Str) (d : Dat) : Prop := ∃ v u, mgf x = some u ∧ RelV v u ∧ ∀ K G, RepD K G d v
section
variable {X : Cx} {W : WX} {pos : Pos} {x : Str} {d : Dat}
theorem de_g (h : GD X.mg x d) (hg : Gl X x := by rfl) (hd : (x == ("__debug__" : Str)) = false := by decide) : DE X W (.Name x pos) (xD d) := by
  obtain ⟨v, u, hm, r, q⟩ := h
  exact de_c (pe_glob hg hm r hd) fun G => q _ G
end
/-! ### y = [..], the items given away -/
section
variable {X : Cx} {W : WX} {elt tg iter : Expr} {ifs : List Expr} {scope : Scope} {pos : Pos} {it : IM} {g : TM} {t : M Bool} {e : M Arg} {S : List Nat} {own : List (Str × Nat)}
theorem de_lcV {vs : List Nat} (own : List (Str × Nat)) (hc : X.calm = true) (hN : X.N.Nodup) (ok : BlkOk X.N X.env.scope scope own) (hv : own.map (·.2) = vs) (hS : ∀ j ∈ S, j ∈ vs) (hi : DI X W tg iter it)
    (hg : ∀ (s : Shared) (H : Hp) (C : Addr) (cl : List (Str × Addr)) (fp : List Addr), DG (X.blk s H scope (compEnvC scope cl C X.env) fp) W0 tg S g)
    (ht : ∀ (s : Shared) (H : Hp) (C : Addr) (cl : List (Str × Addr)) (fp : List Addr), PTs (X.blk s H scope (compEnvC scope cl C X.env) fp) ifs (tDT (zp X W0) t))
    (he : ∀ (s : Shared) (H : Hp) (C : Addr) (cl : List (Str × Addr)) (fp : List Addr), DE (X.blk s H scope (compEnvC scope cl C X.env) fp) W0 elt e) (hs : ∀ x, foldedSetIterable iter X.env x = pure x := by intro _; rfl) :
    DE X W (.ListComp elt [⟨tg, iter, ifs, 0⟩] scope pos) (xLc vs it g t e) := by
  subst hv
  exact de_lc hc hN hi ok hS hg ht he hs
theorem ds_setLcF {i : Nat} {y : Str} {py spos : Pos} (hc : X.calm = true) (hN : X.N.Nodup) (hy : X.N[i]? = some y) (hyl : X.env.scope.names.lookup y = some .local)
    (hsw : swapsWith (.ListComp elt [⟨tg, iter, ifs, 0⟩] scope pos) (some (.Name y py)) spos.line X.env = pure true) (hi : DI X W tg iter it) (ok : BlkOk X.N X.env.scope scope own) (hS : ∀ j ∈ S, j ∈ own.map (·.2))
    (hg : ∀ (s : Shared) (H : Hp) (C : Addr) (cl : List (Str × Addr)) (fp : List Addr), DG (X.blk s H scope (compEnvC scope cl C X.env) fp) W0 tg S g)
    (ht : ∀ (s : Shared) (H : Hp) (C : Addr) (cl : List (Str × Addr)) (fp : List Addr), PTs (X.blk s H scope (compEnvC scope cl C X.env) fp) ifs (tDT (zp X W0) t))
    (he : ∀ (s : Shared) (H : Hp) (C : Addr) (cl : List (Str × Addr)) (fp : List Addr), DE (X.blk s H scope (compEnvC scope cl C X.env) fp) W0 elt e) (hs : ∀ x, foldedSetIterable iter X.env x = pure x := by intro _; rfl) :
    DS X W (.Assign [.Name y py] (.ListComp elt [⟨tg, iter, ifs, 0⟩] scope pos) spos) (sAsg (xFz (xLc (own.map (·.2)) it g t e)) (gNm i)) := by
  refine ps_imp (ps_setLc (g := gD (zp X W0) S g) (tt := tDT (zp X W0) t) (te := tD (zp X W0) e) hc hN hy hyl hsw hi ok hg ht he hs) fun D σ H q => ?_
  have q := tAsg_op (Z := zp X W) (S := [i]) q
  have q2 : tD (zp X W) (xFz (xLc (own.map (·.2)) it g t e)) σ H (fun x H1 => gName i x σ H1 D.nx) := by
    obtain ⟨T, P, ρ, fs, r, q⟩ := q
    refine ⟨T, P, ρ, fs, r, ?_⟩
    cases e1 : xFz (xLc (own.map (·.2)) it g t e) ρ with
    | bad => rw [e1] at q; exact q
    | ex x ρ' => rw [e1] at q; exact q
    | ok a ρ1 => rw [e1] at q; exact fun v H1 fs1 l1 r1 f1 => gNm_name (q v H1 fs1 l1 r1 f1)
  exact tLc_op (Z := zp X W) (W0 := W0) hS (xFz_op q2)
theorem ds_setLcV {vs : List Nat} {i : Nat} {y : Str} {py spos : Pos} (own : List (Str × Nat)) (hc : X.calm = true) (hN : X.N.Nodup) (hy : X.N[i]? = some y) (hyl : X.env.scope.names.lookup y = some .local)
    (hsw : swapsWith (.ListComp elt [⟨tg, iter, ifs, 0⟩] scope pos) (some (.Name y py)) spos.line X.env = pure true) (ok : BlkOk X.N X.env.scope scope own) (hv : own.map (·.2) = vs) (hS : ∀ j ∈ S, j ∈ vs) (hi : DI X W tg iter it)
    (hg : ∀ (s : Shared) (H : Hp) (C : Addr) (cl : List (Str × Addr)) (fp : List Addr), DG (X.blk s H scope (compEnvC scope cl C X.env) fp) W0 tg S g)
    (ht : ∀ (s : Shared) (H : Hp) (C : Addr) (cl : List (Str × Addr)) (fp : List Addr), PTs (X.blk s H scope (compEnvC scope cl C X.env) fp) ifs (tDT (zp X W0) t))
    (he : ∀ (s : Shared) (H : Hp) (C : Addr) (cl : List (Str × Addr)) (fp : List Addr), DE (X.blk s H scope (compEnvC scope cl C X.env) fp) W0 elt e) (hs : ∀ x, foldedSetIterable iter X.env x = pure x := by intro _; rfl) :
    DS X W (.Assign [.Name y py] (.ListComp elt [⟨tg, iter, ifs, 0⟩] scope pos) spos) (sAsg (xFz (xLc vs it g t e)) (gNm i)) := by
  subst hv
  exact ds_setLcF hc hN hy hyl hsw hi ok hS hg ht he hs
end
section
variable {P : Program} {w : World} {K : PySem.W.Frag} {mg : Str → Option Value} {base : Heap} {x : Str} {f : Addr} {fd : FuncData}
theorem FnD.none {st : Stmt} {N ps : List Str} {k n : Nat} {io : Option Nat} (F : Fun K x x st f fd) (S : FnScope N ps (defScope st)) (mf : mg x = some (.ref f)) (b : Binds K fd ps []) (hl : ps.length = n) : FnD P w K mg base x k io n (fun _ => .bad) := by
  have no : ∀ vs H Q E, ¬ spF K mg io n (fun _ => .bad) vs H Q E := fun vs H Q E h => by
    obtain ⟨_, _, _, _, _, _, _, _, z⟩ := h
    exact z
  exact ⟨f, fd, ps, ⟨fun vs H Q E h => absurd h (no vs H Q E), fun A outer s H args us vs Q E _ _ _ _ h => absurd h (no vs H Q E)⟩, mf, F.kp, b, hl⟩
theorem FnD.mono {j k n : Nat} {io : Option Nat} {F : FD} (h : j ≤ k) (d : FnD P w K mg base x j io n F) : FnD P w K mg base x k io n F := by
  obtain ⟨f, fd, ps, a, b⟩ := d.ex
  exact ⟨f, fd, ps, a.mono h, b⟩
end
end Lay

namespace Lay
open PySem PySem.Spec L2

/-! ### the law's own end -/
/-- for every script the run function answers True -/
def LawOk (F : FD) : Prop := ∀ ns : List Int, ns.length ≤ 63 → (∀ z ∈ ns, Builtin.Int.intBits z ≤ 1048576) → ∃ out, F [.fz (.kst ns)] = .ok (.fz (.bl true)) out
def spL (K : PySem.W.Frag) : Sp := fun vs H Q E => ∃ (a : Addr) (ns : List Int), vs = [.ref a] ∧ SqL K H a (ns.map V.int) ∧ ns.length ≤ 63 ∧ (∀ z ∈ ns, Builtin.Int.intBits z ≤ 1048576) ∧ ∀ H', Q (.bl true) H'
theorem hide_F {H : Hp} {fs : Nat → List Addr} (h : ∀ i, fs i = []) : hide (Hd (fun _ => False) fs) H = H := by
  funext a
  refine hide_no ?_
  rintro (z | ⟨i, z⟩)
  · exact z
  · rw [h i] at z; cases z
theorem fn_lawL {P : Program} {w : World} {K : PySem.W.Frag} {mg : Str → Option Value} {base : Heap} {k : Nat} {f : Addr} {fd : FuncData} {F : FD} {x : Str} (hF : LawOk F) (h : FnOk P w K mg base (L2.CX P w) k f fd [x] (spF K mg none 1 F)) :
    FnOk P w K mg base (L2.CX P w) k f fd [x] (spL K) := h.imp fun vs H Q E q => by
  obtain ⟨a, ns, rfl, hS, h63, hb, q⟩ := q
  obtain ⟨out, hF⟩ := hF ns h63 hb
  refine ⟨fun _ => False, fun _ => none, fun _ => [], [.fz (.kst ns)], rfl, rfl, fun i => by simp, ?_, ?_⟩
  · refine ⟨fun i s e => ?_, fun _ _ => rfl, fun _ => .nil, (fun i j a z => nomatch z), (fun a z => by obtain ⟨i, z⟩ := z; cases z), (fun a z => z.elim), fun i p e => nomatch e⟩
    rw [hide_F (fun _ => rfl)]
    cases i with
    | zero =>
      have e : some (Sl.vl (.fz (.kst ns))) = some s := e
      cases e
      exact ⟨_, rfl, .ref a, rfl, rfl, rfl, a, rfl, hS⟩
    | succ i =>
      have e : ([] : Env)[i]? = some s := e
      simp at e
  · rw [hF]
    intro v H' fs' l r fr
    cases (show v = .bl true from r.ar.2)
    exact q H'
theorem law_walk {l : PySem.W.OpenLaw} {k : Nat} {q : Program} {loose : List Str} {XP : (Str → Option Value) → Heap → Prop} {YP : World → Heap → Prop} {d : DefRec} {K : Params → PySem.W.Frag} {F : FD} (hF : LawOk F)
    (hn : l.most = some 63) (hdf : d.params.defaults = []) (hr : Room k callerA)
    (hY : ∀ (w : World) (h : Heap), YP w h → (K w.params).In h)
    (G : ∀ (w : World) (mg : Str → Option Value) (fa : Addr) (h : Heap), (K w.params).In h → h.Ns mainGlobals mg → mg d.name = some (.ref fa) →
      ∃ fd : FuncData, (∀ (s : Shared) (u : Value), BindsTo s fd ⟨[u], []⟩ [("script", u)]) ∧
        ∀ base : Heap, (K w.params).In base → base.Ns mainGlobals mg → FnOk l.prog w (K w.params) mg base (L2.CX l.prog w) k fa fd ["script"] (spF (K w.params) mg none 1 F)) :
    PySem.W.WalkO q loose XP YP l.row.toRowW d [] (fun f vs => PySem.call f vs) :=
  walk_ofB (n := 63) (k := k) (x := "script") (CX := fun w => L2.CX l.prog w) (sp := fun w => spL (K w.params)) hn (by decide) hdf hr hY
    (fun w mg fa h h1 h2 h3 => by
      obtain ⟨fd, b, g⟩ := G w mg fa h h1 h2 h3
      exact ⟨fd, b, fun base k1 k2 => fn_lawL hF (g base k1 k2)⟩)
    (fun w H a ns hl hb hO hS => ⟨a, ns, rfl, hS, hl, hb, fun _ => rfl⟩)
    fun w H s e s' h => by
      obtain ⟨_, _, _, _, _, _, _, _, _, _, _, _, z⟩ := h
      exact z
end Lay

namespace Lay
open PySem PySem.Spec L2

/-! ### what a run shows: rules backwards -/
@[irreducible] def Wp {α : Type} (f : M α) (ρ : Env) (Q : α → Env → Prop) (E : Exn → Env → Prop) : Prop := match f ρ with
  | .ok a ρ' => Q a ρ'
  | .ex x ρ' => E x ρ'
  | .bad => False
structure En where
  nx : Env → Prop
  bk : Env → Prop := fun _ => False
  ct : Env → Prop := fun _ => False
  rt : OT → Env → Prop
  ex : Exn → Env → Prop := fun _ _ => False
@[irreducible] def Ws (g : SM) (ρ : Env) (D : En) : Prop := match g ρ with
  | .nx ρ' => D.nx ρ'
  | .bk ρ' => D.bk ρ'
  | .ct ρ' => D.ct ρ'
  | .rt o ρ' => D.rt o ρ'
  | .ex x ρ' => D.ex x ρ'
  | .bad => False
@[irreducible] def Wf (F : FD) (os : List OT) (Q : OT → OT → Prop) (E : Exn → OT → Prop) : Prop := match F os with
  | .ok r out => Q r out
  | .ex x out => E x out
  | .bad => False
@[irreducible] def Wo {α : Type} (o : Option α) (k : α → Prop) : Prop := match o with
  | some x => k x
  | none => False
/-- both ways of a test -/
@[irreducible] def Br (b : Bool) (A B : Prop) : Prop := if b then A else B
theorem wo {α : Type} {o : Option α} {x : α} {k : α → Prop} (h : o = some x) (q : k x) : Wo o k := by
  with_unfolding_all
    subst h; exact q
theorem br_true {A B : Prop} (h : A) : Br true A B := by
  with_unfolding_all
    exact (h)
theorem br_false {A B : Prop} (h : B) : Br false A B := by
  with_unfolding_all
    exact (h)
theorem br_dec {p : Prop} [Decidable p] {A B : Prop} (h1 : p → A) (h2 : ¬ p → B) : Br (decide p) A B := by
  with_unfolding_all
    unfold Br
    by_cases h : p
    · rw [if_pos (decide_eq_true h)]; exact h1 h
    · rw [if_neg (by simp [h])]; exact h2 h
theorem br_not {b : Bool} {A B : Prop} (h : Br b B A) : Br (!b) A B := by
  with_unfolding_all
    cases b <;> exact h
theorem br {b : Bool} {A B : Prop} (h1 : b = true → A) (h2 : b = false → B) : Br b A B := by
  with_unfolding_all
    cases b
    · exact h2 rfl
    · exact h1 rfl
section
variable {α β : Type} {ρ : Env} {E : Exn → Env → Prop}
theorem Wp.bind {f : M α} {k : α → Env → R β} {Q : β → Env → Prop} (h : Wp f ρ (fun a ρ1 => Wp (k a) ρ1 Q E) E) : Wp (fun ρ => (f ρ).bind k) ρ Q E := by
  with_unfolding_all
    unfold Wp at *
    cases e : f ρ with
    | bad => rw [e] at h; exact h.elim
    | ex x ρ' => simp only [e, R.bind] at h ⊢; exact h
    | ok a ρ1 => simp only [e, R.bind] at h ⊢; exact h
theorem Wp.mono {f : M α} {Q Q' : α → Env → Prop} {E' : Exn → Env → Prop} (h : Wp f ρ Q E) (hq : ∀ a ρ', Q a ρ' → Q' a ρ') (he : ∀ x ρ', E x ρ' → E' x ρ') : Wp f ρ Q' E' := by
  with_unfolding_all
    unfold Wp at *
    cases e : f ρ with
    | bad => rw [e] at h; exact h.elim
    | ex x ρ' => rw [e] at h; exact he _ _ h
    | ok a ρ1 => rw [e] at h; exact hq _ _ h
theorem w_var {i : Nat} {Q : Arg → Env → Prop} {o : OT} (h : slv ρ[i]? = some o) (q : Q (.slot i) ρ) : Wp (xVar i) ρ Q E := by
  with_unfolding_all
    unfold Wp xVar; rw [h]; exact q
theorem w_D {d : Dat} {Q : Arg → Env → Prop} (q : Q (.tmp (.fz d)) ρ) : Wp (xD d) ρ Q E := by
  with_unfolding_all
    exact (q)
theorem w_x2 {op : OT → OT → Option OT} {f g : M Arg} {Q : Arg → Env → Prop} (h : Wp f ρ (fun a ρ1 => Wp g ρ1 (fun b ρ2 => Wo (look ρ2 a) fun x => Wo (look ρ2 b) fun y => Wo (op x y) fun o => Q (.tmp o) ρ2) E) E) : Wp (x2 op f g) ρ Q E := by
  with_unfolding_all
    refine Wp.bind (Wp.mono h (fun a ρ1 h => Wp.bind (Wp.mono h (fun b ρ2 h => ?_) fun _ _ z => z)) fun _ _ z => z)
    unfold Wp
    cases e1 : look ρ2 a with
    | none => rw [e1] at h; exact h.elim
    | some x => cases e2 : look ρ2 b with
      | none => rw [e1, e2] at h; exact h.elim
      | some y => cases e3 : op x y with
        | none => simp only [Wo, e1, e2, e3] at h
        | some o => simp only [Wo, e1, e2, e3] at h ⊢; exact h
theorem w_x1 {op : OT → Option OT} {f : M Arg} {Q : Arg → Env → Prop} (h : Wp f ρ (fun a ρ1 => Wo (look ρ1 a) fun x => Wo (op x) fun o => Q (.tmp o) ρ1) E) : Wp (x1 op f) ρ Q E := by
  with_unfolding_all
    refine Wp.bind (Wp.mono h (fun a ρ1 h => ?_) fun _ _ z => z)
    unfold Wp
    cases e1 : look ρ1 a with
    | none => rw [e1] at h; exact h.elim
    | some x => cases e3 : op x with
        | none => simp only [Wo, e1, e3] at h
        | some o => simp only [Wo, e1, e3] at h ⊢; exact h
theorem w_notV {f : M Arg} {Q : Arg → Env → Prop} (h : Wp f ρ (fun a ρ1 => Wo (look ρ1 a) fun x => Wo (truO x) fun b => Q (.tmp (.fz (.bl (!b)))) ρ1) E) : Wp (xNotV f) ρ Q E := by
  with_unfolding_all
    refine w_x1 (Wp.mono h (fun a ρ1 h => ?_) fun _ _ z => z)
    cases e1 : look ρ1 a with
    | none => rw [e1] at h; exact h.elim
    | some x => cases e3 : truO x with
        | none => simp only [Wo, e1, e3] at h
        | some o => simp only [Wo, e1, e3, Option.map] at h ⊢; exact h
theorem w_Nil {Q : List Arg → Env → Prop} (q : Q [] ρ) : Wp xNil ρ Q E := by
  with_unfolding_all
    exact (q)
theorem w_Cons {f : M Arg} {g : M (List Arg)} {Q : List Arg → Env → Prop} (h : Wp f ρ (fun a ρ1 => Wp g ρ1 (fun r ρ2 => Q (a :: r) ρ2) E) E) : Wp (xCons f g) ρ Q E := by
  with_unfolding_all
    exact (Wp.bind (Wp.mono h (fun a ρ1 h => Wp.bind (Wp.mono h (fun b ρ2 h => h) fun _ _ z => z)) fun _ _ z => z))
theorem w_N {op : List OT → Option OT} {f : M (List Arg)} {Q : Arg → Env → Prop} (h : Wp f ρ (fun as ρ1 => Wo (looks ρ1 as) fun xs => Wo (op xs) fun o => Q (.tmp o) ρ1) E) : Wp (xN op f) ρ Q E := by
  with_unfolding_all
    refine Wp.bind (Wp.mono h (fun a ρ1 h => ?_) fun _ _ z => z)
    unfold Wp
    cases e1 : looks ρ1 a with
    | none => rw [e1] at h; exact h.elim
    | some x => cases e3 : op x with
        | none => simp only [Wo, e1, e3] at h
        | some o => simp only [Wo, e1, e3] at h ⊢; exact h
theorem w_M {op : OT → List OT → Option OT} {f : M Arg} {g : M (List Arg)} {Q : Arg → Env → Prop} (h : Wp f ρ (fun a ρ1 => Wp g ρ1 (fun as ρ2 => Wo (look ρ2 a) fun x => Wo (looks ρ2 as) fun xs => Wo (op x xs) fun o => Q (.tmp o) ρ2) E) E) : Wp (xM op f g) ρ Q E := by
  with_unfolding_all
    refine Wp.bind (Wp.mono h (fun a ρ1 h => Wp.bind (Wp.mono h (fun b ρ2 h => ?_) fun _ _ z => z)) fun _ _ z => z)
    unfold Wp
    cases e1 : look ρ2 a with
    | none => rw [e1] at h; exact h.elim
    | some x => cases e2 : looks ρ2 b with
      | none => rw [e1, e2] at h; exact h.elim
      | some y => cases e3 : op x y with
        | none => simp only [Wo, e1, e2, e3] at h
        | some o => simp only [Wo, e1, e2, e3] at h ⊢; exact h
theorem w_Ty {T : String} {f : M Arg} {Q : Arg → Env → Prop} (h : Wp f ρ (fun a ρ1 => Wo (look ρ1 a) fun x => tyO T x = true ∧ Q a ρ1) E) : Wp (xTy T f) ρ Q E := by
  with_unfolding_all
    refine Wp.bind (Wp.mono h (fun a ρ1 h => ?_) fun _ _ z => z)
    unfold Wp
    cases e1 : look ρ1 a with
    | none => rw [e1] at h; exact h.elim
    | some x =>
      simp only [Wo, e1] at h ⊢
      rw [if_pos h.1]; exact h.2
theorem w_Tup {f : M (List Arg)} {Q : Arg → Env → Prop} (h : Wp f ρ (fun as ρ1 => Wo (takes ρ1 as) fun p => p.1.length ≤ sizeLine ∧ Q (.tmp (.fz (.tup (frzs p.1)))) p.2) E) : Wp (xTup f) ρ Q E := by
  with_unfolding_all
    refine Wp.bind (Wp.mono h (fun a ρ1 h => ?_) fun _ _ z => z)
    unfold Wp
    cases e1 : takes ρ1 a with
    | none => rw [e1] at h; exact h.elim
    | some p =>
      simp only [Wo, e1] at h ⊢
      rw [if_pos h.1]; exact h.2
theorem w_LstF {f : M (List Arg)} {Q : Arg → Env → Prop} (h : Wp f ρ (fun as ρ1 => Wo (takes ρ1 as) fun p => p.1.length ≤ sizeLine ∧ Q (.tmp (.lst (p.1.map fun o => .fz (frz o)))) p.2) E) : Wp (xLstF f) ρ Q E := by
  with_unfolding_all
    refine Wp.bind (Wp.mono h (fun a ρ1 h => ?_) fun _ _ z => z)
    unfold Wp
    cases e1 : takes ρ1 a with
    | none => rw [e1] at h; exact h.elim
    | some p =>
      simp only [Wo, e1] at h ⊢
      rw [if_pos h.1]; exact h.2
def fzI : Arg → Arg
  | .tmp (.lst os) => .tmp (.lst (os.map fun o => .fz (frz o)))
  | a => a
theorem w_Fz {f : M Arg} {Q : Arg → Env → Prop} (h : Wp f ρ (fun a ρ1 => Q (fzI a) ρ1) E) : Wp (xFz f) ρ Q E := by
  with_unfolding_all
    unfold Wp xFz at *
    cases e : f ρ with
    | bad => rw [e] at h; exact h.elim
    | ex x ρ' => rw [e] at h; exact h
    | ok a ρ1 =>
      rw [e] at h
      cases a with
      | slot i => exact h
      | tmp o => cases o <;> exact h
def asB : OT → Option Bool
  | .fz (.bl b) => some b
  | _ => none
theorem w_T {f : M Arg} {Q : Bool → Env → Prop} (h : Wp f ρ (fun a ρ1 => Wo (look ρ1 a) fun x => Wo (asB x) fun b => Q b ρ1) E) : Wp (xT f) ρ Q E := by
  with_unfolding_all
    refine Wp.bind (Wp.mono h (fun a ρ1 h => ?_) fun _ _ z => z)
    unfold Wp
    cases e1 : look ρ1 a with
    | none => rw [e1] at h; exact h.elim
    | some o =>
      simp only [Wo, e1] at h ⊢
      cases o with
      | fz d => cases d <;> first | exact h | exact h.elim
      | _ => exact h.elim
theorem w_Tru {f : M Arg} {Q : Bool → Env → Prop} (h : Wp f ρ (fun a ρ1 => Wo (look ρ1 a) fun x => Wo (truO x) fun b => Q b ρ1) E) : Wp (xTru f) ρ Q E := by
  with_unfolding_all
    refine Wp.bind (Wp.mono h (fun a ρ1 h => ?_) fun _ _ z => z)
    unfold Wp
    cases e1 : look ρ1 a with
    | none => rw [e1] at h; exact h.elim
    | some x => cases e3 : truO x with
        | none => simp only [Wo, e1, e3] at h
        | some o => simp only [Wo, e1, e3, Option.bind] at h ⊢; exact h
theorem w_And {f g : M Bool} {Q : Bool → Env → Prop} (h : Wp f ρ (fun b ρ1 => Br b (Wp g ρ1 Q E) (Q false ρ1)) E) : Wp (xAnd f g) ρ Q E := by
  with_unfolding_all
    exact (Wp.bind (Wp.mono h (fun b ρ1 h => by cases b <;> exact h) fun _ _ z => z))
theorem w_Or {f g : M Bool} {Q : Bool → Env → Prop} (h : Wp f ρ (fun b ρ1 => Br b (Q true ρ1) (Wp g ρ1 Q E)) E) : Wp (xOr f g) ρ Q E := by
  with_unfolding_all
    exact (Wp.bind (Wp.mono h (fun b ρ1 h => by cases b <;> exact h) fun _ _ z => z))
theorem w_Not {f : M Bool} {Q : Bool → Env → Prop} (h : Wp f ρ (fun b ρ1 => Q (!b) ρ1) E) : Wp (xNot f) ρ Q E := by
  with_unfolding_all
    exact (Wp.bind (Wp.mono h (fun b ρ1 h => h) fun _ _ z => z))
theorem w_If {t : M Bool} {f g : M α} {Q : α → Env → Prop} (h : Wp t ρ (fun b ρ1 => Br b (Wp f ρ1 Q E) (Wp g ρ1 Q E)) E) : Wp (xIf t f g) ρ Q E := by
  with_unfolding_all
    exact (Wp.bind (Wp.mono h (fun b ρ1 h => by cases b <;> exact h) fun _ _ z => z))
theorem w_OrV {f g : M Arg} {Q : Arg → Env → Prop} (h : Wp f ρ (fun a ρ1 => Wo (look ρ1 a) fun x => Wo (truO x) fun b => Br b (Q a ρ1) (Wp g ρ1 Q E)) E) : Wp (xOrV f g) ρ Q E := by
  with_unfolding_all
    refine Wp.bind (Wp.mono h (fun a ρ1 h => ?_) fun _ _ z => z)
    unfold Wp
    cases e1 : look ρ1 a with
    | none => rw [e1] at h; exact h.elim
    | some x => cases e3 : truO x with
        | none => simp only [Wo, e1, e3] at h
        | some b => cases b <;> (simp only [Wo, e1, e3, Option.bind] at h ⊢; exact h)
theorem w_AndV {f g : M Arg} {Q : Arg → Env → Prop} (h : Wp f ρ (fun a ρ1 => Wo (look ρ1 a) fun x => Wo (truO x) fun b => Br b (Wp g ρ1 Q E) (Q a ρ1)) E) : Wp (xAndV f g) ρ Q E := by
  with_unfolding_all
    refine Wp.bind (Wp.mono h (fun a ρ1 h => ?_) fun _ _ z => z)
    unfold Wp
    cases e1 : look ρ1 a with
    | none => rw [e1] at h; exact h.elim
    | some x => cases e3 : truO x with
        | none => simp only [Wo, e1, e3] at h
        | some b => cases b <;> (simp only [Wo, e1, e3, Option.bind] at h ⊢; exact h)
theorem w_Js_nil {acc : Str} {Q : Arg → Env → Prop} (q : Q (.tmp (.fz (.str acc))) ρ) : Wp (xJs [] acc) ρ Q E := by
  with_unfolding_all
    exact (q)
theorem w_Js_cons {f : M Arg} {r : List (M Arg)} {acc : Str} {Q : Arg → Env → Prop} (h : Wp f ρ (fun a ρ1 => Wo (look ρ1 a) fun x => Wo (asS x) fun y => acc.length + y.length ≤ sizeLine ∧ Wp (xJs r (acc ++ y)) ρ1 Q E) E) : Wp (xJs (f :: r) acc) ρ Q E := by
  with_unfolding_all
    have e : xJs (f :: r) acc = fun ρ => (f ρ).bind fun a ρ1 => match look ρ1 a with
      | some (.fz (.str y)) => if acc.length + y.length ≤ sizeLine then xJs r (acc ++ y) ρ1 else .bad
      | _ => .bad := rfl
    rw [e]
    refine Wp.bind (Wp.mono h (fun a ρ1 h => ?_) fun _ _ z => z)
    unfold Wp
    cases e1 : look ρ1 a with
    | none => rw [e1] at h; exact h.elim
    | some o =>
      simp only [Wo, e1] at h ⊢
      cases o with
      | fz d =>
        cases d with
        | str y =>
          obtain ⟨h1, h2⟩ := (show acc.length + y.length ≤ sizeLine ∧ Wp (xJs r (acc ++ y)) ρ1 Q E from h)
          simp only
          rw [if_pos h1]
          exact h2
        | _ => exact h.elim
      | _ => exact h.elim
/-- a call -/
def backW (ρ : Env) (io : Option Nat) (as : List Arg) (r out : OT) : Option Env := backA ρ io as (solidO r && solidO out) out
theorem w_Call {n : Nat} {io : Option Nat} {F : FD} {fa : M (List Arg)} {Q : Arg → Env → Prop} (h : Wp fa ρ (fun as ρ1 => (as.length = n ∧ okIo ρ1 io as = true) ∧ Wo (passFrom ρ1 io 0 as) fun os =>
    Wf F os (fun r out => Wo (backW ρ1 io as r out) fun ρ2 => Q (.tmp r) ρ2) fun x out => Wo (backA ρ1 io as false out) fun ρ2 => E x ρ2) E) : Wp (xCallN n io F fa) ρ Q E := by
  with_unfolding_all
    refine Wp.bind (Wp.mono h (fun as ρ1 h => ?_) fun _ _ z => z)
    unfold Wp
    simp only [if_pos h.1]
    have h := h.2
    cases e1 : passFrom ρ1 io 0 as with
    | none => rw [e1] at h; exact h.elim
    | some os =>
      simp only [Wo, e1, Wf, backW] at h ⊢
      cases e2 : F os with
      | bad => rw [e2] at h; exact h
      | ok r out =>
        simp only [Wo, e2] at h ⊢
        cases e3 : backA ρ1 io as (solidO r && solidO out) out with
        | none => rw [e3] at h; exact h
        | some ρ2 => rw [e3] at h; exact h
      | ex x out =>
        simp only [Wo, e2] at h ⊢
        cases e3 : backA ρ1 io as false out with
        | none => rw [e3] at h; exact h
        | some ρ2 => rw [e3] at h; exact h
theorem w_Mut {T : String} {i : Nat} {op : OT → List OT → Option (OT × OT)} {g : M (List Arg)} {Q : Arg → Env → Prop} (h : Wo (slv ρ[i]?) fun x0 => tyO T x0 = true ∧ Wp g ρ (fun as ρ1 => Wo (takes ρ1 as) fun p => Wo (slv p.2[i]?) fun x => Wo (op x p.1) fun y => Wo (putS p.2 i y.1) fun ρ3 => Q (.tmp y.2) ρ3) E) : Wp (xMut T i op g) ρ Q E := by
  with_unfolding_all
    unfold xMut
    cases e0 : slv ρ[i]? with
    | none => rw [e0] at h; exact h.elim
    | some x0 =>
      rw [e0] at h
      obtain ⟨h1, h⟩ := (show tyO T x0 = true ∧ _ from h)
      have key : Wp (fun ρ => (g ρ).bind fun as ρ1 => match takes ρ1 as with
        | none => R.bad
        | some (os, ρ2) => match slv ρ2[i]? with
          | none => .bad
          | some x => match op x os with
            | none => .bad
            | some (x', o') => match putS ρ2 i x' with
              | none => .bad
              | some ρ3 => .ok (Arg.tmp o') ρ3) ρ Q E := by
        refine Wp.bind (Wp.mono h (fun as ρ1 h => ?_) fun _ _ z => z)
        unfold Wp
        cases e1 : takes ρ1 as with
        | none => rw [e1] at h; exact h.elim
        | some p =>
          obtain ⟨os, ρ2⟩ := p
          simp only [Wo, e1] at h ⊢
          cases e2 : slv ρ2[i]? with
          | none => rw [e2] at h; exact h.elim
          | some x =>
            simp only [Wo, e2] at h ⊢
            cases e3 : op x os with
            | none => rw [e3] at h; exact h.elim
            | some y =>
              obtain ⟨x', o'⟩ := y
              simp only [Wo, e3] at h ⊢
              cases e4 : putS ρ2 i x' with
              | none => rw [e4] at h; exact h.elim
              | some ρ3 => simp only [Wo, e4] at h ⊢; exact h
      unfold Wp at key ⊢
      simp only [e0]
      rw [if_pos h1]
      exact key
theorem w_Yes {Q : Bool → Env → Prop} (q : Q true ρ) : Wp xYes ρ Q E := by
  with_unfolding_all
    exact (q)
/-! targets -/
theorem w_gNm {i : Nat} {o : OT} {Q : Unit → Env → Prop} (h : (match ρ[i]? with | some .un => true | some (.vl _) => true | _ => false) = true) (q : Q () (ρ.set i (.vl o))) : Wp (gNm i o) ρ Q E := by
  with_unfolding_all
    unfold Wp gNm
    cases e : ρ[i]? with
    | none => rw [e] at h; cases h
    | some s => cases s <;> rw [e] at h <;> first | exact q | cases h
theorem w_gIx {i : Nat} {fk : M Arg} {op : OT → List OT → Option (OT × OT)} {o : OT} {Q : Unit → Env → Prop} (h : Wo (slv ρ[i]?) fun _ => Wp fk ρ (fun a ρ1 => Wo (look ρ1 a) fun k => Wo (slv ρ1[i]?) fun x => ∃ d, k = .fz d ∧ Wo (op x [.fz d, o]) fun y => Wo (putS ρ1 i y.1) fun ρ2 => Q () ρ2) E) : Wp (gIx i fk op o) ρ Q E := by
  with_unfolding_all
    unfold gIx
    cases e0 : slv ρ[i]? with
    | none => rw [e0] at h; exact h.elim
    | some x0 =>
      rw [e0] at h
      have h : Wp fk ρ _ E := h
      have key : Wp (fun ρ => (fk ρ).bind fun a ρ1 => match look ρ1 a with
        | some (.fz k) => match slv ρ1[i]? with
          | none => R.bad
          | some x => match op x [.fz k, o] with
            | none => .bad
            | some (x', _) => match putS ρ1 i x' with
              | none => .bad
              | some ρ2 => .ok () ρ2
        | _ => .bad) ρ Q E := by
        refine Wp.bind (Wp.mono h (fun a ρ1 h => ?_) fun _ _ z => z)
        unfold Wp
        cases e1 : look ρ1 a with
        | none => rw [e1] at h; exact h.elim
        | some k =>
          simp only [Wo, e1] at h ⊢
          cases e2 : slv ρ1[i]? with
          | none => rw [e2] at h; exact h.elim
          | some x =>
            simp only [Wo, e2] at h ⊢
            obtain ⟨d, rfl, h⟩ := h
            simp only
            cases e3 : op x [.fz d, o] with
            | none => rw [e3] at h; exact h.elim
            | some y =>
              obtain ⟨x', o'⟩ := y
              simp only [Wo, e3] at h ⊢
              cases e4 : putS ρ1 i x' with
              | none => rw [e4] at h; exact h.elim
              | some ρ2 => simp only [Wo, e4] at h ⊢; exact h
      unfold Wp at key ⊢
      simp only [e0]
      exact key
theorem w_gS_nil {Q : Unit → Env → Prop} (q : Q () ρ) : Wp (gSeq [] []) ρ Q E := by
  with_unfolding_all
    exact (q)
theorem w_gS_cons {g : TM} {gs : List TM} {o : OT} {os : List OT} {Q : Unit → Env → Prop} (h : Wp (g o) ρ (fun _ ρ1 => Wp (gSeq gs os) ρ1 Q E) E) : Wp (gSeq (g :: gs) (o :: os)) ρ Q E := by
  with_unfolding_all
    exact (Wp.bind (f := g o) (k := fun _ ρ1 => gSeq gs os ρ1) h)
theorem w_gTu {gs : List TM} {ds : List Dat} {Q : Unit → Env → Prop} (hl : ds.length = gs.length) (h : Wp (gSeq gs (ds.map .fz)) ρ Q E) : Wp (gTu gs (.fz (.tup ds))) ρ Q E := by
  with_unfolding_all
    unfold Wp gTu
    simp only
    rw [if_pos hl]
    exact h
/-! iterators -/
theorem w_Sq {f : M Arg} {Q : List Dat × List Nat → Env → Prop} (h : Wp f ρ (fun a ρ1 => Wo (itemsOf ρ1 a) fun p => Q (p.1, p.2.1) p.2.2) E) : Wp (iSeq f) ρ Q E := by
  with_unfolding_all
    exact (Wp.bind (Wp.mono h (fun a ρ1 h => by
        unfold Wp
        cases e : itemsOf ρ1 a with
        | none => rw [e] at h; exact h.elim
        | some p => simp only [e, Wo] at h ⊢; exact h) fun _ _ z => z))
def as1I : List OT → Option Int
  | [.fz (.int i)] => some i
  | _ => none
def as2I : List OT → Option (Int × Int)
  | [.fz (.int i), .fz (.int j)] => some (i, j)
  | _ => none
/-- a range's end that is small enough -/
def RgOk (j : Int) : Prop := -4611686018427387904 ≤ j ∧ j < 4611686018427387904
theorem RgOk.ok {j : Int} (h : RgOk j) : rngOk j = true := by
  obtain ⟨h1, h2⟩ := h
  unfold rngOk
  rw [decide_eq_true (show -(2 ^ 62) ≤ j by omega), decide_eq_true (show j < 2 ^ 62 by omega)]; rfl
theorem w_Rg1 {f : M (List Arg)} {Q : List Dat × List Nat → Env → Prop} (h : Wp f ρ (fun as ρ1 => Wo (looks ρ1 as) fun xs => Wo (as1I xs) fun j => RgOk j ∧ Q (rngL 0 j.toNat, []) ρ1) E) : Wp (iRg1 f) ρ Q E := by
  with_unfolding_all
    exact (Wp.bind (Wp.mono h (fun as ρ1 h => by
        unfold Wp
        cases e : looks ρ1 as with
        | none => rw [e] at h; exact h.elim
        | some xs =>
          simp only [e, Wo] at h ⊢
          cases hi : as1I xs with
          | none => rw [hi] at h; exact h.elim
          | some i =>
            rw [hi] at h
            have h : RgOk i ∧ Q (rngL 0 i.toNat, []) ρ1 := h
            unfold as1I at hi
            split at hi
            · cases hi; simp only [if_pos h.1.ok]; exact h.2
            · cases hi) fun _ _ z => z))
theorem w_Rg2 {f : M (List Arg)} {Q : List Dat × List Nat → Env → Prop} (h : Wp f ρ (fun as ρ1 => Wo (looks ρ1 as) fun xs => Wo (as2I xs) fun p => (RgOk p.1 ∧ RgOk p.2) ∧ Q (rngL p.1 (p.2 - p.1).toNat, []) ρ1) E) : Wp (iRg2 f) ρ Q E := by
  with_unfolding_all
    exact (Wp.bind (Wp.mono h (fun as ρ1 h => by
        unfold Wp
        cases e : looks ρ1 as with
        | none => rw [e] at h; exact h.elim
        | some xs =>
          simp only [e, Wo] at h ⊢
          cases hi : as2I xs with
          | none => rw [hi] at h; exact h.elim
          | some p =>
            rw [hi] at h
            have h : (RgOk p.1 ∧ RgOk p.2) ∧ Q (rngL p.1 (p.2 - p.1).toNat, []) ρ1 := h
            unfold as2I at hi
            split at hi
            · cases hi; simp only [h.1.1.ok, h.1.2.ok, Bool.and_self, if_true]; exact h.2
            · cases hi) fun _ _ z => z))
/-! comprehensions -/
def noX : Exn → Env → Prop := fun _ _ => False
theorem lcL_w {own : List Nat} {g : TM} {t : M Bool} {e : M Arg} (I : Nat → List OT → Env → Prop) {ds0 : List Dat} (step : ∀ k d os ρ, ds0[k]? = some d → I k os ρ → Wp (g (.fz d)) ρ (fun _ ρ1 => Wp t ρ1 (fun b ρ2 => Br b
    (Wp e ρ2 (fun a ρ3 => Wo (take1 ρ3 a) fun p => I (k + 1) (os ++ [p.1]) (wipeE own p.2)) noX) (I (k + 1) os (wipeE own ρ2))) noX) noX) :
    ∀ (ds : List Dat) (k : Nat) (os : List OT) (ρ : Env), ds = ds0.drop k → I k os ρ → ∃ os' ρ', lcL own g t e ds ρ = .ok os' ρ' ∧ I (k + ds.length) (os ++ os') ρ'
  | [], k, os, ρ, _, hI => ⟨[], ρ, rfl, by simpa using hI⟩
  | d :: r, k, os, ρ, hd, hI => by
    with_unfolding_all
      have hk : ds0[k]? = some d := by
        have := congrArg (fun l => l[0]?) hd
        simpa using this.symm
      have hr : r = ds0.drop (k + 1) := by
        have := congrArg List.tail hd
        simpa using this
      have st := step k d os ρ hk hI
      unfold Wp at st
      unfold lcL
      cases e1 : g (.fz d) ρ with
      | bad => rw [e1] at st; exact st.elim
      | ex x ρ' => rw [e1] at st; exact st.elim
      | ok u ρ1 =>
        simp only [e1] at st ⊢
        cases e2 : t ρ1 with
        | bad => rw [e2] at st; exact st.elim
        | ex x ρ' => rw [e2] at st; exact st.elim
        | ok b ρ2 =>
          simp only [e2] at st ⊢
          cases b with
          | false =>
            have st : I (k + 1) os (wipeE own ρ2) := st
            obtain ⟨os', ρ', h1, h2⟩ := lcL_w I step r (k + 1) os _ hr st
            refine ⟨os', ρ', h1, ?_⟩
            rw [List.length_cons, show k + (r.length + 1) = k + 1 + r.length by omega]
            exact h2
          | true =>
            replace st : Wp e ρ2 (fun a ρ3 => Wo (take1 ρ3 a) fun p => I (k + 1) (os ++ [p.1]) (wipeE own p.2)) noX := st
            unfold Wp at st
            cases e3 : e ρ2 with
            | bad => rw [e3] at st; exact st.elim
            | ex x ρ' => rw [e3] at st; exact st.elim
            | ok a ρ3 =>
              simp only [e3] at st ⊢
              cases e4 : take1 ρ3 a with
              | none => rw [e4] at st; exact st.elim
              | some p =>
                obtain ⟨o, ρ4⟩ := p
                simp only [e4, Wo] at st ⊢
                obtain ⟨os', ρ', h1, h2⟩ := lcL_w I step r (k + 1) (os ++ [o]) _ hr st
                refine ⟨o :: os', ρ', by rw [h1], ?_⟩
                rw [List.length_cons, show k + (r.length + 1) = k + 1 + r.length by omega]
                simpa using h2
theorem w_Lc {own : List Nat} {it : IM} {g : TM} {t : M Bool} {e : M Arg} {Q : Arg → Env → Prop} (h : Wp it ρ (fun p ρ1 => Wo (lockE p.2 ρ1) fun q => (p.1.length ≤ sizeLine ∧ (∀ i ∈ p.2, i ∉ own)) ∧
    ∃ I : Nat → List OT → Env → Prop, I 0 [] (wipeE own q.1) ∧ (∀ k d os ρ, p.1[k]? = some d → I k os ρ → Wp (g (.fz d)) ρ (fun _ ρ1 => Wp t ρ1 (fun b ρ2 => Br b
      (Wp e ρ2 (fun a ρ3 => Wo (take1 ρ3 a) fun p => I (k + 1) (os ++ [p.1]) (wipeE own p.2)) noX) (I (k + 1) os (wipeE own ρ2))) noX) noX) ∧
      ∀ os ρ3, I p.1.length os ρ3 → ρ3.length = q.1.length ∧ Wo (unlE q.2 (restE q.1 own ρ3)) fun ρ4 => Q (.tmp (.lst os)) ρ4) E) : Wp (xLc own it g t e) ρ Q E := by
  with_unfolding_all
    refine Wp.bind (Wp.mono h (fun p ρ1 h => ?_) fun _ _ z => z)
    unfold Wp
    cases e1 : lockE p.2 ρ1 with
    | none => rw [e1] at h; exact h.elim
    | some q =>
      obtain ⟨ρ2, us⟩ := q
      simp only [e1, Wo] at h ⊢
      obtain ⟨h1, I, h2, h3, h4⟩ := h
      rw [if_pos h1]
      obtain ⟨os, ρ3, g1, g2⟩ := lcL_w I h3 p.1 0 [] _ rfl h2
      rw [g1]
      rw [Nat.zero_add, List.nil_append] at g2
      obtain ⟨k1, k2⟩ := h4 os ρ3 g2
      simp only
      rw [if_pos k1]
      cases e2 : unlE us (restE ρ2 own ρ3) with
      | none => rw [e2] at k2; exact k2.elim
      | some ρ4 => simp only [e2] at k2 ⊢; exact k2
/-- .. whose items change nothing: res tells what comes of each -/
theorem w_LcP {own : List Nat} {it : IM} {g : TM} {t : M Bool} {e : M Arg} {Q : Arg → Env → Prop} (h : Wp it ρ (fun p ρ1 => Wo (lockE p.2 ρ1) fun q => (p.1.length ≤ sizeLine ∧ (∀ i ∈ p.2, i ∉ own)) ∧
    ∃ res : Dat → Option OT, (∀ d ∈ p.1, Wp (g (.fz d)) (wipeE own q.1) (fun _ ρ1 => Wp t ρ1 (fun b ρ2 => Br b
      (Wp e ρ2 (fun a ρ3 => Wo (take1 ρ3 a) fun p => res d = some p.1 ∧ wipeE own p.2 = wipeE own q.1) noX) (res d = none ∧ wipeE own ρ2 = wipeE own q.1)) noX) noX) ∧
      ((wipeE own q.1).length = q.1.length ∧ Wo (unlE q.2 (restE q.1 own (wipeE own q.1))) fun ρ4 => Q (.tmp (.lst (p.1.filterMap res))) ρ4)) E) : Wp (xLc own it g t e) ρ Q E := by
  with_unfolding_all
    refine w_Lc (Wp.mono h (fun p ρ1 h => ?_) fun _ _ z => z)
    cases e1 : lockE p.2 ρ1 with
    | none => rw [e1] at h; exact h.elim
    | some q =>
      simp only [e1, Wo] at h ⊢
      obtain ⟨h1, res, h2, h3, h4⟩ := h
      refine ⟨h1, fun k os ρ' => os = (p.1.take k).filterMap res ∧ ρ' = wipeE own q.1, ⟨rfl, rfl⟩, fun k d os ρ' hd hi => ?_, fun os ρ3 hi => ?_⟩
      · obtain ⟨rfl, rfl⟩ := hi
        have tk : p.1.take (k + 1) = p.1.take k ++ [d] := by
          rw [List.take_add_one, hd]; rfl
        refine Wp.mono (h2 d (List.mem_of_getElem? hd)) (fun _ ρ1 h => Wp.mono h (fun b ρ2 h => ?_) fun _ _ z => z) fun _ _ z => z
        cases b with
        | false =>
          refine ⟨?_, h.2⟩
          rw [tk, List.filterMap_append]
          simp [show res d = none from h.1]
        | true =>
          refine Wp.mono h (fun a ρ3 h => ?_) fun _ _ z => z
          cases e4 : take1 ρ3 a with
          | none => rw [e4] at h; exact h.elim
          | some r =>
            simp only [e4, Wo] at h ⊢
            refine ⟨?_, h.2⟩
            rw [tk, List.filterMap_append]
            simp [show res d = some r.1 from h.1]
      · obtain ⟨rfl, rfl⟩ := hi
        refine ⟨h3, ?_⟩
        rw [List.take_length]
        exact h4
end

/-! statements -/
section
variable {ρ : Env} {D : En} {g h : SM}
theorem Ws.mono {D' : En} (q : Ws g ρ D) (h1 : ∀ ρ, D.nx ρ → D'.nx ρ) (h2 : ∀ ρ, D.bk ρ → D'.bk ρ) (h3 : ∀ ρ, D.ct ρ → D'.ct ρ) (h4 : ∀ o ρ, D.rt o ρ → D'.rt o ρ) (h5 : ∀ x ρ, D.ex x ρ → D'.ex x ρ) : Ws g ρ D' := by
  with_unfolding_all
    unfold Ws at *
    cases e : g ρ <;> rw [e] at q
    · exact h1 _ q
    all_goals first | exact h2 _ q | exact h3 _ q | exact h4 _ _ q | exact h5 _ _ q | exact q.elim
theorem ws_nx (q : D.nx ρ) : Ws sNx ρ D := by
  with_unfolding_all
    exact (q)
theorem ws_bk (q : D.bk ρ) : Ws sBk ρ D := by
  with_unfolding_all
    exact (q)
theorem ws_ct (q : D.ct ρ) : Ws sCt ρ D := by
  with_unfolding_all
    exact (q)
theorem ws_seq (q : Ws g ρ { nx := fun ρ1 => Ws h ρ1 D, bk := D.bk, ct := D.ct, rt := D.rt, ex := D.ex }) : Ws (sSeq g h) ρ D := by
  with_unfolding_all
    unfold Ws sSeq at *
    cases e : g ρ <;> rw [e] at q <;> exact q
theorem Ws.rs {α : Type} {f : M α} {k : α → Env → SR} (q : Wp f ρ (fun a ρ1 => Ws (k a) ρ1 D) D.ex) : Ws (fun ρ => RS (f ρ) k) ρ D := by
  with_unfolding_all
    unfold Ws Wp at *
    cases e : f ρ with
    | bad => rw [e] at q; exact q.elim
    | ex x ρ' => simp only [e, RS] at q ⊢; exact q
    | ok a ρ1 => simp only [e, RS] at q ⊢; exact q
theorem ws_if {t : M Bool} (q : Wp t ρ (fun b ρ1 => Br b (Ws g ρ1 D) (Ws h ρ1 D)) D.ex) : Ws (sIf t g h) ρ D := by
  with_unfolding_all
    exact (Ws.rs (Wp.mono q (fun b ρ1 q => by cases b <;> exact q) fun _ _ z => z))
theorem ws_ret {f : M Arg} (q : Wp f ρ (fun a ρ1 => Wo (giveBack ρ1 a) fun p => D.rt p.1 p.2) D.ex) : Ws (sRet f) ρ D := by
  with_unfolding_all
    exact (Ws.rs (Wp.mono q (fun a ρ1 q => by
      unfold Ws
      cases e : giveBack ρ1 a with
      | none => rw [e] at q; exact q.elim
      | some p => simp only [e, Wo] at q ⊢; exact q) fun _ _ z => z))
theorem ws_retN (q : D.rt (.fz .non) ρ) : Ws sRetN ρ D := by
  with_unfolding_all
    exact (q)
theorem ws_expr {f : M Arg} (q : Wp f ρ (fun _ ρ1 => D.nx ρ1) D.ex) : Ws (sExpr f) ρ D := by
  with_unfolding_all
    exact (Ws.rs (Wp.mono q (fun a ρ1 q => q) fun _ _ z => z))
theorem ws_asg {f : M Arg} {t : TM} (q : Wp f ρ (fun a ρ1 => Wo (take1 ρ1 a) fun p => Wp (t p.1) p.2 (fun _ ρ3 => D.nx ρ3) D.ex) D.ex) : Ws (sAsg f t) ρ D := by
  with_unfolding_all
    exact (Ws.rs (Wp.mono q (fun a ρ1 q => by
      cases e : take1 ρ1 a with
      | none => rw [e] at q; exact q.elim
      | some p =>
        simp only [e, Wo] at q
        have := Ws.rs (D := D) (f := t p.1) (k := fun _ ρ3 => .nx ρ3) q
        unfold Ws at *
        simp only [e]
        exact this) fun _ _ z => z))
theorem ws_par {is : List Nat} {f : M (List Arg)} (q : Wp f ρ (fun as ρ1 => Wo (takes ρ1 as) fun p => Ws (storeAll is p.1) p.2 D) D.ex) : Ws (sPar is f) ρ D := by
  with_unfolding_all
    exact (Ws.rs (Wp.mono q (fun a ρ1 q => by
      unfold Ws
      cases e : takes ρ1 a with
      | none => rw [e] at q; exact q.elim
      | some p => simp only [e, Wo] at q ⊢; exact q) fun _ _ z => z))
theorem ws_st_nil (q : D.nx ρ) : Ws (storeAll [] []) ρ D := by
  with_unfolding_all
    exact (q)
theorem ws_st_cons {i : Nat} {is : List Nat} {o : OT} {os : List OT} (q : Wp (gNm i o) ρ (fun _ ρ1 => Ws (storeAll is os) ρ1 D) D.ex) : Ws (storeAll (i :: is) (o :: os)) ρ D := by
  with_unfolding_all
    exact (Ws.rs (f := gNm i o) (k := fun _ ρ1 => storeAll is os ρ1) q)
theorem forL_w {g : TM} {body : SM} {D : En} {ds0 : List Dat} (I : Nat → Env → Prop) (step : ∀ k d ρ, ds0[k]? = some d → I k ρ → Wp (g (.fz d)) ρ (fun _ ρ1 => Ws body ρ1 { nx := I (k + 1), ct := I (k + 1), bk := D.nx, rt := D.rt, ex := D.ex }) D.ex)
    (fin : ∀ ρ, I ds0.length ρ → D.nx ρ) : ∀ (ds : List Dat) (k : Nat) (ρ : Env), ds = ds0.drop k → k ≤ ds0.length → I k ρ → Ws (forL g body ds) ρ D
  | [], k, ρ, hd, hk, hI => by
    with_unfolding_all
      have : ds0.length ≤ k := by
        have := congrArg List.length hd
        rw [List.length_drop, List.length_nil] at this
        omega
      rw [show k = ds0.length by omega] at hI
      exact fin ρ hI
  | d :: r, k, ρ, hd, hk, hI => by
    with_unfolding_all
      have hk2 : ds0[k]? = some d := by
        have := congrArg (fun l => l[0]?) hd
        simpa using this.symm
      have hr : r = ds0.drop (k + 1) := by
        have := congrArg List.tail hd
        simpa using this
      have hlt : k < ds0.length := (List.getElem?_eq_some_iff.mp hk2).1
      have st := step k d ρ hk2 hI
      have e0 : forL g body (d :: r) = fun ρ => RS (g (.fz d) ρ) fun _ ρ1 => match body ρ1 with
        | .nx ρ2 => forL g body r ρ2
        | .ct ρ2 => forL g body r ρ2
        | .bk ρ2 => .nx ρ2
        | z => z := rfl
      rw [e0]
      refine Ws.rs (Wp.mono st (fun _ ρ1 st => ?_) fun _ _ z => z)
      unfold Ws at st ⊢
      cases e : body ρ1 with
      | nx ρ2 => rw [e] at st; simp only [e]; exact forL_w I step fin r (k + 1) ρ2 hr hlt st
      | ct ρ2 => rw [e] at st; simp only [e]; exact forL_w I step fin r (k + 1) ρ2 hr hlt st
      | bk ρ2 => rw [e] at st; simp only [e]; exact st
      | rt o ρ2 => rw [e] at st; simp only [e]; exact st
      | ex x ρ2 => rw [e] at st; simp only [e]; exact st
      | bad => rw [e] at st; exact False.elim st
/-- for: the invariant I over the number of items gone by -/
theorem ws_for {it : IM} {g : TM} {body : SM} (q : Wp it ρ (fun p ρ1 => p.2 = [] ∧ ∃ I : Nat → Env → Prop, I 0 ρ1 ∧ (∀ k d ρ, p.1[k]? = some d → I k ρ → Wp (g (.fz d)) ρ (fun _ ρ1 => Ws body ρ1 { nx := I (k + 1), ct := I (k + 1), bk := D.nx, rt := D.rt, ex := D.ex }) D.ex) ∧
    ∀ ρ, I p.1.length ρ → D.nx ρ) D.ex) : Ws (sFor it g body) ρ D := by
  with_unfolding_all
    exact (Ws.rs (Wp.mono q (fun p ρ1 q => by
      obtain ⟨h1, I, h2, h3, h4⟩ := q
      unfold Ws
      rw [h1]
      exact forL_w I h3 h4 p.1 0 ρ1 rfl (Nat.zero_le _) h2) fun _ _ z => z))
/-- .. over a list that a name holds: the name is locked meanwhile -/
def Dun (i : Nat) (b : Bool) (D : En) : En := { nx := fun ρ => Wo (unlS i b ρ) D.nx, bk := fun _ => False, ct := fun _ => False, rt := fun o ρ => Wo (unlS i b ρ) (D.rt o), ex := fun x ρ => Wo (unlS i b ρ) (D.ex x) }
theorem ws_unl {i : Nat} {b : Bool} {r : SR} {ρ : Env} (q : Ws (fun _ => r) ρ (Dun i b D)) : Ws (fun _ => unlR i b r) ρ D := by
  with_unfolding_all
    unfold Ws at *
    cases r with
    | nx ρ2 =>
      unfold unlR
      have q : Wo (unlS i b ρ2) D.nx := q
      cases e : unlS i b ρ2 with
      | none => rw [e] at q; exact q.elim
      | some ρ3 => simp only [e, Wo] at q ⊢; exact q
    | rt o ρ2 =>
      unfold unlR
      have q : Wo (unlS i b ρ2) (D.rt o) := q
      cases e : unlS i b ρ2 with
      | none => rw [e] at q; exact q.elim
      | some ρ3 => simp only [e, Wo] at q ⊢; exact q
    | ex o ρ2 =>
      unfold unlR
      have q : Wo (unlS i b ρ2) (D.ex o) := q
      cases e : unlS i b ρ2 with
      | none => rw [e] at q; exact q.elim
      | some ρ3 => simp only [e, Wo] at q ⊢; exact q
    | bk ρ2 => exact q.elim
    | ct ρ2 => exact q.elim
    | bad => exact q.elim
theorem ws_forK {it : IM} {g : TM} {body : SM} (q : Wp it ρ (fun p ρ1 => ∃ i b os, p.2 = [i] ∧ ((ρ1[i]? = some (.vl (.lst os)) ∧ b = false) ∨ (ρ1[i]? = some (.io (.lst os)) ∧ b = true)) ∧ ∃ I : Nat → Env → Prop, I 0 (ρ1.set i (.lk (.lst os))) ∧
    (∀ k d ρ, p.1[k]? = some d → I k ρ → Wp (g (.fz d)) ρ (fun _ ρ1 => Ws body ρ1 { nx := I (k + 1), ct := I (k + 1), bk := (Dun i b D).nx, rt := (Dun i b D).rt, ex := (Dun i b D).ex }) (Dun i b D).ex) ∧
    ∀ ρ, I p.1.length ρ → (Dun i b D).nx ρ) D.ex) : Ws (sFor it g body) ρ D := by
  with_unfolding_all
    exact (Ws.rs (Wp.mono q (fun p ρ1 q => by
      obtain ⟨i, b, os, h1, hb, I, h2, h3, h4⟩ := q
      have key := forL_w (D := Dun i b D) I h3 h4 p.1 0 _ rfl (Nat.zero_le _) h2
      have go : Ws (fun _ => unlR i b (forL g body p.1 (ρ1.set i (.lk (.lst os))))) ρ1 D := ws_unl key
      unfold Ws at go ⊢
      rw [h1]
      unfold lockA
      rcases hb with ⟨e, rfl⟩ | ⟨e, rfl⟩
      · simp only [e]; exact go
      · simp only [e]; exact go) fun _ _ z => z))
theorem whileN_w {t : M Bool} {body : SM} (I : Nat → Env → Prop) (step : ∀ n ρ, I n ρ → Wp t ρ (fun b ρ1 => Br b (Ws body ρ1 { nx := fun ρ2 => ∃ m, m < n ∧ I m ρ2, ct := fun ρ2 => ∃ m, m < n ∧ I m ρ2, bk := D.nx, rt := D.rt, ex := D.ex }) (D.nx ρ1)) D.ex) :
    ∀ (N n : Nat) (ρ : Env), n < N → I n ρ → Ws (whileN t body N) ρ D
  | 0, n, ρ, h, _ => absurd h (Nat.not_lt_zero n)
  | N + 1, n, ρ, h, hI => by
    with_unfolding_all
      have st := step n ρ hI
      have e0 : whileN t body (N + 1) = fun ρ => RS (t ρ) fun b ρ1 => if b then (match body ρ1 with
        | .nx ρ2 => whileN t body N ρ2
        | .ct ρ2 => whileN t body N ρ2
        | .bk ρ2 => .nx ρ2
        | z => z) else .nx ρ1 := rfl
      rw [e0]
      refine Ws.rs (Wp.mono st (fun b ρ1 st => ?_) fun _ _ z => z)
      cases b with
      | false => exact st
      | true =>
        have st : Ws body ρ1 _ := st
        unfold Ws at st ⊢
        simp only [if_true]
        cases e : body ρ1 with
        | nx ρ2 => rw [e] at st; simp only [e]; obtain ⟨m, h1, h2⟩ := st; exact whileN_w I step N m ρ2 (by omega) h2
        | ct ρ2 => rw [e] at st; simp only [e]; obtain ⟨m, h1, h2⟩ := st; exact whileN_w I step N m ρ2 (by omega) h2
        | bk ρ2 => rw [e] at st; simp only [e]; exact st
        | rt o ρ2 => rw [e] at st; simp only [e]; exact st
        | ex x ρ2 => rw [e] at st; simp only [e]; exact st
        | bad => rw [e] at st; exact False.elim st
/-- while: I n holds where at most n turns are left -/
theorem ws_while {t : M Bool} {body : SM} (I : Nat → Env → Prop) (n : Nat) (hn : n < 1000000000) (h0 : I n ρ) (step : ∀ n ρ, I n ρ → Wp t ρ (fun b ρ1 => Br b (Ws body ρ1 { nx := fun ρ2 => ∃ m, m < n ∧ I m ρ2, ct := fun ρ2 => ∃ m, m < n ∧ I m ρ2, bk := D.nx, rt := D.rt, ex := D.ex }) (D.nx ρ1)) D.ex) :
    Ws (sWhile t body) ρ D := by
  with_unfolding_all
    exact (whileN_w I step FUEL n ρ hn h0)
end
/-! defs -/
theorem Wf.run {io : Option Nat} {m n : Nat} {g : SM} {os : List OT} {Q : OT → OT → Prop} {E : Exn → OT → Prop} (h : Ws g (mkEnv io os ++ List.replicate (m - n) .un) { nx := fun ρ => Wo (outOf io ρ) fun out => Q (.fz .non) out, rt := fun o ρ => Wo (outOf io ρ) fun out => Q o out, ex := fun x ρ => Wo (outOf io ρ) fun out => E x out }) : Wf (runF io m n g) os Q E := by
  with_unfolding_all
    unfold Ws at h
    unfold Wf runF
    cases e : g (mkEnv io os ++ List.replicate (m - n) .un) with
    | bad => rw [e] at h; exact h.elim
    | bk ρ' => rw [e] at h; exact h.elim
    | ct ρ' => rw [e] at h; exact h.elim
    | nx ρ' =>
      rw [e] at h
      have h : Wo (outOf io ρ') fun out => Q (.fz .non) out := h
      cases ho : outOf io ρ' with
      | none => rw [ho] at h; exact h.elim
      | some out => rw [ho] at h; simp only [ho]; exact h
    | rt o ρ' =>
      rw [e] at h
      have h : Wo (outOf io ρ') fun out => Q o out := h
      cases ho : outOf io ρ' with
      | none => rw [ho] at h; exact h.elim
      | some out => rw [ho] at h; simp only [ho]; exact h
    | ex x ρ' =>
      rw [e] at h
      have h : Wo (outOf io ρ') fun out => E x out := h
      cases ho : outOf io ρ' with
      | none => rw [ho] at h; exact h.elim
      | some out => rw [ho] at h; simp only [ho]; exact h
theorem Wf.mono {F : FD} {os : List OT} {Q Q' : OT → OT → Prop} {E E' : Exn → OT → Prop} (h : Wf F os Q E) (hq : ∀ r out, Q r out → Q' r out) (he : ∀ x out, E x out → E' x out) : Wf F os Q' E' := by
  with_unfolding_all
    unfold Wf at *
    cases e : F os with
    | bad => rw [e] at h; exact h.elim
    | ok r out => rw [e] at h; exact hq _ _ h
    | ex x out => rw [e] at h; exact he _ _ h
/-- no exception comes -/
def nX : Exn → OT → Prop := fun _ _ => False
theorem Wf.go {F : FD} {os : List OT} {Q Q' : OT → OT → Prop} {E : Exn → OT → Prop} (h : Wf F os Q nX) (hq : ∀ r out, Q r out → Q' r out) : Wf F os Q' E := by
  with_unfolding_all
    exact (h.mono hq fun _ _ z => z.elim)
theorem law_of {F : FD} (h : ∀ ns : List Int, ns.length ≤ 63 → (∀ z ∈ ns, Builtin.Int.intBits z ≤ 1048576) → Wf F [.fz (.kst ns)] (fun r _ => r = .fz (.bl true)) nX) : LawOk F := by
  with_unfolding_all
    exact (fun ns h1 h2 => by
      have q := h ns h1 h2
      unfold Wf at q
      cases e : F [.fz (.kst ns)] with
      | bad => rw [e] at q; exact q.elim
      | ok r out => rw [e] at q; exact ⟨out, by rw [show r = _ from q]⟩
      | ex x out => rw [e] at q; exact q.elim)
end Lay

namespace Lay
open PySem PySem.Spec L2

/-! ### the operations, seen by Wo -/
section
variable {i j : Int} {k : OT → Prop}
theorem o_add (q : k (.fz (.int (i + j)))) : Wo (opAdd (.fz (.int i)) (.fz (.int j))) k := by
  with_unfolding_all
    exact (q)
theorem o_addS {s t : Str} (h : s.length + t.length ≤ sizeLine) (q : k (.fz (.str (s ++ t)))) : Wo (opAdd (.fz (.str s)) (.fz (.str t))) k := by
  with_unfolding_all
    exact (wo (if_pos h) q)
theorem o_addT {s t : List Dat} (h : s.length + t.length ≤ sizeLine) (q : k (.fz (.tup (s ++ t)))) : Wo (opAdd (.fz (.tup s)) (.fz (.tup t))) k := by
  with_unfolding_all
    exact (wo (if_pos h) q)
theorem allFz_map (ds : List Dat) : allFz (ds.map .fz) = some ds := by
  induction ds with
  | nil => rfl
  | cons d r ih => show (match allFz (r.map OT.fz) with | some ds => some (d :: ds) | none => none) = _; rw [ih]
theorem asL_map (ds : List Dat) : asL (.lst (ds.map .fz)) = some ds := allFz_map ds
theorem o_addL {x y : OT} {xs ys : List Dat} (hx : asL x = some xs) (hy : asL y = some ys) (h : xs.length + ys.length ≤ sizeLine) (q : k (.lst ((xs ++ ys).map .fz))) : Wo (opAdd x y) k := by
  with_unfolding_all
    refine wo ?_ q
    unfold opAdd
    split
    · cases hx
    · cases hx
    · cases hx
    · rw [hx, hy]
      exact if_pos h
theorem o_sub (q : k (.fz (.int (i - j)))) : Wo (opSub (.fz (.int i)) (.fz (.int j))) k := by
  with_unfolding_all
    exact (q)
theorem o_mul (h : cMul i j = true) (q : k (.fz (.int (i * j)))) : Wo (opMul (.fz (.int i)) (.fz (.int j))) k := by
  with_unfolding_all
    exact (wo (if_pos h) q)
theorem cMul_l (h1 : -9223372036854775808 < i) (h2 : i < 9223372036854775808) : cMul i j = true := by
  unfold cMul
  rw [decide_eq_true (show i.natAbs < 9223372036854775808 by omega)]; rfl
theorem cMul_r (h1 : -9223372036854775808 < j) (h2 : j < 9223372036854775808) : cMul i j = true := by
  unfold cMul
  rw [decide_eq_true (show j.natAbs < 9223372036854775808 by omega)]; simp
theorem cMul_b {a b : Nat} (h1 : i.natAbs < 2 ^ a) (h2 : j.natAbs < 2 ^ b) (ha : 0 < a) (hb : 0 < b) (h : a + b < 100000000) : cMul i j = true := by
  have x := PySem.Flt.log2_lt_of ha h1
  have y := PySem.Flt.log2_lt_of hb h2
  unfold cMul
  rw [decide_eq_true (show i.natAbs.log2 + j.natAbs.log2 < 100000000 by omega)]; simp
theorem o_mod (h : 0 < j) (q : k (.fz (.int (i % j)))) : Wo (opMod (.fz (.int i)) (.fz (.int j))) k := by
  with_unfolding_all
    exact (wo (if_pos (decide_eq_true h)) q)
theorem o_fdiv (h0 : j ≠ 0) (h : j.natAbs.log2 < 9000) (q : k (.fz (.int (i.fdiv j)))) : Wo (opFdiv (.fz (.int i)) (.fz (.int j))) k := by
  with_unfolding_all
    exact (wo (if_pos (by unfold cDiv; simp [h0, h])) q)
theorem log_small {n a : Nat} (h : n < 2 ^ a) (ha : 0 < a) (h9 : a ≤ 9000) : n.log2 < 9000 := Nat.lt_of_lt_of_le (PySem.Flt.log2_lt_of ha h) h9
theorem o_fdivS (h0 : 0 < j) (h1 : j < 1073741824) (q : k (.fz (.int (i / j)))) : Wo (opFdiv (.fz (.int i)) (.fz (.int j))) k := by
  with_unfolding_all
    exact (o_fdiv (by omega) (log_small (a := 30) (show j.natAbs < 2 ^ 30 by omega) (by decide) (by decide)) (by rw [Int.fdiv_eq_ediv_of_nonneg i (by omega)]; exact q))
theorem o_pow (h : cPow i j = true) (q : k (.fz (.int (i ^ j.toNat)))) : Wo (opPow (.fz (.int i)) (.fz (.int j))) k := by
  with_unfolding_all
    exact (wo (if_pos h) q)
theorem o_neg (q : k (.fz (.int (-i)))) : Wo (opNeg (.fz (.int i))) k := by
  with_unfolding_all
    exact (q)
theorem o_lt (q : k (.fz (.bl (decide (i < j))))) : Wo (opLt (.fz (.int i)) (.fz (.int j))) k := by
  with_unfolding_all
    exact (q)
theorem o_le (q : k (.fz (.bl (decide (i ≤ j))))) : Wo (opLe (.fz (.int i)) (.fz (.int j))) k := by
  with_unfolding_all
    exact (q)
theorem o_gt (q : k (.fz (.bl (decide (j < i))))) : Wo (opGt (.fz (.int i)) (.fz (.int j))) k := by
  with_unfolding_all
    exact (q)
theorem o_ge (q : k (.fz (.bl (decide (j ≤ i))))) : Wo (opGe (.fz (.int i)) (.fz (.int j))) k := by
  with_unfolding_all
    exact (q)
theorem o_eqI (q : k (.fz (.bl (decide (i = j))))) : Wo (opEq (.fz (.int i)) (.fz (.int j))) k := by
  with_unfolding_all
    refine wo (x := .fz (.bl (decide (i = j)))) ?_ q
    show (if cmpOk 60 (.int i) && cmpOk 60 (.int j) then some (eqD (.int i) (.int j)) else none).map _ = _
    simp [cmpOk, eqD]
    rfl
theorem o_neI (q : k (.fz (.bl (!decide (i = j))))) : Wo (opNe (.fz (.int i)) (.fz (.int j))) k := by
  with_unfolding_all
    refine wo (x := .fz (.bl (!decide (i = j)))) ?_ q
    show (if cmpOk 60 (.int i) && cmpOk 60 (.int j) then some (eqD (.int i) (.int j)) else none).map _ = _
    simp [cmpOk, eqD]
    rfl
theorem o_eqS {s t : Str} (q : k (.fz (.bl (decide (s = t))))) : Wo (opEq (.fz (.str s)) (.fz (.str t))) k := by
  with_unfolding_all
    exact (q)
theorem o_neS {s t : Str} (q : k (.fz (.bl (!decide (s = t))))) : Wo (opNe (.fz (.str s)) (.fz (.str t))) k := by
  with_unfolding_all
    exact (q)
theorem o_eq {x y : OT} {b : Bool} (h : eqO x y = some b) (q : k (.fz (.bl b))) : Wo (opEq x y) k := by
  with_unfolding_all
    exact (wo (by unfold opEq; rw [h]; rfl) q)
theorem o_ne {x y : OT} {b : Bool} (h : eqO x y = some b) (q : k (.fz (.bl (!b)))) : Wo (opNe x y) k := by
  with_unfolding_all
    exact (wo (by unfold opNe; rw [h]; rfl) q)
/-- is there anything in a new list? -/
theorem o_eqNil {os : List OT} (h : cmpOks 59 (frzs os) = true) (q : k (.fz (.bl os.isEmpty))) : Wo (opEq (.lst os) (.lst [])) k := by
  with_unfolding_all
    refine o_eq (b := os.isEmpty) ?_ q
    show (if cmpOk 60 (.lst (frzs os)) && cmpOk 60 (.lst []) then some (eqD (.lst (frzs os)) (.lst [])) else none) = _
    have : cmpOk 60 (.lst (frzs os)) = true := by unfold cmpOk; exact h
    rw [this, show cmpOk 60 (.lst []) = true from rfl]
    cases os with
    | nil => simp [frzs, eqD, eqDs]
    | cons o r => simp [frzs, eqD, eqDs]
theorem o_neNil {os : List OT} (h : cmpOks 59 (frzs os) = true) (q : k (.fz (.bl (!os.isEmpty)))) : Wo (opNe (.lst os) (.lst [])) k := by
  with_unfolding_all
    refine o_ne (b := os.isEmpty) ?_ q
    show (if cmpOk 60 (.lst (frzs os)) && cmpOk 60 (.lst []) then some (eqD (.lst (frzs os)) (.lst [])) else none) = _
    have : cmpOk 60 (.lst (frzs os)) = true := by unfold cmpOk; exact h
    rw [this, show cmpOk 60 (.lst []) = true from rfl]
    cases os with
    | nil => simp [frzs, eqD, eqDs]
    | cons o r => simp [frzs, eqD, eqDs]
theorem o_int (q : k (.fz (.int i))) : Wo (opInt [.fz (.int i)]) k := by
  with_unfolding_all
    exact (q)
theorem o_intB {b : Bool} (q : k (.fz (.int (if b then 1 else 0)))) : Wo (opInt [.fz (.bl b)]) k := by
  with_unfolding_all
    exact (q)
theorem o_abs (q : k (.fz (.int (if i < 0 then -i else i)))) : Wo (opAbs [.fz (.int i)]) k := by
  with_unfolding_all
    exact (q)
theorem o_absN (q : k (.fz (.int (i.natAbs : Int)))) : Wo (opAbs [.fz (.int i)]) k := by
  with_unfolding_all
    exact (o_abs (by
      rw [show (if i < 0 then -i else i) = (i.natAbs : Int) by split <;> omega]; exact q))
theorem o_strI (h : i.natAbs.log2 < 1920) (q : k (.fz (.str (toString i)))) : Wo (opStrI [.fz (.int i)]) k := by
  with_unfolding_all
    refine wo (x := .fz (.str (toString i))) ?_ q
    show (if i.natAbs.log2 < 1920 then some (Dat.str (toString i)) else none).map OT.fz = _
    rw [if_pos h]; rfl
theorem o_fmtI (h : i.natAbs.log2 < 1920) (q : k (.fz (.str (toString i)))) : Wo (opFmt (.fz (.int i))) k := by
  with_unfolding_all
    exact (wo (if_pos h) q)
theorem o_fmtS {s : Str} (h : s.length ≤ sizeLine) (q : k (.fz (.str s))) : Wo (opFmt (.fz (.str s))) k := by
  with_unfolding_all
    exact (wo (if_pos h) q)
theorem o_gcd (q : k (.fz (.int ((Nat.gcd i.natAbs j.natAbs : Nat) : Int)))) : Wo (opGcd [.fz (.int i), .fz (.int j)]) k := by
  with_unfolding_all
    exact (q)
theorem o_lenT {xs : List Dat} (q : k (.fz (.int (xs.length : Int)))) : Wo (opLen [.fz (.tup xs)]) k := by
  with_unfolding_all
    exact (q)
theorem o_lenL {xs : List Dat} (q : k (.fz (.int (xs.length : Int)))) : Wo (opLen [.fz (.lst xs)]) k := by
  with_unfolding_all
    exact (q)
theorem o_lenK {xs : List Int} (q : k (.fz (.int (xs.length : Int)))) : Wo (opLen [.fz (.kst xs)]) k := by
  with_unfolding_all
    exact (q)
theorem o_lenO {xs : List OT} (q : k (.fz (.int (xs.length : Int)))) : Wo (opLen [.lst xs]) k := by
  with_unfolding_all
    exact (q)
theorem o_lenS {s : Str} (h : s.length ≤ sizeLine) (q : k (.fz (.int (s.length : Int)))) : Wo (opLen [.fz (.str s)]) k := by
  with_unfolding_all
    refine wo (x := .fz (.int (s.length : Int))) ?_ q
    unfold opLen lenO
    simp only
    rw [if_pos h]; rfl
theorem atI_at {α : Type} {xs : List α} {n : Nat} {x : α} (h : xs[n]? = some x) : L2.atI xs (n : Int) = some x := L2.atI_nat h
theorem atI_int {α : Type} {xs : List α} {i : Int} {x : α} (h0 : 0 ≤ i) (h : xs[i.toNat]? = some x) : L2.atI xs i = some x := by
  have : i = ((i.toNat : Nat) : Int) := by omega
  rw [this]; exact L2.atI_nat h
theorem o_ixT {xs : List Dat} {d : Dat} (h : L2.atI xs i = some d) (q : k (.fz d)) : Wo (opIx (.fz (.tup xs)) (.fz (.int i))) k := by
  with_unfolding_all
    exact (wo (x := .fz d) (by show (L2.atI xs i).map OT.fz = _; rw [h]; rfl) q)
theorem o_ixL {xs : List Dat} {d : Dat} (h : L2.atI xs i = some d) (q : k (.fz d)) : Wo (opIx (.fz (.lst xs)) (.fz (.int i))) k := by
  with_unfolding_all
    exact (wo (x := .fz d) (by show (L2.atI xs i).map OT.fz = _; rw [h]; rfl) q)
theorem o_ixK {xs : List Int} {d : Int} (h : L2.atI xs i = some d) (q : k (.fz (.int d))) : Wo (opIx (.fz (.kst xs)) (.fz (.int i))) k := by
  with_unfolding_all
    exact (wo (x := .fz (.int d)) (by show (L2.atI xs i).map (fun n => OT.fz (.int n)) = _; rw [h]; rfl) q)
theorem o_ixO {os : List OT} {xs : List Dat} {d : Dat} (h1 : allFz os = some xs) (h : L2.atI xs i = some d) (q : k (.fz d)) : Wo (opIx (.lst os) (.fz (.int i))) k := by
  with_unfolding_all
    exact (wo (x := .fz d) (by
      show (match allFz os with | some xs => (L2.atI xs i).map OT.fz | none => none) = _
      rw [h1]; show (L2.atI xs i).map OT.fz = _; rw [h]; rfl) q)
theorem o_isN {x : OT} (q : k (.fz (.bl (isNonO x)))) : Wo (opIs false x (.fz .non)) k := by
  with_unfolding_all
    exact (q)
theorem o_isB {x : OT} {b : Bool} (q : k (.fz (.bl (isBlO b x)))) : Wo (opIs false x (.fz (.bl b))) k := by
  with_unfolding_all
    exact (q)
theorem o_isnN {x : OT} (q : k (.fz (.bl (!isNonO x)))) : Wo (opIs true x (.fz .non)) k := by
  with_unfolding_all
    exact (q)
theorem o_isnB {x : OT} {b : Bool} (q : k (.fz (.bl (!isBlO b x)))) : Wo (opIs true x (.fz (.bl b))) k := by
  with_unfolding_all
    exact (q)
theorem o_join {s : Str} {x : OT} {ds : List Dat} {ys : List Str} (h1 : asSq x = some ds) (h2 : strsD ds = some ys) (h : (ys.map (·.length)).sum + ys.length * s.length ≤ 16777216) (q : k (.fz (.str (Txt.join s ys)))) : Wo (opJoin (.fz (.str s)) [x]) k := by
  with_unfolding_all
    refine wo (x := .fz (.str (Txt.join s ys))) ?_ q
    unfold opJoin
    simp only [h1, Option.bind, h2]
    exact if_pos h
theorem o_all {x : OT} {ds : List Dat} {bs : List Bool} (h1 : asL x = some ds) (h2 : blsD ds = some bs) (q : k (.fz (.bl (bs.all id)))) : Wo (opAll [x]) k := by
  with_unfolding_all
    refine wo (x := .fz (.bl (bs.all id))) ?_ q
    unfold opAll
    simp only [h1, Option.bind, h2]
theorem blsD_map (bs : List Bool) : blsD (bs.map .bl) = some bs := by
  induction bs with
  | nil => rfl
  | cons b r ih => show (match blsD (r.map Dat.bl) with | some bs => some (b :: bs) | none => none) = _; rw [ih]
theorem strsD_map (bs : List Str) : strsD (bs.map .str) = some bs := by
  induction bs with
  | nil => rfl
  | cons b r ih => show (match strsD (r.map Dat.str) with | some bs => some (b :: bs) | none => none) = _; rw [ih]
theorem intsD_map (bs : List Int) : intsD (bs.map .int) = some bs := by
  induction bs with
  | nil => rfl
  | cons b r ih => show (match intsD (r.map Dat.int) with | some bs => some (b :: bs) | none => none) = _; rw [ih]
theorem frzs_map (ds : List Dat) : frzs (ds.map .fz) = ds := by
  induction ds with
  | nil => rfl
  | cons d r ih => show d :: frzs (r.map OT.fz) = _; rw [ih]
/-- isinstance, by the kind of the value -/
def isiD : Dat → String → Bool
  | .non, T => T == "NoneType"
  | .bl _, T => T == "bool" || T == "int"
  | .int _, T => T == "int"
  | .str _, T => T == "str"
  | .tup _, T => T == "tuple"
  | .lst _, T => T == "list"
  | .kst _, T => T == "list"
  | .dic _, T => T == "dict"
theorem o_isi {d : Dat} {T : String} (hT : T ∈ ["int", "bool", "str", "tuple", "list", "dict"]) (q : k (.fz (.bl (isiD d T)))) : Wo (opIsi T (.fz d)) k := by
  with_unfolding_all
    refine wo (x := .fz (.bl (isiD d T))) ?_ q
    have key : ∀ T' ∈ ["int", "bool", "str", "tuple", "list", "dict"], ∀ x ∈ ["NoneType", "bool", "int", "str", "tuple", "list", "dict"], kitB x T' = some (x == T' || (x == "bool" && T' == "int")) := by decide +kernel
    unfold opIsi
    cases d <;> (rw [show kitB (tyNm _) T = _ from key T hT _ (by simp [tyNm])]; simp only [Option.map, isiD, tyNm])
    all_goals (simp only [List.mem_cons, List.not_mem_nil, or_false] at hT; rcases hT with rfl | rfl | rfl | rfl | rfl | rfl <;> rfl)
theorem o_app {os : List OT} {d : Dat} {k : OT × OT → Prop} (h : os.length < sizeLine) (q : k (.lst (os ++ [.fz d]), .fz .non)) : Wo (muF muAppend (.lst os) [.fz d]) k := by
  with_unfolding_all
    refine wo (x := (.lst (os ++ [.fz d]), .fz .non)) ?_ q
    show (if os.length < sizeLine then _ else none) = _
    rw [if_pos h]
    rfl
theorem o_setL {os : List OT} {d : Dat} {n : Nat} {k : OT × OT → Prop} (h : ixN os.length i = some n) (q : k (.lst (os.set n (.fz d)), .fz .non)) : Wo (muF muSetL (.lst os) [.fz (.int i), .fz d]) k := by
  with_unfolding_all
    refine wo (x := (.lst (os.set n (.fz d)), .fz .non)) ?_ q
    show (match ixN os.length i with | some j => some (OT.lst (os.set j (.fz d)), OT.fz .non) | none => none) = _
    rw [h]
end
/-- a name whose content is of no weight -/
def Jk (s : Sl) : Prop := s = .un ∨ ∃ o, s = .vl o
theorem jk_un : Jk .un := .inl rfl
theorem jk_vl {o : OT} : Jk (.vl o) := .inr ⟨o, rfl⟩
theorem w_gJ {i : Nat} {o : OT} {ρ : Env} {s : Sl} {Q : Unit → Env → Prop} {E : Exn → Env → Prop} (e : ρ[i]? = some s) (h : Jk s) (q : Q () (ρ.set i (.vl o))) : Wp (gNm i o) ρ Q E := by
  with_unfolding_all
    exact (w_gNm (by rw [e]; rcases h with rfl | ⟨o, rfl⟩ <;> rfl) q)
theorem rng_inv {lo : Int} {n k : Nat} {d : Dat} (h : (rngL lo n)[k]? = some d) : k < n ∧ d = .int (lo + k) := by
  have hk : k < n := by
    have := (List.getElem?_eq_some_iff.mp h).1
    rw [rngL_length] at this
    exact this
  rw [rngL_get n lo k hk] at h
  exact ⟨hk, (Option.some.inj h).symm⟩
/-- a statement cut out: R holds behind it -/
theorem ws_J {g : SM} {ρ : Env} {D : En} (R : Env → Prop) (q : Ws g ρ { nx := R, bk := D.bk, ct := D.ct, rt := D.rt, ex := D.ex }) (h : ∀ ρ, R ρ → D.nx ρ) : Ws g ρ D := by
  with_unfolding_all
    exact (q.mono h (fun _ h => h) (fun _ h => h) (fun _ _ h => h) (fun _ _ h => h))
theorem rng_mem {lo : Int} {n : Nat} {d : Dat} (h : d ∈ rngL lo n) : ∃ k, k < n ∧ d = .int (lo + (k : Nat)) := by
  obtain ⟨k, hk⟩ := List.mem_iff_getElem?.mp h
  exact ⟨k, rng_inv hk⟩
theorem fm_none {α β : Type} (l : List α) : l.filterMap (fun _ => (none : Option β)) = [] := by
  induction l with
  | nil => rfl
  | cons a r ih => rw [List.filterMap_cons]; exact ih
theorem fm_some {α β : Type} (f : α → β) (l : List α) : l.filterMap (fun a => some (f a)) = l.map f := by
  induction l with
  | nil => rfl
  | cons a r ih => rw [List.filterMap_cons, List.map_cons]; exact congrArg _ ih
theorem w_back {ρ : Env} {io : Option Nat} {as : List Arg} {r out : OT} {k : Env → Prop} (h : solidO out = false) (q : Wo ((frzAll (ioSlot io as) (slotsOf as) ρ).bind fun ρ1 => putIo ρ1 (ioSlot io as) out) k) : Wo (backW ρ io as r out) k := by
  with_unfolding_all
    unfold backW backA
    rw [h, Bool.and_false]
    exact q
/-- an expression whose value is known, cut out -/
theorem w_JV {α : Type} {f : M α} {ρ : Env} {Q : α → Env → Prop} {E : Exn → Env → Prop} (v : α) (q : Wp f ρ (fun a ρ' => a = v ∧ ρ' = ρ) E) (h : Q v ρ) : Wp f ρ Q E := by
  with_unfolding_all
    exact (q.mono (fun a ρ' ⟨h1, h2⟩ => by rw [h1, h2]; exact h) fun _ _ z => z)
theorem w_backT {ρ : Env} {io : Option Nat} {as : List Arg} {r out : OT} {k : Env → Prop} (h : (solidO r && solidO out) = true) (q : Wo (putIo ρ (ioSlot io as) out) k) : Wo (backW ρ io as r out) k := by
  with_unfolding_all
    unfold backW backA
    rw [h]
    exact q
theorem solid_ints (ds : List Int) : solidO (.lst (ds.map fun d => .fz (.int d))) = true := by
  show solidOs (ds.map fun d => .fz (.int d)) = true
  induction ds with
  | nil => rfl
  | cons d r ih => show (solidO (.fz (.int d)) && solidOs (r.map fun d => .fz (.int d))) = true; rw [ih]; rfl
theorem frzs_ints (ds : List Int) : frzs (ds.map fun d => .fz (.int d)) = ds.map .int := by
  induction ds with
  | nil => rfl
  | cons d r ih => show Dat.int d :: frzs (r.map fun d => .fz (.int d)) = _; rw [ih]; rfl
/-- a statement that changes nothing, cut out -/
theorem ws_JE {g : SM} {ρ : Env} {D : En} (q : Ws g ρ { nx := fun ρ' => ρ' = ρ, bk := D.bk, ct := D.ct, rt := D.rt, ex := D.ex }) (h : D.nx ρ) : Ws g ρ D := by
  with_unfolding_all
    exact (ws_J (fun ρ' => ρ' = ρ) q fun ρ' e => by rw [e]; exact h)
end Lay

namespace Lay
open PySem PySem.Spec L2

/-! ### code that is never reached: the function bad -/
def sBad : SM := fun _ => .bad
def xBad {α : Type} : M α := fun _ => .bad
section
variable {X : Cx} {W : WX}
theorem ds_bad {st : Stmt} : DS X W st sBad := ⟨fun pins s σ H D I q => by obtain ⟨_, _, _, _, _, z⟩ := q; exact z.elim⟩
theorem dss_bad {st : List Stmt} : DSs X W st sBad := ⟨fun pins s σ H D I q => by obtain ⟨_, _, _, _, _, z⟩ := q; exact z.elim⟩
theorem de_bad {e : Expr} : DE X W e xBad := ⟨fun pins s σ H Q I q => by obtain ⟨_, _, _, _, _, z⟩ := q; exact z.elim⟩
theorem dt_bad {e : Expr} : DT X W e xBad := ⟨fun pins s σ H Q I q => by obtain ⟨_, _, _, _, _, z⟩ := q; exact z.elim⟩
end
theorem un65 {k : Nat} {A : Around} (hr : Room k A) : A.units + 65 < cLine := by have := hr.un; omega

/-! ### in, not in -/
def anyEq (ds : List Dat) (d : Dat) : Bool := ds.any fun z => eqD z d
def inO (x y : OT) : Option Bool := match x, y with
  | .fz (.str s), .fz (.str t) => some (!(Builtin.Str.occurrences t s 0 t.length 1).isEmpty)
  | x, y => match asSq y with
    | some ds => if cmpOk 60 (frz x) && cmpOks 60 ds then some (anyEq ds (frz x)) else none
    | none => none
def opIn (neg : Bool) (x y : OT) : Option OT := (inO x y).map fun b => .fz (.bl (if neg then !b else b))
def rInA (K : PySem.W.Frag) (neg : Bool) : R2 := fun x y H Q => (∃ i j, x = .str i ∧ y = .str j ∧ Q (.bl (if neg then !(!(Builtin.Str.occurrences j i 0 j.length 1).isEmpty) else !(Builtin.Str.occurrences j i 0 j.length 1).isEmpty)) H) ∨
  ∃ d ds, Dp K H x d ∧ (Dp K H y (.list ds) ∨ Dp K H y (.tuple ds)) ∧ SeqAt.shaped d = true ∧ PyData.canLayAll0 ds = true ∧ Q (.bl (if neg then !ds.any (fun z => PyData.eqv z d) else ds.any fun z => PyData.eqv z d)) H
theorem op_inA {X : Cx} (hu : X.A.units + 65 < cLine) : OpR X (compareOp .In) (rInA X.K false) := fun pins s σ H x y v u Q I rx ry h => by
  rcases h with ⟨i, j, h1, h2, q⟩ | ⟨d, ds, hd, he, sd, se, q⟩
  · exact op_in_str pins s σ H x y v u Q I rx ry ⟨i, j, h1, h2, q⟩
  · obtain ⟨as, r1⟩ := Dp.reads I d x v hd rx
    rcases he with he | he
    · obtain ⟨bs, r2⟩ := Dp.reads I (.list ds) y u he ry
      exact SeqAt.in_list_reads r2 r1 se (SeqAt.canLay_of_shaped sd) (PyProof.Rows.room_in_shaped sd hu) ⟨.bl _, H, I, rfl, q⟩
    · obtain ⟨bs, r2⟩ := Dp.reads I (.tuple ds) y u he ry
      exact SeqAt.in_tuple_reads r2 r1 se (SeqAt.canLay_of_shaped sd) (PyProof.Rows.room_in_shaped sd hu) ⟨.bl _, H, I, rfl, q⟩
theorem op_notInA {X : Cx} (hu : X.A.units + 65 < cLine) : OpR X (compareOp .NotIn) (rInA X.K true) := fun pins s σ H x y v u Q I rx ry h => by
  rcases h with ⟨i, j, h1, h2, q⟩ | ⟨d, ds, hd, he, sd, se, q⟩
  · exact op_notin_str pins s σ H x y v u Q I rx ry ⟨i, j, h1, h2, q⟩
  · obtain ⟨as, r1⟩ := Dp.reads I d x v hd rx
    rcases he with he | he
    · obtain ⟨bs, r2⟩ := Dp.reads I (.list ds) y u he ry
      exact SeqAt.notIn_list_reads r2 r1 se (SeqAt.canLay_of_shaped sd) (PyProof.Rows.room_in_shaped sd hu) ⟨.bl _, H, I, rfl, q⟩
    · obtain ⟨bs, r2⟩ := Dp.reads I (.tuple ds) y u he ry
      exact SeqAt.notIn_tuple_reads r2 r1 se (SeqAt.canLay_of_shaped sd) (PyProof.Rows.room_in_shaped sd hu) ⟨.bl _, H, I, rfl, q⟩
theorem any_py : ∀ (ds : List Dat) (d : Dat) (n m : Nat) (ps : List PyData) (p : PyData), pyDs n ds = some ps → pyD m d = some p → ps.any (fun z => PyData.eqv z p) = anyEq ds d
  | [], d, n, m, ps, p, h1, h2 => by
    have : ps = [] := by cases n <;> (cases h1; rfl)
    subst this
    rfl
  | x :: ds, d, n, m, ps, p, h1, h2 => by
    have h1 : (match pyD n x, pyDs n ds with | some x, some xs => some (x :: xs) | _, _ => none) = some ps := by cases n <;> exact h1
    cases c1 : pyD n x with
    | none => rw [c1] at h1; cases h1
    | some y =>
      cases c2 : pyDs n ds with
      | none => rw [c1, c2] at h1; cases h1
      | some ys =>
        rw [c1, c2] at h1
        cases h1
        have ih := any_py ds d n m ys p c2 h2
        show (PyData.eqv y p || ys.any fun z => PyData.eqv z p) = (eqD x d || ds.any fun z => eqD z d)
        rw [eqD_py x d n m y p c1 h2, ih]
        rfl
theorem ok_in {K : PySem.W.Frag} {neg : Bool} : OpOk K (rInA K neg) (opIn neg) := fun G H o1 o2 v1 v2 f1 f2 o Q e r1 r2 c q => by
  unfold opIn at c
  cases h : inO o1 o2 with
  | none => rw [h] at c; cases c
  | some b =>
    rw [h] at c
    cases c
    unfold inO at h
    split at h
    · rename_i s t
      cases h
      exact .inl ⟨s, t, r1.2, r2.2, q.bl⟩
    · cases c1 : asSq o2 with
      | none => rw [c1] at h; cases h
      | some ds =>
        rw [c1] at h
        simp only at h
        split at h
        · rename_i g
          cases h
          rw [Bool.and_eq_true] at g
          obtain ⟨a, vs, rfl, hs, rd⟩ := asSq_ok e r2 c1
          obtain ⟨p, k1, k2, k3⟩ := cmp_py _ _ g.1
          obtain ⟨ps, l1, l2, l3⟩ := cmp_pys _ _ g.2
          have sh : SeqAt.shaped p = true := by
            unfold SeqAt.shaped
            rw [k2]
            simp only [Bool.true_and, decide_eq_true_eq]
            omega
          have da := RepDs.dp e ds 60 vs ps l1 rd
          refine .inr ⟨p, ps, RepD.dp (Ex.refl _) _ _ _ _ k1 (RepO.dat e r1), hs.imp (fun h => .lst h da) (fun h => .tup h da), sh, l2, ?_⟩
          rw [any_py ds (frz o1) 60 60 ps p l1 k1]
          exact q.bl
        · cases h
end Lay

namespace Lay
open PySem PySem.Spec L2

/-! ### x op= e of ints -/
abbrev opAddI : OT → OT → Option OT := opII (fun _ _ => true) fun i j => .int (i + j)
section
variable {X : Cx} {K : PySem.W.Frag}
theorem ip_mulA : PIp X .Mult (rI IntMulOk fun i j => .int (i * j)) := by
  intro pins s σ H x y v u Q I r1 r2 h
  obtain ⟨i, j, e1, e2, hc, q⟩ := h
  subst e1; subst e2
  obtain ⟨t, rfl⟩ := r1
  obtain ⟨t', rfl⟩ := r2
  exact PyProof.Rows.imul_int ⟨.int _, H, I.tok _, ⟨_, rfl⟩, q⟩ hc
theorem ip_fdivA : PIp X .FloorDiv (rI (fun _ j => j ≠ 0 ∧ j.natAbs.log2 < 9000) fun i j => .int (i.fdiv j)) := by
  intro pins s σ H x y v u Q I r1 r2 h
  obtain ⟨i, j, e1, e2, hc, q⟩ := h
  subst e1; subst e2
  obtain ⟨t, rfl⟩ := r1
  obtain ⟨t', rfl⟩ := r2
  exact PyProof.Rows.ifloordiv_int hc.1 ⟨.int _, H, I.tok _, ⟨_, rfl⟩, q⟩ (.inl (PyProof.noPylong_of_log2 hc.2))
theorem ipk_add : IpOk K (ipI fun i j => i + j) opAddI := fun G H o1 o2 v1 v2 f1 f2 o Q e r1 r2 c q => by
  obtain ⟨i, j, rfl, rfl, h, rfl⟩ := opII_ok c
  exact ⟨i, j, r1.2, r2.2, Res.same q rfl⟩
theorem ipk_sub : IpOk K (ipI fun i j => i - j) opSub := fun G H o1 o2 v1 v2 f1 f2 o Q e r1 r2 c q => by
  obtain ⟨i, j, rfl, rfl, h, rfl⟩ := opII_ok c
  exact ⟨i, j, r1.2, r2.2, Res.same q rfl⟩
theorem ipk_mul : IpOk K (rI IntMulOk fun i j => .int (i * j)) opMul := ok_mul
theorem ipk_fdiv : IpOk K (rI (fun _ j => j ≠ 0 ∧ j.natAbs.log2 < 9000) fun i j => .int (i.fdiv j)) opFdiv := ok_fdiv
end
/-! ### methods of texts -/
section
variable {K : PySem.W.Frag}
def opFind2 (x : OT) (os : List OT) : Option OT := match x, os with
  | .fz (.str a), [.fz (.str b), .fz (.int i)] => some (.fz (.int (Txt.find3 a b i)))
  | _, _ => none
def opFind3 (x : OT) (os : List OT) : Option OT := match x, os with
  | .fz (.str a), [.fz (.str b), .fz (.int i), .fz (.int j)] => some (.fz (.int (Txt.findIn a b i j)))
  | _, _ => none
theorem RepV.three {G H : Hp} {o o' o'' : OT} {vs : List V} (h : RepV K G H [o, o', o''] vs) : ∃ v v' v'' f f' f'', vs = [v, v', v''] ∧ RepO K G H o v f ∧ RepO K G H o' v' f' ∧ RepO K G H o'' v'' f'' := by
  obtain ⟨v, r, f, rfl, h1, h⟩ := h
  obtain ⟨v', r', f', rfl, h2, h⟩ := h
  obtain ⟨v'', r'', f'', rfl, h3, h⟩ := h
  cases (show r'' = [] from h)
  exact ⟨_, _, _, _, _, _, rfl, h1, h2, h3⟩
theorem ok_find3 : MethOk K "str" (fun x xs H Q => ∃ (a b : Str) (i : Int), x = .str a ∧ xs = [.str b, .int i] ∧ Q (.int (Txt.find3 a b i)) H) opFind2 := fun G H x os v vs f o Q e r1 r2 c q => by
  unfold opFind2 at c
  split at c
  · cases c
    obtain ⟨w, w', g, g', rfl, h1, h2⟩ := r2.two
    rw [show w = .str _ from h1.2, show w' = .int _ from h2.2]
    exact ⟨_, _, _, r1.2, rfl, q.int⟩
  · cases c
theorem ok_find4 : MethOk K "str" (fun x xs H Q => ∃ (a b : Str) (i j : Int), x = .str a ∧ xs = [.str b, .int i, .int j] ∧ Q (.int (Txt.findIn a b i j)) H) opFind3 := fun G H x os v vs f o Q e r1 r2 c q => by
  unfold opFind3 at c
  split at c
  · cases c
    obtain ⟨w, w', w'', g, g', g'', rfl, h1, h2, h3⟩ := r2.three
    rw [show w = .str _ from h1.2, show w' = .int _ from h2.2, show w'' = .int _ from h3.2]
    exact ⟨_, _, _, _, r1.2, rfl, q.int⟩
  · cases c
end
end Lay

namespace Lay
open PySem PySem.Spec L2

/-! ### e.replace of written texts: behind a written text (a token has been made) -/
abbrev DET (X : Cx) (W : WX) (e : Expr) (f : M Arg) : Prop := PET X e (tD (zp X W) f)
def opRepl (y z : Str) : OT → Option OT
  | .fz (.str x) => if x.length + (x.length + 1) * z.length ≤ 16777216 then some (.fz (.str (Txt.replace x y z))) else none
  | _ => none
theorem ok_repl {K : PySem.W.Frag} {y z : Str} : Op1Ok K (fun v H Q => ∃ x, v = .str x ∧ x.length + (x.length + 1) * z.length ≤ 16777216 ∧ Q (.str (Txt.replace x y z)) H) (opRepl y z) := fun G H o1 v1 f1 o Q e r1 c q => by
  unfold opRepl at c
  split at c
  · rename_i x
    by_cases h : x.length + (x.length + 1) * z.length ≤ 16777216
    · rw [if_pos h] at c
      cases c
      exact ⟨x, r1.2, h, q.str⟩
    · rw [if_neg h] at c; cases c
  · cases c
section
variable {X : Cx} {W : WX} {o e f : Expr} {fo ff : M Arg} {y z : Str} {j k : Nat} {c0 c1 apos pos : Pos}
theorem det_of (h : DE X W e fo) : DET X W e fo := CwR.PET.of h
theorem det_replC (ho : DE X W o fo) (hyz : (y == z) = false := by decide)
    (hst : starEach [.Constant (.str y) j c0, .Constant (.str z) k c1] X.env = [(false, eval (.Constant (.str y) j c0) X.env), (false, eval (.Constant (.str z) k c1) X.env)] := by rfl)
    (hbase : attributeBase o "replace" X.env (eval o X.env) = eval o X.env := by rfl) (hline : (apos.endLine == pos.line) = true := by rfl) :
    DET X W (.Call (.Attribute o "replace" apos) [.Constant (.str y) j c0, .Constant (.str z) k c1] [] pos) (x1 (opRepl y z) fo) := fun pins s σ H Q h0 I q =>
  CwR.pet_replC ho hyz hst hbase hline pins s σ H Q h0 I (t1_op (Z := zp X W) ok_repl q)
theorem det_replT (ho : DET X W o fo) (hyz : (y == z) = false := by decide)
    (hst : starEach [.Constant (.str y) j c0, .Constant (.str z) k c1] X.env = [(false, eval (.Constant (.str y) j c0) X.env), (false, eval (.Constant (.str z) k c1) X.env)] := by rfl)
    (hbase : attributeBase o "replace" X.env (eval o X.env) = eval o X.env := by rfl) (hline : (apos.endLine == pos.line) = true := by rfl) :
    DET X W (.Call (.Attribute o "replace" apos) [.Constant (.str y) j c0, .Constant (.str z) k c1] [] pos) (x1 (opRepl y z) fo) := fun pins s σ H Q h0 I q =>
  CwR.pet_replT ho hyz hst hbase hline pins s σ H Q h0 I (t1_op (Z := zp X W) ok_repl q)
theorem pe_opST {op : Operator} {r : R2} {tf : TE} {x : Str} (ho : OpR X (binaryOp op) r) (hb : PET X f tf) : PE X (.BinOp (.Constant (.str x) j c0) op f pos) (tOp r (tC (.str x)) tf) := by
  refine ⟨fun pins s σ H Q I h => ?_⟩
  refine wpAny_BinOp (Calls.Constant_str ?_)
  exact thn (hb pins _ σ H _ (Nat.le_add_left 1 s.toks) (I.tok _) h) fun u s2 ⟨y, H2, I2, r2, q2⟩ => ho pins s2 σ H2 (.str x) y _ u Q I2 ⟨_, rfl⟩ r2 q2
theorem de_opST {op : Operator} {r : R2} {x : Str} {ok : OT → OT → Option OT} (ho : OpR X (binaryOp op) r) (hk : OpOk X.K r ok) (hb : DET X W f ff) : DE X W (.BinOp (.Constant (.str x) j c0) op f pos) (x2 ok (xD (.str x)) ff) :=
  pe_imp (pe_opST ho hb) fun σ H Q q => by
    have q := t2_op (Z := zp X W) hk q
    obtain ⟨T, P, ρ, fs, rp, q⟩ := q
    exact q (.str x) H fs [] ⟨rp.tl0, .nil, (fun _ z => nomatch z), rfl, rfl⟩ (Fr.refl.imp fun x z => z.elim (fun z => nomatch z) id)
end
/-! ### int(text) -/
def opIntA : List OT → Option OT
  | [.fz (.str a)] => if a.length ≤ 640 then (PySem.intText? a).map fun n => .fz (.int n) else none
  | os => opInt os
theorem ok_intA {K : PySem.W.Frag} : CallOk K (fun xs H Q => ((∃ i, xs = [.int i] ∧ Q (.int i) H) ∨ ∃ k, xs = [.bl k] ∧ Q (.int (if k then 1 else 0)) H) ∨ ∃ a n, xs = [.str a] ∧ PySem.intText? a = some n ∧ a.length ≤ 640 ∧ Q (.int n) H) opIntA := fun G H os vs o Q e r c q => by
  unfold opIntA at c
  split at c
  · rename_i a
    by_cases h : a.length ≤ 640
    · rw [if_pos h] at c
      cases hn : PySem.intText? a with
      | none => rw [hn] at c; cases c
      | some n =>
        rw [hn] at c
        cases c
        obtain ⟨v, f, rfl, r1⟩ := r.one
        cases (show v = .str _ from r1.2)
        exact .inr ⟨a, n, rfl, hn, h, q.int⟩
    · rw [if_neg h] at c; cases c
  · exact .inl (ok_int G H _ vs o Q e r c q)
end Lay

namespace Lay
open PySem PySem.Spec L2

/-! ### more rules backwards -/
section
variable {ρ : Env} {E : Exn → Env → Prop} {D : En}
theorem w_NoPart {Q : Option Int → Env → Prop} (q : Q none ρ) : Wp xNoPart ρ Q E := by with_unfolding_all exact q
theorem w_Part {f : M Arg} {Q : Option Int → Env → Prop} (h : Wp f ρ (fun a ρ1 => Wo (asIx ρ1 a) fun i => Q (some i) ρ1) E) : Wp (xPart f) ρ Q E := by
  refine Wp.bind (Wp.mono h (fun a ρ1 h => ?_) fun _ _ z => z)
  with_unfolding_all
    cases e : asIx ρ1 a with
    | none => rw [e] at h; exact h.elim
    | some i =>
      rw [e] at h
      unfold Wp
      simp only [e]
      exact h
theorem w_Sl {op : OT → Option Int → Option Int → Option OT} {f : M Arg} {lo hi : M (Option Int)} {Q : Arg → Env → Prop} (h : Wp f ρ (fun a ρ1 => Wp lo ρ1 (fun l ρ2 => Wp hi ρ2 (fun r ρ3 => Wo (look ρ3 a) fun x => Wo (op x l r) fun o => Q (.tmp o) ρ3) E) E) E) : Wp (xSl op f lo hi) ρ Q E := by
  refine Wp.bind (Wp.mono h (fun a ρ1 h => Wp.bind (Wp.mono h (fun l ρ2 h => Wp.bind (Wp.mono h (fun r ρ3 h => ?_) fun _ _ z => z)) fun _ _ z => z)) fun _ _ z => z)
  with_unfolding_all
    cases e : look ρ3 a with
    | none => rw [e] at h; exact h.elim
    | some x =>
      rw [e] at h
      cases e2 : op x l r with
      | none =>
        have h : Wo (op x l r) _ := h
        rw [e2] at h
        exact h.elim
      | some o =>
        have h : Wo (op x l r) _ := h
        rw [e2] at h
        unfold Wp
        simp only [e, e2]
        exact h
theorem ws_aug {i : Nat} {op : OT → OT → Option OT} {f : M Arg} (q : Wp (x2 op (xVar i) f) ρ (fun a ρ1 => ∃ o, a = .tmp o ∧ Wp (gNm i o) ρ1 (fun _ ρ2 => D.nx ρ2) D.ex) D.ex) : Ws (sAug i op f) ρ D := by
  refine Ws.rs (Wp.mono q (fun a ρ1 q => ?_) fun _ _ z => z)
  obtain ⟨o, rfl, q⟩ := q
  exact Ws.rs (f := gNm i o) (k := fun _ ρ2 => .nx ρ2) (q.mono (fun _ ρ2 z => by with_unfolding_all exact z) fun _ _ z => z)
end
section
variable {k : OT → Prop}
theorem o_slS {s : Str} {lo hi : Option Int} (h : s.length ≤ sizeLine) (q : k (.fz (.str (cutS s lo hi)))) : Wo (opSlA (.fz (.str s)) lo hi) k := wo (if_pos h) q
theorem o_addI {i j : Int} (q : k (.fz (.int (i + j)))) : Wo (opAddI (.fz (.int i)) (.fz (.int j))) k := wo rfl q
theorem o_in {x y : OT} {b neg : Bool} (h : inO x y = some b) (q : k (.fz (.bl (if neg then !b else b)))) : Wo (opIn neg x y) k := wo (by unfold opIn; rw [h]; rfl) q
theorem o_find2 {a b : Str} {i : Int} (q : k (.fz (.int (Txt.find3 a b i)))) : Wo (opFind2 (.fz (.str a)) [.fz (.str b), .fz (.int i)]) k := wo rfl q
theorem o_find3 {a b : Str} {i j : Int} (q : k (.fz (.int (Txt.findIn a b i j)))) : Wo (opFind3 (.fz (.str a)) [.fz (.str b), .fz (.int i), .fz (.int j)]) k := wo rfl q
theorem o_tupL {ds : List Dat} (q : k (.fz (.tup ds))) : Wo (opTuple [.lst (ds.map .fz)]) k := by
  refine wo (x := .fz (.tup ds)) ?_ q
  unfold opTuple
  simp only [asSq, asT, asL_map]
  rfl
end
end Lay

namespace Lay
open PySem PySem.Spec L2

/-! ### the __init__ of an exception's class: super().__init__(e) first -/
/-- what the written part says of the class C and its __init__ at f (its cell __class__ at cc, its code at cda) -/
structure SupC (P : Program) (K : PySem.W.Frag) (mg : Str → Option Value) (C f cc cda : Addr) : Prop where
  o : OexC K C
  cls : ∃ cd, PySem.W.clsIn K C = some cd
  mro : PySem.W.mroIn K C (.ref C) = some true
  cell : ∃ cl0 cld csl, K.lookup cc = some ⟨cl0, cld, .cell (some (.ref C)), csl⟩
  up : PySem.W.ks_superIn K C C "__init__" = some (some (.builtin "ValueError.__init__"))
  sub : PySem.W.subIn K (.ref C) (.type "ValueError") = some true
  op : PySem.W.nsIn K cStatics "thirdparty.any" = some none
  sup : mg "super" = none
  code : ∃ ccl cdd vs ccs file tf, K.lookup cda = some ⟨ccl, cdd, .fields vs, ccs⟩ ∧ vs[2]? = some (.str file tf) ∧ ((P.main.file : Str) == file) = true
  top : (P.main.scope.names.lookup ("super" : Str)).isSome = false
theorem looks_inst {M : Model} {h : Heap} {x C : Addr} {ox : Obj} (hx : h.get? x = some ox) (hc : ox.cls = .ref C) {B : Value} {b : Bool} (hs : PySem.W.Looks M h (isSubtype (.ref C) B) b) : PySem.W.Looks M h (isInstance (.ref x) B) b := by
  have t : PySem.W.Looks M h (typeOf (.ref x)) (.ref C) := fun A Q E s k q => wpAny_typeOf_ref (k _ _ hx) (by rw [hc]; exact q)
  exact t.andThen hs
section
variable {P : Program} {w : World} {K : PySem.W.Frag} {mg : Str → Option Value} {base : Heap} {C f cc cda : Addr} {name qual : Str} {params : Arguments} {scope : Scope} {dV kV doc pm ct oc : Value} {an od : Option Addr} {osl : Array (Option Value)}
theorem fn_sup {N ps : List Str} {k : Nat} {sp : Sp} {e : Expr} {rest : List Stmt} {p0 p1 p2 p3 p4 : Pos} {ar : PySem.Arg} {pl : PySem.Env → Sem Bool}
    (T : SupC P K mg C f cc cda)
    (lk : K.lookup f = some ⟨oc, od, .func (PySem.W.ksFn name qual params (.Expr (.Call (.Attribute (.Call (.Name "super" p0) [] [] p1) "__init__" p2) [e] [] p3) p4 :: rest) scope dV kV doc pm an (.ref cda) ct cc), osl⟩)
    (hcd : PySem.W.codeIn K (.ref cda) qual = true) (S : NdefX.NScope N ps ["__class__"] scope) (hks : scope.names.lookup ("super" : Str) = some .globalImplicit)
    (har : (params.posonlyargs ++ params.args).head? = some ar) (hp0 : ps[0]? = some ar.arg)
    (len : ∀ vs H Q E, sp vs H Q E → vs.length = ps.length) (hse : ∀ env : PySem.Env, starEach [e] env = [(false, eval e env)])
    (hev : ∀ env : PySem.Env, eval (.Call (.Attribute (.Call (.Name "super" p0) [] [] p1) "__init__" p2) [e] [] p3) env = (do
      let ov ← attributeBase (.Call (.Name "super" p0) [] [] p1) "__init__" env (eval (.Call (.Name "super" p0) [] [] p1) env)
      standAt p2.atName
      let (f, first) ← holding [ov] (getMethod ov "__init__" (pl env))
      callWith p3 f first (backTo p3 (starEach [e] env)) []))
    (hsw : ∀ env : PySem.Env, swapsWith (.Call (.Attribute (.Call (.Name "super" p0) [] [] p1) "__init__" p2) [e] [] p3) none p4.line env = pure false)
    (hbody : ∀ (A : Around) (outer : List PySem.Env) (s : Shared) (H : Hp) (vs : List V) (Q : VK) (E : XK), sp vs H Q E →
      ∃ te t a, PE (NdefX.ncx (L2.CX P w) P w K mg base N ⟨name, qual, params, [], scope, [("__class__", cc)], cda⟩ f A outer s H E) e te ∧ PSs (NdefX.ncx (L2.CX P w) P w K mg base N ⟨name, qual, params, [], scope, [("__class__", cc)], cda⟩ f A outer s H E) rest t ∧
        vs[0]? = some (.ref a) ∧ H a = some (exo a C none) ∧ te (NdefX.startF N vs [none]) H fun _ H1 => H1 a = some (exo a C none) ∧ t { nx := fun _ H' => Q .non H', rt := Q } (NdefX.startF N vs [none]) H1) :
    FnOk P w K mg base (L2.CX P w) (k + 1) f (PySem.W.ksFn name qual params (.Expr (.Call (.Attribute (.Call (.Name "super" p0) [] [] p1) "__init__" p2) [e] [] p3) p4 :: rest) scope dV kV doc pm an (.ref cda) ct cc) ps sp := by
  refine ⟨len, fun A outer s H args us vs Q E hr e0 hb r hsp => ?_⟩
  have hl := len _ _ _ _ hsp
  have KX : K.In s.heap := e0.mod.kin.keeps fun b o e => (e0.bs b o e).1
  have lim : s.heap.NoLimit := e0.mod.nolimit.keeps fun b o e => (e0.bs b o e).1
  obtain ⟨te, t, a, he, ht, hv0, hHa, hq⟩ := hbody A outer s H vs Q E hsp
  obtain ⟨cl0, cld, csl, kcell⟩ := T.cell
  refine PySem.ks_codeAny_call_defAt hr.depth (KX _ _ lk) rfl lim (PySem.W.codeRec_of KX hcd) rfl hb (fun x hx => S.nocell x hx) (fun x hx => S.par x.1 (List.of_mem_zip hx).1) (fun h1 hns kp => ?_) S.co S.gen S.kind
  show PySem.wpAt (model P w) (A.deeper (NdefX.envF ⟨name, qual, params, [], scope, [("__class__", cc)], cda⟩ f s.heap.objs.size)) _ (execs _ (NdefX.envF ⟨name, qual, params, [], scope, [("__class__", cc)], cda⟩ f s.heap.objs.size)) _ _ _
  generalize hF : (⟨name, qual, params, [], scope, [("__class__", cc)], cda⟩ : NdefX.NF) = F at he ht
  have CA : NdefX.CellsAt F.cl ["__class__"] [none] s.heap H := by
    subst hF
    have lk1 : ∀ y c, ([("__class__", cc)] : List (Str × Addr)).lookup y = some c → y = "__class__" ∧ c = cc := fun y c e => by
      rw [List.lookup_cons] at e
      split at e
      · rename_i h
        exact ⟨by simpa using h, (Option.some.inj e).symm⟩
      · cases e
    refine ⟨rfl, fun y c e => ?_, fun x y c e1 e2 => (lk1 x c e1).1.trans (lk1 y c e2).1.symm, fun i y e => ?_⟩
    · obtain ⟨rfl, rfl⟩ := lk1 y c e
      exact ⟨(e0.bs _ _ (e0.mod.kin _ _ kcell)).2, _, _, KX _ _ kcell, rfl⟩
    · cases i with
      | zero =>
        have e : some ("__class__" : Str) = some y := e
        cases e
        exact ⟨cc, by simp, fun v z => by cases z⟩
      | succ i => simp at e
  have I := NdefX.inv_startN (CX := L2.CX P w) (E := E) (N := N) (f := f) (tk := s.toks + (ps.zip us).length) (by subst hF; exact S) hr.hd e0 hl r CA hns kp
  obtain ⟨cd, hcls⟩ := T.cls
  obtain ⟨ccl, cdd, cvs, ccs, file, tf, hcode, hvs, hfile⟩ := T.code
  have hkc : scope.names.lookup ("__class__" : Str) = some .free := S.frk _ (by simp)
  have hpmem : ar.arg ∈ ps := List.mem_of_getElem? hp0
  have hka : scope.names.lookup ar.arg = some .local := S.par _ hpmem
  -- the first argument
  obtain ⟨u0, hu0, ru0⟩ := r.get hv0
  obtain rfl : u0 = Value.ref a := ru0
  have ndP : ps.Nodup := by
    have q := S.nd.sublist (List.take_sublist (ps.length + [("__class__" : Str)].length) N)
    rw [S.pre] at q
    exact (List.nodup_append.mp q).1
  have hself := NdefX.zip_look ndP hp0 hu0
  have X1 : K.In h1 := KX.keeps kp
  obtain ⟨oD, hD1, hD2⟩ : ∃ oD, h1.get? C = some oD ∧ oD.data = .cls cd := by
    unfold PySem.W.clsIn at hcls
    split at hcls
    · rename_i c d cd' sl ho
      cases hcls
      exact ⟨_, X1 _ _ ho, rfl⟩
    · cases hcls
  obtain ⟨t1, hx0⟩ := exo_at e0.hok hHa
  have hx1 := kp _ _ hx0
  have hkF : F.scope = scope := by subst hF; rfl
  have hgl : (NdefX.envF F f s.heap.objs.size).globals = mainGlobals := rfl
  obtain ⟨mb, hmb, hbl⟩ := e0.mod.blt
  have hit : ∀ L, interactive (NdefX.envF F f L) = false := fun L => by
    have hk : F.scope.kind = .function := by rw [hkF]; exact S.kind
    unfold interactive
    show (F.scope.kind == .module && _) = false
    rw [hk]
    rfl
  refine PySem.ks_wpAt_execs_cons (PySem.ks_wpAt_Expr_any (PySem.ks_wpAt_MethodCall ?_ (hev _)) (hit _) (hsw _))
  subst hF
  refine PySem.ks_wpAt_super_base (f := f) (cc := cda) hks hkc (by decide +kernel) rfl (X1 _ _ lk) rfl har rfl (X1 _ _ hcode) rfl hvs hfile T.top ?_
  refine PySem.W.ks_loadName_global S.kind hks (PySem.Calls.loadGlobal_builtin (mg := mg) (mb := mb) ?_ T.sup ?_ ((hbl _ (by decide +kernel)).trans (by decide +kernel)) ⟨rfl, ?_⟩)
  · exact e0.mod.glob.keeps fun b o e => kp _ _ (e0.bs b o e).1
  · exact hmb.keeps fun b o e => kp _ _ (e0.bs b o e).1
  refine wpAny_loadName_free S.kind hkc (c := cc) (v := .ref C) (by rfl) ⟨_, X1 _ _ kcell, rfl⟩ ?_
  refine wpAny_loadName_local S.kind hka hns hself ?_
  refine ks_wpAny_isType_cls hD1 hD2 ⟨rfl, ?_⟩
  refine ks_wpAny_call_super hD1 hD2 hx1 rfl (fun c e => by cases e) (PySem.W.looks_mroIn X1 T.mro) (fun h2 e2 k2 => ?_)
  have X2 : K.In h2 := X1.keeps k2
  obtain ⟨nm, qn, N', bs, bm, sn, sub, ab, col, dd, k0, k1, k2', k3, k5, hC, hbm⟩ := T.o.cls
  have haC : a ≠ C := fun z => by
    have := (e0.bs _ _ (e0.mod.kin _ _ hC)).2
    rw [← z, hHa] at this
    cases this
  have hup : PySem.W.alongIn K "__init__" ((cd.mro.dropWhile (· != .ref C)).drop 1) = some (some (.builtin "ValueError.__init__")) := by
    have z := T.up
    unfold PySem.W.ks_superIn at z
    rw [hcls] at z
    exact z
  refine PySem.W.kxs_getMethod PySem.W.kxs_ValueError e2 (PySem.W.looks_opaque X2 T.op) (l₀ := cd.mro) (fun A Q E s k q => wpAny_bind ((PySem.W.looks_clsIn X2 hcls) A _ E s k (wpAny_pure q))) rfl X2 hup (looks_inst (k2 _ _ hx1) rfl (PySem.W.looks_subIn X2 T.sub)) haC (by decide +kernel) ?_
  generalize hh3 : h2.push (PySem.W.kxs_mw "ValueError.__init__" a) = h3
  have k3' : ∀ b o, h2.get? b = some o → h3.get? b = some o := fun b o e => by rw [← hh3]; exact Heap.get?_push_of_some _ e
  have hu3 : h3.get? h2.objs.size = some (PySem.W.kxs_mw "ValueError.__init__" a) := by rw [← hh3]; exact Heap.get?_push_at rfl rfl
  have k13 : ∀ b o, h1.get? b = some o → h3.get? b = some o := fun b o e => k3' _ _ (k2 _ _ e)
  have I2 := I.kept (h' := h2) (t' := s.toks + (ps.zip us).length) k2
  have hnu : H h2.objs.size = none := I2.hok.fresh (Nat.le_refl _)
  obtain ⟨f0, f1, f2, f3, f4, f5⟩ := I2.fpOk (b := h2.objs.size) (Nat.le_refl _) hnu
  have I3 := (I.kept (h' := h3) (t' := s.toks + (ps.zip us).length + 1) k13).pins_of (pins' := [(h2.objs.size, PySem.W.kxs_mw "ValueError.__init__" a)]) (fun p hp => by
    have hp : p = _ := List.mem_singleton.mp hp
    subst hp
    exact ⟨hu3, f0, f1, f2, fun v z => by cases z⟩)
  refine PySem.W.kxs_callWith (i := "ValueError.__init__") (x := a) (by rw [hse]; rfl) ?_
  rw [hse]
  refine PySem.Calls.evalArgs_plain ?_
  refine PySem.Calls.spliced_cons (thn (he.run _ _ _ H _ I3 hq) fun uv s4 h4 => ?_)
  obtain ⟨xv, H4, I4, rv4, hH4, hq4⟩ := h4
  have pinu := I4.pin (h2.objs.size, PySem.W.kxs_mw "ValueError.__init__" a) (List.mem_append_right _ (List.mem_singleton.mpr rfl))
  refine PySem.Calls.spliced_nil ⟨pinu.1, ?_⟩
  obtain ⟨t4, hx4⟩ := exo_at I4.hok hH4
  have hC4 := I4.kIn _ _ hC
  obtain ⟨hp4, g4, d4, tk4, os4⟩ := s4
  have hu4 : hp4.get? h2.objs.size = some (PySem.W.kxs_mw "ValueError.__init__" a) := pinu.1
  refine wpAny_call (codeAny_of_tree ?_)
  show wpAny _ _ (callAny (.ref h2.objs.size) ⟨[uv], []⟩) _ _ _
  unfold callAny
  refine wpAny_bind (wpAny_load hu4 ?_)
  simp only [PySem.W.kxs_mw]
  refine PySem.W.KFB.if_so (by decide) ?_
  refine wpAny_bind (PySem.W.check_bound_init PySem.F.excBase_ValueError.toExcCallFacts hC4 hx4 rfl ?_)
  refine wpAny_bind (wpAny_pure (wpAny_pure ⟨plainId_quiet PySem.F.excBase_ValueError.init.plain _, ?_⟩))
  refine codeAny_builtin PySem.F.excBase_ValueError.initEntry (PySem.W.exc_init_tree (cls := .ref C) (t0 := t4) (dv := none) (c2 := .none) (c3 := .none) (b4 := .bool false) hx4 (by show 1 ≤ 16777216; decide) fun h5 k5' e5 _ => ?_)
  have J := I4.write (t' := tk4) (x := a) (e := a) (o := exo a C none) (by rw [hH4]; exact True.intro) (.inl rfl) k5' ⟨_, e5⟩ (exo_ok e5)
  have eu : upd H4 a (exo a C none) = H4 := by
    funext b
    by_cases hb : b = a
    · subst hb; rw [upd_same, hH4]
    · rw [upd_ne hb]
  rw [eu] at J
  have J := J.unpinned (pins := [])
  refine PySem.wpAt_of_wpAny (wpAny_mono (ht.run [] _ _ H4 _ J hq4) (fun fl s' hs => ?_) fun e s' hs => hs)
  have close : ∀ {τ : St} {H6 : Hp} {y : V} {z : Value}, Inv (NdefX.ncx (L2.CX P w) P w K mg base N ⟨name, qual, params, [], scope, [("__class__", cc)], cda⟩ f A outer s H E) [] τ H6 s' → RelV y z → Q y H6 → CE outer P w H s Q z s' :=
    fun {τ H6 y z} J6 ry q6 => ⟨y, H6, J6.os, J6.bare, J6.base, J6.hok, ry, q6⟩
  cases fl with
  | ret z => obtain ⟨y, τ, H6, J6, ry, q6⟩ := hs; exact close J6 ry q6
  | next => obtain ⟨τ, H6, J6, q6⟩ := hs; exact close (y := V.non) (z := Value.none) J6 rfl q6
  | brk => obtain ⟨τ, H6, _, q6⟩ := hs; cases q6
  | cont => obtain ⟨τ, H6, _, q6⟩ := hs; cases q6
end
end Lay

namespace Lay
open PySem PySem.Spec L2

/-! ### what an exception's __init__ is worth -/
/-- what is handed to an exception: small ints, texts -/
def sV : Dat → V
  | .int i => .int i
  | .str s => .str s
  | _ => .non
def scal : Dat → Bool
  | .int i => decide (i.natAbs.log2 < 1920)
  | .str s => decide (s.length ≤ 1000000)
  | _ => false
theorem scal_rep {d : Dat} (h : scal d = true) (K : PySem.W.Frag) (G : Hp) : RepD K G d (sV d) := by
  cases d <;> first | rfl | cases h
theorem scal_cases {d : Dat} (h : scal d = true) : (∃ i : Int, d = .int i ∧ i.natAbs.log2 < 1920) ∨ ∃ s : Str, d = .str s ∧ s.length ≤ 1000000 := by
  cases d with
  | int i => exact .inl ⟨i, rfl, of_decide_eq_true h⟩
  | str s => exact .inr ⟨s, rfl, of_decide_eq_true h⟩
  | _ => cases h
/-- __init__ of a class with the fields fns, each given its argument -/
def spI (C : Addr) (fns : List Str) : Sp := fun vs H Q _ => ∃ (a : Addr) (ds : List Dat), vs = .ref a :: ds.map sV ∧ ds.length = fns.length ∧ ds.all scal = true ∧ H a = some (exo a C none) ∧
  ∀ dx, H dx = none → dx ≠ a → Q .non (upd (upd H dx (exd dx (fns.zip (ds.map sV)).reverse)) a (exo a C (some dx)))
section
variable {P : Program} {w : World} {K : PySem.W.Frag} {mg : Str → Option Value} {base : Heap} {C f cc cda : Addr} {name qual : Str} {params : Arguments} {scope : Scope} {dV kV doc pm ct oc : Value} {an od : Option Addr} {osl : Array (Option Value)}
theorem init1 {k : Nat} {e : Expr} {p0 p1 p2 p3 p4 q1 q2 q3 q4 : Pos} {ar : PySem.Arg} {pl : PySem.Env → Sem Bool} {x fld : Str} {te : TE}
    (T : SupC P K mg C f cc cda) (hno : PySem.W.findIn K (.ref C) fld = some none)
    (lk : K.lookup f = some ⟨oc, od, .func (PySem.W.ksFn name qual params [.Expr (.Call (.Attribute (.Call (.Name "super" p0) [] [] p1) "__init__" p2) [e] [] p3) p4, .Assign [.Attribute (.Name "self" q1) fld q2] (.Name x q3) q4] scope dV kV doc pm an (.ref cda) ct cc), osl⟩)
    (hcd : PySem.W.codeIn K (.ref cda) qual = true) (S : NdefX.NScope ["self", x, "__class__"] ["self", x] ["__class__"] scope) (hks : scope.names.lookup ("super" : Str) = some .globalImplicit)
    (har : (params.posonlyargs ++ params.args).head? = some ar) (hp0 : ar.arg = "self") (hse : ∀ env : PySem.Env, starEach [e] env = [(false, eval e env)])
    (hev : ∀ env : PySem.Env, eval (.Call (.Attribute (.Call (.Name "super" p0) [] [] p1) "__init__" p2) [e] [] p3) env = (do
      let ov ← attributeBase (.Call (.Name "super" p0) [] [] p1) "__init__" env (eval (.Call (.Name "super" p0) [] [] p1) env)
      standAt p2.atName
      let (f, first) ← holding [ov] (getMethod ov "__init__" (pl env))
      callWith p3 f first (backTo p3 (starEach [e] env)) []))
    (hsw : ∀ env : PySem.Env, swapsWith (.Call (.Attribute (.Call (.Name "super" p0) [] [] p1) "__init__" p2) [e] [] p3) none p4.line env = pure false)
    (hsw2 : ∀ env : PySem.Env, swapsWith (.Name x q3) (some (.Attribute (.Name "self" q1) fld q2)) q4.line env = pure false) (hdx : (x == ("__debug__" : Str)) = false) (hdc : (x == ("__classdict__" : Str)) = false)
    (he : ∀ X : Cx, X.N[1]? = some x → Vis X.env.scope x → PE X e te) (hte : ∀ (σ : St) (d : Dat) (H : Hp) (R : Hp → Prop), σ[1]? = some (some (sV d)) → scal d = true → R H → te σ H fun _ H1 => R H1) :
    FnOk P w K mg base (L2.CX P w) (k + 1) f (PySem.W.ksFn name qual params [.Expr (.Call (.Attribute (.Call (.Name "super" p0) [] [] p1) "__init__" p2) [e] [] p3) p4, .Assign [.Attribute (.Name "self" q1) fld q2] (.Name x q3) q4] scope dV kV doc pm an (.ref cda) ct cc) ["self", x] (spI C [fld]) := by
  refine fn_sup (N := ["self", x, "__class__"]) T lk hcd S hks har (by rw [hp0]; rfl) ?_ hse hev hsw fun A outer s H vs Q E q => ?_
  · rintro vs H Q E ⟨a, ds, rfl, hl, _⟩
    rw [List.length_cons, List.length_map, hl]; rfl
  · obtain ⟨a, ds, rfl, hl, hs, ha, q⟩ := q
    obtain ⟨d, rfl⟩ : ∃ d, ds = [d] := List.length_eq_one_iff.mp hl
    have hs : scal d = true := by simpa using hs
    have vx : Vis scope x := .inl (S.par x (by simp))
    have vs : Vis scope "self" := .inl (S.par "self" (by simp))
    refine ⟨te, _, a, he _ rfl vx, pss_one (ps_ost (pe_var (i := 0) (x := "self") rfl vs (by decide)) (pe_var (i := 1) (x := x) rfl vx hdx hdc) (hsw2 _)), rfl, ha, ?_⟩
    refine hte _ d H _ rfl hs ⟨ha, ?_⟩
    refine ⟨_, rfl, _, rfl, a, C, rfl, T.o, hno, .inl ⟨ha, fun dx n ne => ?_⟩⟩
    exact q dx n ne
end
end Lay

namespace Lay
open PySem PySem.Spec L2

/-! ### raise C(x, ..) -/
/-- the class c of ours: its fields fns, its __init__ at level k -/
structure XCl (P : Program) (w : World) (K : PySem.W.Frag) (mg : Str → Option Value) (base : Heap) (c : Str) (fns : List Str) (k : Nat) : Prop where
  ex : ∃ (C fI : Addr) (fd : FuncData) (ps : List Str), OexC K C ∧ PySem.W.findIn K (.ref C) "__init__" = some (some (.ref fI)) ∧ PySem.W.typeIn K (.ref fI) = some (.type "function") ∧
    FnOk P w K mg base (L2.CX P w) k fI fd ps (spI C fns) ∧ Binds K fd ps [] ∧ mg c = some (.ref C)
def excOf (c : Str) (fns : List Str) (os : List OT) : Option Exn := match allFz os with
  | some ds => if ds.all scal && ds.length == fns.length && decide (ds.length ≤ 100) then some ⟨c, (fns.zip ds).reverse⟩ else none
  | none => none
def sRaise (c : Str) (fns : List Str) (fa : M (List Arg)) : SM := fun ρ => RS (fa ρ) fun as ρ1 => match looks ρ1 as with
  | some os => match excOf c fns os with
    | some x => .ex x ρ1
    | none => .bad
  | none => .bad
theorem rep_scal {K : PySem.W.Frag} {G : Hp} {d : Dat} {v : V} (h : scal d = true) (r : RepD K G d v) : v = sV d := by
  cases d <;> first | exact r | cases h
theorem repV_scal {K : PySem.W.Frag} {G H : Hp} : ∀ {ds : List Dat} {vs : List V}, ds.all scal = true → RepV K G H (ds.map .fz) vs → vs = ds.map sV
  | [], vs, _, r => r
  | d :: ds, vs, h, r => by
    simp only [List.all_cons, Bool.and_eq_true] at h
    obtain ⟨v, r', f, rfl, q1, q2⟩ := r
    rw [rep_scal h.1 q1.2, repV_scal h.2 q2]
    rfl
theorem repF_scal {K : PySem.W.Frag} {G : Hp} : ∀ {fns : List Str} {ds : List Dat}, ds.all scal = true → RepF K G (fns.zip ds) (fns.zip (ds.map sV))
  | [], ds, _ => by rw [List.zip_nil_left, List.zip_nil_left]; rfl
  | f :: fns, [], _ => rfl
  | f :: fns, d :: ds, h => by
    simp only [List.all_cons, Bool.and_eq_true] at h
    exact ⟨_, _, rfl, scal_rep h.1 K G, repF_scal h.2⟩
theorem RepF.app {K : PySem.W.Frag} {G : Hp} : ∀ {l m : List (Str × Dat)} {vs us : List (Str × V)}, RepF K G l vs → RepF K G m us → RepF K G (l ++ m) (vs ++ us)
  | [], m, vs, us, h1, h2 => by rw [show vs = [] from h1]; exact h2
  | (n, d) :: l, m, vs, us, h1, h2 => by
    obtain ⟨v, r', rfl, q1, q2⟩ := h1
    exact ⟨v, r' ++ us, rfl, q1, RepF.app q2 h2⟩
theorem RepF.rev {K : PySem.W.Frag} {G : Hp} : ∀ {l : List (Str × Dat)} {vs : List (Str × V)}, RepF K G l vs → RepF K G l.reverse vs.reverse
  | [], vs, h => by rw [show vs = [] from h]; rfl
  | (n, d) :: l, vs, h => by
    obtain ⟨v, r', rfl, q1, q2⟩ := h
    rw [List.reverse_cons, List.reverse_cons]
    exact (RepF.rev q2).app ⟨v, [], rfl, q1, rfl⟩
theorem upd_none_ne {H : Hp} {a : Addr} {o : HO} {b : Addr} {x : HO} (hn : H a = none) (e : H b = some x) : upd H a o b = some x := by
  rw [upd_ne (ne_of_none e hn)]; exact e
section
variable {X : Cx} {W : WX} {c : Str} {fns : List Str} {k : Nat} {p pos pos' : Pos} {e : Expr} {es : List Expr} {fa : M (List Arg)}
theorem ds_raise (hc : X.calm = true) (tk : Takes X W) (Q : XCl X.prog X.w X.K X.mg X.base c fns k) (hr : Room (k + 1) X.A) (ha : DA X W (e :: es) fa) (hg : Gl X c := by rfl)
    (hdb : (c == ("__debug__" : Str)) = false := by decide) (he : starEach (e :: es) X.env = (false, eval e X.env) :: starEach es X.env := by rfl) (hpl : (backTo pos (starEach es X.env)).any (·.1) = false := by rfl) :
    DS X W (.Raise (some (.Call (.Name c p) (e :: es) [] pos)) none pos') (sRaise c fns fa) := by
  obtain ⟨C, fI, fd, ps, T, iC, tI, F1, hb, hm⟩ := Q.ex
  refine ps_imp (ps_raise hc tk (pmk_oex T iC tI F1 hr hb .nil passL hg hm ha hdb he hpl)) fun D σ H h => ?_
  obtain ⟨T0, P, ρ, fs, rp, q⟩ := h
  refine ⟨T0, P, ρ, fs, rp, ?_⟩
  unfold sRaise at q
  cases e1 : fa ρ with
  | bad => rw [e1] at q; exact q
  | ex x ρ' => rw [e1] at q; exact q
  | ok as ρ1 =>
    rw [e1] at q
    intro vs H1 fs1 l1 r1 f1
    simp only [RS] at q
    cases c1 : looks ρ1 as with
    | none => simp only [c1] at q; exact q.elim
    | some os =>
    simp only [c1] at q
    cases c2 : excOf c fns os with
    | none => simp only [c2] at q; exact q.elim
    | some x =>
    simp only [c2] at q
    unfold excOf at c2
    cases c3 : allFz os with
    | none => simp only [c3] at c2; cases c2
    | some ds =>
    simp only [c3] at c2
    split at c2
    · rename_i hok
      cases c2
      simp only [Bool.and_eq_true, beq_iff_eq, decide_eq_true_eq] at hok
      obtain ⟨⟨hs, hl⟩, h100⟩ := hok
      have ev := allFz_eq c3
      subst ev
      have rv := repV_scal hs (see_all r1.rp r1.ar c1)
      subst rv
      refine ⟨by rw [List.length_map]; omega, fun a ha => ⟨a, ds, by rw [List.append_nil], hl, hs, upd_same, fun dx n ne => ?_⟩⟩
      have n1 : H1 dx = none := by rw [upd_ne ne] at n; exact n
      refine ⟨rfl, dx, _, upd_same, by rw [upd_ne ne, upd_same], n1, ?_⟩
      have eH : upd (del (upd (upd (upd H1 a (exo a C none)) dx (exd dx (fns.zip (ds.map sV)).reverse)) a (exo a C (some dx))) a) dx (.xd (fns.zip (ds.map sV)).reverse) = upd H1 dx (.xd (fns.zip (ds.map sV)).reverse) := by
        funext b
        by_cases hd : b = dx
        · subst hd; rw [upd_same, upd_same]
        · rw [upd_ne hd, upd_ne hd]
          by_cases hb : b = a
          · subst hb; rw [del_same, ha]
          · rw [del_ne hb, upd_ne hb, upd_ne hd, upd_ne hb]
      rw [eH]
      exact q (.ref C) (some dx) σ _ fs1 ⟨hm, _, (repF_scal hs).rev, .inr ⟨dx, rfl, upd_same⟩⟩ (r1.rp.unl.grow (fun b x e => upd_none_ne n1 e) fun b z => .inl z) fun b y e no =>
        let ⟨h1, h2⟩ := f1 b y e no
        ⟨upd_none_ne n1 h1, fun z => h2 (.inr z)⟩
    · cases c2
end
end Lay

namespace Lay
open PySem PySem.Spec L2

/-! ### texts: <, >, ord, * -/
def opTT (p : Str → Str → Bool) (x y : OT) : Option OT := match x, y with
  | .fz (.str a), .fz (.str b) => some (.fz (.bl (p a b)))
  | _, _ => none
abbrev opLtS := opTT fun i j => decide (i.cps.toList < j.cps.toList)
abbrev opGtS := opTT fun i j => decide (j.cps.toList < i.cps.toList)
theorem ok_TT {K : PySem.W.Frag} (p : Str → Str → Bool) : OpOk K (fun x y H Q => ∃ i j, x = .str i ∧ y = .str j ∧ Q (.bl (p i j)) H) (opTT p) := fun G H o1 o2 v1 v2 f1 f2 o Q e r1 r2 c q => by
  unfold opTT at c
  split at c
  · cases c
    cases (show v1 = .str _ from r1.2)
    cases (show v2 = .str _ from r2.2)
    exact ⟨_, _, rfl, rfl, q.bl⟩
  · cases c
def opOrd : List OT → Option OT
  | [.fz (.str a)] => if a.length = 1 then some (.fz (.int (a.cps.getD 0 0 : Nat))) else none
  | _ => none
theorem ok_ord {K : PySem.W.Frag} : CallOk K (fun xs H Q => ∃ x, xs = [.str x] ∧ x.length = 1 ∧ Q (.int (x.cps.getD 0 0 : Nat)) H) opOrd := fun G H os vs o Q e r c q => by
  unfold opOrd at c
  split at c
  · split at c
    · rename_i a h
      cases c
      obtain ⟨v, f, rfl, r1⟩ := r.one
      cases (show v = .str _ from r1.2)
      exact ⟨_, rfl, h, q.int⟩
    · cases c
  · cases c
/-- text * number -/
def mulOk (x : Str) (n : Int) : Bool := decide (2 ≤ n) && decide (n ≤ 100000) && decide (x.length ≤ 100) && decide (1 ≤ x.length)
@[irreducible] def repS (x : Str) (n : Int) : Str := ⟨(List.replicate n.toNat x.cps).foldl (· ++ ·) #[]⟩
def opRepS (x y : OT) : Option OT := match x, y with
  | .fz (.str a), .fz (.int n) => if mulOk a n then some (.fz (.str (repS a n))) else none
  | _, _ => none
theorem op_repS {X : Cx} : OpR X (binaryOp .Mult) (fun x y H Q => ∃ i n, x = .str i ∧ y = .int n ∧ mulOk i n = true ∧ Q (.str (repS i n)) H) := by
  intro pins s σ H x y v u Q I rx ry h
  obtain ⟨i, n, rfl, rfl, hm, q⟩ := h
  obtain ⟨t, rfl⟩ := rx
  obtain ⟨t', rfl⟩ := ry
  unfold mulOk at hm
  simp only [Bool.and_eq_true, decide_eq_true_eq] at hm
  obtain ⟨⟨⟨h2, h5⟩, hx⟩, hx1⟩ := hm
  have hz : i.length * n.toNat ≤ 16777216 := by
    have : i.length * n.toNat ≤ 100 * 100000 := Nat.mul_le_mul hx (by omega)
    omega
  have c2 : (n == 1 || i.length == 0) = false := by
    rw [Bool.or_eq_false_iff]
    exact ⟨beq_eq_false_iff_ne.mpr (by omega), beq_eq_false_iff_ne.mpr (by omega)⟩
  have htl : PySem.Builtin.Str.tooLong (i.length * n.toNat) = false := decide_eq_false (by rw [sizeLine_eq]; omega)
  unfold repS at q
  refine PySem.P.mul_str ?_ (fun _ _ => ?_) (fun _ _ => ?_) ?_
  · rw [decide_eq_false (by omega), decide_eq_false (by omega)]; rfl
  · have h3 : (100 : Int) ≤ (2 ^ 63 - 1) / n := Int.le_ediv_of_mul_le (by omega) (by omega)
    have h4 : (i.length : Int) ≤ 100 := by exact_mod_cast hx
    omega
  · exact htl
  · rw [if_neg (by omega), c2, if_neg Bool.false_ne_true]
    exact ⟨fits_reps htl, .str _, H, I.tok _, ⟨_, rfl⟩, q⟩
theorem ok_repS {K : PySem.W.Frag} : OpOk K (fun x y H Q => ∃ i n, x = .str i ∧ y = .int n ∧ mulOk i n = true ∧ Q (.str (repS i n)) H) opRepS := fun G H o1 o2 v1 v2 f1 f2 o Q e r1 r2 c q => by
  unfold opRepS at c
  split at c
  · split at c
    · rename_i hm
      cases c
      cases (show v1 = .str _ from r1.2)
      cases (show v2 = .int _ from r2.2)
      exact ⟨_, _, rfl, rfl, hm, q.str⟩
    · cases c
  · cases c

/-! ### int(text), up to 4000 signs -/
section
open PySem.W PySem.W.KIN PySem.Calls PySem.NumText PyProof.Rows
theorem wp_textB {M : Model} {A : Around} {E : Value → Shared → Prop} {s : Shared} {Q : Value → Shared → Prop} {v : Value} {text : List Nat} {n : Int} {K : PySem.W.Frag}
    (X : K.In s.heap) (hK : PySem.W.nsIn K cStatics "sys.int_max_str_digits" = some none)
    (hs : ¬ (text.takeWhile (· != 0)).length ≤ 640) (hr : (int_private% "readNumeral") 4300 10 (text.takeWhile (· != 0)) = (int_private% "Numeral.value") n)
    (ha : ((text.takeWhile (· != 0)).length == text.length) = true) (h : Q (.int n s.toks) { s with toks := s.toks + 1 }) :
    wpAny M A ((int_private% "intFromText") v text 10) Q E s := by
  have L : ∀ {Q' : Nat → Shared → Prop}, Q' 4300 s → wpAny M A Builtin.intMaxStrDigits Q' E s := fun {Q'} q => by
    unfold Builtin.intMaxStrDigits
    exact wpAny_bind ((PySem.W.looks_nsIn X hK) A _ E s (fun _ _ z => z) (wpAny_pure q))
  obtain ⟨hp, g, d, tk, os⟩ := s
  repeat (any_goals (first
    | assumption
    | (with_reducible refine wpAny_ite_false (decide_eq_false hs) ?_)
    | (with_reducible refine L ?_)
    | (with_reducible refine wpAny_ite_true (decide_eq_true ha) ?_)
    | wp_step))
  all_goals (try rw [hr])
  all_goals (try dsimp only)
  repeat (any_goals (first
    | assumption
    | (with_reducible refine wpAny_ite_true (decide_eq_true hs) ?_)
    | (with_reducible refine wpAny_ite_true (decide_eq_true ha) ?_)
    | wp_step))
theorem call_int_textB {X : Cx} (hK : PySem.W.nsIn X.K cStatics "sys.int_max_str_digits" = some none) : CallR X (.type "int") (fun xs H Q => ∃ a n, xs = [.str a] ∧ PySem.intText? a = some n ∧ a.length ≤ 4000 ∧ Q (.int n) H) := by
  intro pins s σ H xs us Q I rs h
  obtain ⟨a, n, rfl, hn, hl, h⟩ := h
  cases rs with
  | cons r1 rs =>
    cases rs
    obtain ⟨t, rfl⟩ := r1
    by_cases h6 : a.length ≤ 640
    · exact PySem.W.KIN.call_text hn h6 ⟨.int n, H, I.tok _, ⟨_, rfl⟩, h⟩
    · refine call_int_1 (S := fun A R s => X.K.In s.heap ∧ R (.ok (.ret (.int n s.toks))) { s with toks := s.toks + 1 }) (fun prog w A R s1 hs1 => ?_) ⟨I.kIn, ?_⟩
      · obtain ⟨KI, q⟩ := hs1
        obtain ⟨hp, g, d, tk, os⟩ := s1
        have f1 := F.conv_sub_int
        have f2 := F.madeHere_int
        have f3 := PySem.W.KIN.str_int
        have f4 := PySem.W.KIN.str_idx
        have f5 := PySem.W.KIN.str_trunc
        have f6 : typeOf (.str a t) = pure (.type "str") := rfl
        by_cases hs : (numSeenOf a).length ≤ 640
        · have hr : (int_private% "readNumeral") 0 10 (numSeenOf a) = (int_private% "Numeral.value") n ∧ ((numSeenOf a).length == (numTextOf a).length) = true := by
            rcases read0 a hs with ⟨m, h1, h2, h3⟩ | ⟨h1, _⟩
            · rw [hn] at h1
              injection h1 with h1
              subst h1
              exact ⟨h3, h2⟩
            · rw [hn] at h1
              cases h1
          have hk := PySem.W.KIN.Hid.mk (And.intro hs hr)
          clear hs hr hl hn
          repeat (any_goals (first
            | assumption
            | ((with_reducible show wpAny _ _ ((int_private% "intFromText") _ _ _) _ _ _); refine PySem.W.KIN.wp_text hk.out.1 hk.out.2.1 hk.out.2.2 ?_)
            | wp_step))
        · have hr : (int_private% "readNumeral") 4300 10 (numSeenOf a) = (int_private% "Numeral.value") n ∧ ((numSeenOf a).length == (numTextOf a).length) = true := by
            rcases read4300 a (by rw [sizeLine_eq]; omega) with ⟨m, h1, h2, h3⟩ | ⟨h1, _⟩
            · rw [hn] at h1
              injection h1 with h1
              subst h1
              exact ⟨h3, h2⟩
            · rw [hn] at h1
              cases h1
          have hk := PySem.W.KIN.Hid.mk (And.intro hs hr)
          clear hs hr hl hn
          repeat (any_goals (first
            | assumption
            | ((with_reducible show wpAny _ _ ((int_private% "intFromText") _ _ _) _ _ _); refine wp_textB KI hK hk.out.1 hk.out.2.1 hk.out.2.2 ?_)
            | wp_step))
      · exact ⟨rfl, .int n, H, I.tok _, ⟨_, rfl⟩, h⟩
end
def opIntB : List OT → Option OT
  | [.fz (.str a)] => if a.length ≤ 4000 then (PySem.intText? a).map fun n => .fz (.int n) else none
  | _ => none
theorem ok_intB {K : PySem.W.Frag} : CallOk K (fun xs H Q => ∃ a n, xs = [.str a] ∧ PySem.intText? a = some n ∧ a.length ≤ 4000 ∧ Q (.int n) H) opIntB := fun G H os vs o Q e r c q => by
  unfold opIntB at c
  split at c
  · rename_i a
    by_cases h : a.length ≤ 4000
    · rw [if_pos h] at c
      cases hn : PySem.intText? a with
      | none => rw [hn] at c; cases c
      | some n =>
        rw [hn] at c
        cases c
        obtain ⟨v, f, rfl, r1⟩ := r.one
        cases (show v = .str _ from r1.2)
        exact ⟨a, n, rfl, hn, h, q.int⟩
    · rw [if_neg h] at c; cases c
  · cases c
end Lay

namespace Lay
open PySem PySem.Spec L2

/-! ### a dict of constants, read where it is written -/
def cV : Dat → V
  | .int i => .int i
  | .str s => .str s
  | .bl b => .bl b
  | _ => .non
def cOk : Dat → Bool
  | .int _ => true
  | .str _ => true
  | .bl _ => true
  | .non => true
  | _ => false
theorem cV_rep {d : Dat} (h : cOk d = true) {K : PySem.W.Frag} {G : Hp} : RepD K G d (cV d) := by
  cases d <;> first | rfl | cases h
def seen (kvs : List (Str × Dat)) (s : Str) : Option Dat := (kvs.find? fun p => p.1 == s).map (·.2)
def kvV (kvs : List (Str × Dat)) : List (Key × V) := kvs.map fun p => (.inr p.1, cV p.2)
def dispT (kvs : List (Str × Dat)) : List (TE × TE) := kvs.map fun p => (tC (.str p.1), tC (cV p.2))
theorem valV_seen : ∀ {kvs : List (Str × Dat)} {s : Str}, valV (kvV kvs) (.inr s) = (seen kvs s).map cV
  | [], s => rfl
  | (k, d) :: r, s => by
    have ih := valV_seen (kvs := r) (s := s)
    by_cases h : k = s
    · subst h
      have e1 : seen ((k, d) :: r) k = some d := by unfold seen; rw [List.find?_cons_of_pos (by simp)]; rfl
      rw [e1]
      exact valV_pos (p := (Sum.inr k, cV d)) rfl
    · have e1 : seen ((k, d) :: r) s = seen r s := by unfold seen; rw [List.find?_cons_of_neg (by simpa using h)]
      rw [e1, ← ih]
      exact valV_neg (p := (Sum.inr k, cV d)) fun z => h (Sum.inr.inj z)
theorem tPairs_disp : ∀ (kvs : List (Str × Dat)) {σ : St} {H : Hp} {Q : List (V × V) → Hp → Prop}, Q ((kvV kvs).map fun kv => (kV kv.1, kv.2)) H → tPairs (dispT kvs) σ H Q
  | [], _, _, _, h => h
  | p :: r, σ, H, Q, h => tPairs_disp r (σ := σ) (H := H) (Q := fun ps H3 => Q ((.str p.1, cV p.2) :: ps) H3) h
theorem tD_mono {Z : Par} {f : M Arg} {σ : St} {H : Hp} {Q Q' : VK} (h : tD Z f σ H Q) (hq : ∀ v H, Q v H → Q' v H) : tD Z f σ H Q' := by
  obtain ⟨T, P, ρ, fs, rp, q⟩ := h
  refine ⟨T, P, ρ, fs, rp, ?_⟩
  cases e1 : f ρ with
  | bad => rw [e1] at q; exact q
  | ex x ρ' => rw [e1] at q; exact q
  | ok a ρ1 => rw [e1] at q; exact fun v H2 fs2 l ra g => hq _ _ (q v H2 fs2 l ra g)
theorem tD_grow {Z : Par} {f : M Arg} {σ : St} {H : Hp} {Q : VK} {p : Addr} {o : HO} (h : tD Z f σ H Q) (hn : H p = none) : tD Z f σ (upd H p o) fun v H2 => H2 p = some o ∧ Q v H2 := by
  obtain ⟨T, P, ρ, fs, rp, q⟩ := h
  have nf : ¬ Own fs p := fun z => by obtain ⟨x, e⟩ := rp.owned z; rw [hn] at e; cases e
  have fr : ∀ {H2 : Hp} {own : Addr → Prop}, Fr (upd H p o) (Own fs) H2 own → Fr H (Own fs) H2 own := fun {H2 own} g a x e n => g a x (upd_none_ne hn e) n
  refine ⟨T, P, ρ, fs, rp.grow (fun b x e => upd_none_ne hn e) fun b z => .inl z, ?_⟩
  cases e1 : f ρ with
  | bad => rw [e1] at q; exact q
  | ex x ρ' => rw [e1] at q; exact fun cls d σ' H' fs' rx rp' g => q cls d σ' H' fs' rx rp' (fr g)
  | ok a ρ1 => rw [e1] at q; exact fun v H2 fs2 l ra g => ⟨(g p o upd_same nf).1, q v H2 fs2 l ra (fr g)⟩
def opDget (kvs : List (Str × Dat)) (x : OT) : Option OT := match x with
  | .fz (.str s) => (seen kvs s).map .fz
  | _ => none
def opDgetD (kvs : List (Str × Dat)) (x y : OT) : Option OT := match x, y with
  | .fz (.str s), .fz (.str t) => some (.fz ((seen kvs s).getD (.str t)))
  | _, _ => none
def cAll (kvs : List (Str × Dat)) : Bool := kvs.all fun p => cOk p.2
theorem seen_ok {kvs : List (Str × Dat)} (h : cAll kvs = true) {s : Str} {d : Dat} (e : seen kvs s = some d) : cOk d = true := by
  unfold seen at e
  cases e1 : kvs.find? (fun p => p.1 == s) with
  | none => rw [e1] at e; cases e
  | some p =>
    rw [e1] at e
    cases e
    exact List.all_eq_true.mp h p (List.mem_of_find?_eq_some e1)
theorem res_const {K : PySem.W.Frag} {G H : Hp} {d : Dat} {Q : VK} (h : cOk d = true) (q : Res K G H (.fz d) Q) : Q (cV d) H := by
  cases d with
  | int i => exact q.int
  | str s => exact q.str
  | bl b => exact q.bl
  | non => exact Res.same q rfl
  | _ => cases h
theorem ok_dget {K : PySem.W.Frag} {kvs : List (Str × Dat)} (hc : cAll kvs = true) : Op1Ok K (fun x H Q => ∃ s d, x = .str s ∧ seen kvs s = some d ∧ Q (cV d) H) (opDget kvs) := fun G H o1 v1 f1 o Q e r c q => by
  unfold opDget at c
  split at c
  · rename_i s
    cases (show v1 = .str _ from r.2)
    cases e1 : seen kvs s with
    | none => rw [e1] at c; cases c
    | some d => rw [e1] at c; cases c; exact ⟨s, d, rfl, e1, res_const (seen_ok hc e1) q⟩
  · cases c
theorem ok_dgetD {K : PySem.W.Frag} {kvs : List (Str × Dat)} (hc : cAll kvs = true) : OpOk K (fun x y H Q => ∃ s t, x = .str s ∧ y = .str t ∧ Q (cV ((seen kvs s).getD (.str t))) H) (opDgetD kvs) := fun G H o1 o2 v1 v2 f1 f2 o Q e r1 r2 c q => by
  unfold opDgetD at c
  split at c
  · rename_i s t
    cases (show v1 = .str _ from r1.2)
    cases (show v2 = .str _ from r2.2)
    cases c
    refine ⟨s, t, rfl, rfl, res_const ?_ q⟩
    cases e1 : seen kvs s with
    | none => rfl
    | some d => exact seen_ok hc e1
  · cases c
section
variable {X : Cx} {W : WX} {pos dpos : Pos} {keys : List (Option Expr)} {values : List Expr} {kvs : List (Str × Dat)} {b c : Expr} {fb fc : M Arg}
theorem de_dget (hu : X.A.units + 65 < cLine) (hp : PPs X dpos keys values (dispT kvs)) (hb : DE X W b fb) (hall : keys.all (·.isSome) = true := by rfl) (hl : keys.length = values.length := by rfl) (h0 : keys ≠ [] := by simp)
    (h15 : kvs.length ≤ 15 := by decide) (h16 : keys.length ≤ 15 := by decide) (hm : mergeK [] (kvV kvs) = kvV kvs := by rfl) (hc : cAll kvs = true := by rfl) (hs : NoSl b := by exact fun _ _ => rfl) : DE X W (.Subscript (.Dict keys values dpos) b pos) (x1 (opDget kvs) fb) :=
  pe_imp (pe_dget (by omega) (pe_disp hp hall hl h0 h16) hb hs) fun σ H Q q p hn => by
    refine tPairs_disp kvs ⟨upd_same, kvV kvs, rfl, by unfold kvV; rw [List.length_map]; exact h15, ?_⟩
    have q := t1_op (Z := zp X W) (ok_dget hc) (tD_grow (o := .dK (mergeK [] (kvV kvs))) q hn)
    have e : upd (upd H p (.dK [])) p (.dK (mergeK [] (kvV kvs))) = upd H p (.dK (mergeK [] (kvV kvs))) := by
      funext a
      by_cases ha : a = p
      · subst ha; rw [upd_same, upd_same]
      · rw [upd_ne ha, upd_ne ha, upd_ne ha]
    rw [e]
    refine tD_mono q fun y H2 r => ?_
    obtain ⟨s, d, rfl, e1, hp2, q2⟩ := r
    rw [hm] at hp2
    refine ⟨p, cV d, rfl, ?_, q2⟩
    have g := DGet.k (k := .inr s) hp2
    rw [valV_seen, e1] at g
    exact g
theorem de_dgetD (hu : X.A.units + 65 < cLine) (hp : PPs X dpos keys values (dispT kvs)) (hb : DE X W b fb) (hd : DE X W c fc) {apos : Pos} (m : M2 X (.Dict keys values dpos) "get" apos b c pos := by exact ⟨rfl, rfl, rfl, rfl⟩) (hall : keys.all (·.isSome) = true := by rfl) (hl : keys.length = values.length := by rfl) (h0 : keys ≠ [] := by simp)
    (h15 : kvs.length ≤ 15 := by decide) (h16 : keys.length ≤ 15 := by decide) (hm : mergeK [] (kvV kvs) = kvV kvs := by rfl) (hc : cAll kvs = true := by rfl) : DE X W (.Call (.Attribute (.Dict keys values dpos) "get" apos) [b, c] [] pos) (x2 (opDgetD kvs) fb fc) :=
  pe_imp (pe_dget2 (by omega) (pe_disp hp hall hl h0 h16) hb hd m) fun σ H Q q p hn => by
    refine tPairs_disp kvs ⟨upd_same, kvV kvs, rfl, by unfold kvV; rw [List.length_map]; exact h15, ?_⟩
    have q := t2_op (Z := zp X W) (ok_dgetD hc) (tD_grow (o := .dK (mergeK [] (kvV kvs))) q hn)
    have e : upd (upd H p (.dK [])) p (.dK (mergeK [] (kvV kvs))) = upd H p (.dK (mergeK [] (kvV kvs))) := by
      funext a
      by_cases ha : a = p
      · subst ha; rw [upd_same, upd_same]
      · rw [upd_ne ha, upd_ne ha, upd_ne ha]
    rw [e]
    refine ⟨p, rfl, .inl ⟨_, .inl upd_same⟩, tD_mono q fun y H2 r => tD_mono r fun z H3 r => ?_⟩
    obtain ⟨s, t, rfl, rfl, hp2, q2⟩ := r
    rw [hm] at hp2
    refine ⟨(seen kvs s).map cV, ?_, ?_⟩
    · have g := DGet.k (k := .inr s) hp2
      rw [valV_seen] at g
      exact g
    · cases e1 : seen kvs s with
      | none => rw [e1] at q2; exact q2
      | some d => rw [e1] at q2; exact q2
end
end Lay

namespace Lay
open PySem PySem.Spec L2

/-! ### try: body / except C as e: a suite that returns at once -/
/-- isinstance of an exception with fields -/
structure ExcX (K : PySem.W.Frag) (C : Addr) : Prop where
  cl : (PySem.W.clsIn K C).isSome = true
  xf : XfC K C
  ha : PySem.W.findIn K (.ref C) "__class__" = some (some (.builtin "object.__class__"))
  hn : PySem.W.specialIn K (.builtin "object.__class__") "__get__" = some (some (.builtin "getset_descriptor.__get__"))
  ht : PySem.W.takesIn K (.builtin "object.__class__") = some true
  hm : PySem.W.mroIn K C (.type "object") = some true
/-- what the suite knows -/
def SU (a C : Addr) (i : Nat) (cls : Value) (d : Option Addr) (fs : List (Str × V)) (σ : St) (H : Hp) : Prop :=
  σ[i]? = some (some (.ref a)) ∧ cls = .ref C ∧ ∃ dd, d = some dd ∧ H dd = some (.xd fs)
def rIsX (K : PySem.W.Frag) (a C : Addr) (cls : Value) (d : Option Addr) : List V → Hp → VK → Prop := fun xs H Q => ∃ (c : V) (cv : Value) (b : Bool) (dd : Addr) (fs : List (Str × V)),
  xs = [.ref a, c] ∧ (∀ u, RelV c u → u = cv) ∧ PySem.W.kitOne K (.ref C) cv = some b ∧ cls = .ref C ∧ d = some dd ∧ H dd = some (.xd fs) ∧ Q (.bl b) H
theorem call_isX {X : Cx} {a C : Addr} {oe : Obj} {cls : Value} {d : Option Addr} {pn : List (Addr × Obj)} (T : ExcX X.K C) (hz : Zc cls d oe) (hf : ∃ vs, oe.data = .fields vs) :
    CallR (X.suite a ((a, oe) :: pn)) (.builtin "isinstance") (rIsX X.K a C cls d) := by
  intro pins s σ H xs us Q I r h
  obtain ⟨c, cv, b, dd, fs, rfl, hcv, e, ec, ed, ea, q⟩ := h
  cases r with
  | cons rx rr =>
    cases rr with
    | cons rt rr =>
      cases rr
      cases rx
      have ec' := hcv _ rt
      subst ec' ec ed
      obtain ⟨hget, _⟩ := I.pin (a, oe) (List.mem_append.mpr (.inl List.mem_cons_self))
      obtain ⟨vs, hv⟩ := hf
      have hx : ObjOk X.prog X.w H s.heap dd (.xd fs) := I.hok dd _ ea
      obtain ⟨mA, hns, hr⟩ := hx
      obtain ⟨od, ho, hl⟩ := lookIn_ns hns
      have J : PySem.W.InstAt s.heap a oe C (some od) := ⟨hget, hz.1, by unfold PySem.W.notCls; rw [hv] <;> rfl, by rw [hz.2]; exact ho⟩
      exact PySem.W.kia_one (PySem.W.kitx_exc T.cl T.xf.ga T.xf.gg T.xf.exC T.ha T.hn T.ht T.hm) I.kIn J e (fun z => nomatch z) fun tk => ⟨.bl b, H, I.kept (t' := tk) fun _ _ z => z, rfl, q⟩
section
variable {X : Cx} {a C : Addr} {oe : Obj} {cls : Value} {d : Option Addr} {pn : List (Addr × Obj)} {i : Nat} {n : Str}
/-- a value, told by the fields -/
def SXv (X : Cx) (a : Addr) (oe : Obj) (pn : List (Addr × Obj)) (C : Addr) (i : Nat) (cls : Value) (d : Option Addr) (e : Expr) (v : List (Str × V) → Option V) : Prop :=
  PE (X.suite a ((a, oe) :: pn)) e fun σ H Q => ∃ fs x, SU a C i cls d fs σ H ∧ v fs = some x ∧ Q x H
def SXt (X : Cx) (a : Addr) (oe : Obj) (pn : List (Addr × Obj)) (C : Addr) (i : Nat) (cls : Value) (d : Option Addr) (e : Expr) (b : Bool) : Prop :=
  PT (X.suite a ((a, oe) :: pn)) e fun σ H Q => (∃ fs, SU a C i cls d fs σ H) ∧ Q b H
def SXw (X : Cx) (a : Addr) (oe : Obj) (pn : List (Addr × Obj)) (C : Addr) (i : Nat) (cls : Value) (d : Option Addr) (e : Expr) (b : Bool) : Prop :=
  PW (X.suite a ((a, oe) :: pn)) e fun σ H Q => (∃ fs, SU a C i cls d fs σ H) ∧ Q b H
def SXa (X : Cx) (a : Addr) (oe : Obj) (pn : List (Addr × Obj)) (C : Addr) (i : Nat) (cls : Value) (d : Option Addr) (es : List Expr) (v : List (Str × V) → Option (List V)) : Prop :=
  PA (X.suite a ((a, oe) :: pn)) es fun σ H Q => ∃ fs x, SU a C i cls d fs σ H ∧ v fs = some x ∧ Q x H
/-- the suite returns a tuple -/
def tSX (a C : Addr) (i : Nat) (cls : Value) (d : Option Addr) (v : List (Str × V) → Option (List V)) : TS := fun D σ H => ∃ fs xs, SU a C i cls d fs σ H ∧ v fs = some xs ∧ xs.length ≤ sizeLine ∧ ∀ p, H p = none → D.rt (.ref p) (upd H p (.tup xs))
def SXs (X : Cx) (a : Addr) (oe : Obj) (pn : List (Addr × Obj)) (C : Addr) (i : Nat) (cls : Value) (d : Option Addr) (st : List Stmt) (v : List (Str × V) → Option (List V)) : Prop :=
  PSs (X.suite a ((a, oe) :: pn)) st (tSX a C i cls d v)
theorem sx_c {e : Expr} {x : V} (h : PE (X.suite a ((a, oe) :: pn)) e (tC x)) : SXv X a oe pn C i cls d e fun _ => some x := pe_imp h fun σ H Q ⟨fs, y, _, e, q⟩ => by cases e; exact q
theorem sx_f {pos pos' : Pos} {fld : Str} (T : XfC X.K C) (hno : PySem.W.findIn X.K (.ref C) fld = some none) (hz : Zc cls d oe) (hf : ∃ vs, oe.data = .fields vs) (hv : PE (X.suite a ((a, oe) :: pn)) (.Name n pos') (tVar i))
    (hb : attributeBase (.Name n pos') fld X.env (eval (.Name n pos') X.env) = eval (.Name n pos') X.env := by rfl) : SXv X a oe pn C i cls d (.Attribute (.Name n pos') fld pos) fun fs => fs.lookup fld :=
  pe_imp (pe_xf T hno hz hf hv hb) fun σ H Q ⟨fs, y, ⟨h1, h2, dd, h3, h4⟩, e, q⟩ => ⟨.ref a, h1, rfl, h2, dd, fs, y, h3, h4, e, q⟩
theorem sa_nil : SXa X a oe pn C i cls d [] fun _ => some [] := pa_imp pa_nil fun σ H Q ⟨fs, y, _, e, q⟩ => by cases e; exact q
theorem sa_cons {e : Expr} {es : List Expr} {v : List (Str × V) → Option V} {vs : List (Str × V) → Option (List V)} (h : SXv X a oe pn C i cls d e v) (h2 : SXa X a oe pn C i cls d es vs)
    (he : starEach (e :: es) X.env = (false, eval e X.env) :: starEach es X.env := by rfl) : SXa X a oe pn C i cls d (e :: es) fun fs => (v fs).bind fun x => (vs fs).map fun r => x :: r :=
  pa_imp (pa_cons h h2 he) fun σ H Q ⟨fs, y, su, e, q⟩ => by
    dsimp only at e
    cases e1 : v fs with
    | none => rw [e1] at e; cases e
    | some x =>
      rw [e1] at e
      cases e2 : vs fs with
      | none => simp [e2] at e
      | some r =>
        simp only [e2, Option.bind_some, Option.map_some, Option.some.injEq] at e
        subst e
        exact ⟨fs, x, su, e1, fs, r, su, e2, q⟩
theorem ss_ret {es : List Expr} {k : Nat} {p1 p2 : Pos} {vs : List (Str × V) → Option (List V)} (h : SXa X a oe pn C i cls d es vs) : SXs X a oe pn C i cls d [.Return (some (.Tuple es k p1)) p2] vs :=
  pss_one (ps_imp (ps_ret (pe_tup h)) fun D σ H ⟨fs, xs, su, e, z, q⟩ => ⟨fs, xs, su, e, z, q⟩)
theorem ss_if {c : Expr} {A rest : List Stmt} {pos : Pos} {vs : List (Str × V) → Option (List V)} (h : SXt X a oe pn C i cls d c false) (h2 : SXs X a oe pn C i cls d rest vs) : SXs X a oe pn C i cls d (.If c A [] pos :: rest) vs :=
  pss_imp (pss_cons (ps_if (t := fun _ _ _ => False) h ⟨fun pins s σ H D I h => h.elim⟩ pss_nil) h2) fun D σ H ⟨fs, xs, su, q⟩ => ⟨⟨fs, su⟩, by
    dsimp only
    rw [if_neg Bool.false_ne_true]
    exact ⟨fs, xs, su, q⟩⟩
theorem st_not {e : Expr} {b b' : Bool} {pos : Pos} (h : SXt X a oe pn C i cls d e b') (hb : (!b') = b := by rfl) : SXt X a oe pn C i cls d (.UnaryOp .Not e pos) b := pt_imp (pt_not h) fun σ H Q q => by subst hb; exact q
theorem st_bo {e : Expr} {b : Bool} (h : SXw X a oe pn C i cls d e b) : SXt X a oe pn C i cls d e b := h.pt
theorem sw_or1 {e : Expr} {b : Bool} {pos : Pos} (h : SXt X a oe pn C i cls d e b) : SXw X a oe pn C i cls d (.BoolOp .Or [e] pos) b := pw_or1 h
theorem sw_or {e f : Expr} {rest : List Expr} {b : Bool} {pos : Pos} (h : SXt X a oe pn C i cls d e false) (h2 : SXw X a oe pn C i cls d (.BoolOp .Or (f :: rest) pos) b) : SXw X a oe pn C i cls d (.BoolOp .Or (e :: f :: rest) pos) b :=
  pw_imp (pw_or h h2) fun σ H Q q => ⟨q.1, by
    first
      | (rw [if_neg Bool.false_ne_true]; exact q)
      | exact q⟩
theorem sw_and1 {e : Expr} {b : Bool} {pos : Pos} (h : SXt X a oe pn C i cls d e b) : SXw X a oe pn C i cls d (.BoolOp .And [e] pos) b := pw_and1 h
theorem sw_and {e f : Expr} {rest : List Expr} {b : Bool} {pos : Pos} (h : SXt X a oe pn C i cls d e true) (h2 : SXw X a oe pn C i cls d (.BoolOp .And (f :: rest) pos) b) : SXw X a oe pn C i cls d (.BoolOp .And (e :: f :: rest) pos) b :=
  pw_imp (pw_and h h2) fun σ H Q q => ⟨q.1, by
    first
      | (rw [if_pos rfl]; exact q)
      | exact q⟩
theorem st_is {p p0 p1 pos : Pos} {t : Str} {c : V} {cv : Value} {b : Bool} (T : ExcX X.K C) (hz : Zc cls d oe) (hf : ∃ vs, oe.data = .fields vs) (hg : Gl X "isinstance") (hm : X.mg "isinstance" = none) (hv : bootBuiltins "isinstance" = some (.builtin "isinstance"))
    (hx : PE (X.suite a ((a, oe) :: pn)) (.Name n p0) (tVar i)) (ht : PE (X.suite a ((a, oe) :: pn)) (.Name t p1) (tC c)) (hc : ∀ u, RelV c u → u = cv) (hk : PySem.W.kitOne X.K (.ref C) cv = some b)
    (h1 : starEach [.Name n p0, .Name t p1] X.env = (false, eval (.Name n p0) X.env) :: starEach [.Name t p1] X.env := by rfl) (h2 : starEach [.Name t p1] X.env = (false, eval (.Name t p1) X.env) :: starEach [] X.env := by rfl) (hpl : (backTo pos (starEach [.Name t p1] X.env)).any (·.1) = false := by rfl)
    (he : ∀ whole, isTrue (.Call (.Name "isinstance" p) [.Name n p0, .Name t p1] [] pos) X.env whole = (do let v ← whole; standAt (Expr.Call (.Name "isinstance" p) [.Name n p0, .Name t p1] [] pos).pos; holding [v] (truthy v)) := by intro _; rfl) :
    SXt X a oe pn C i cls d (.Call (.Name "isinstance" p) [.Name n p0, .Name t p1] [] pos) b :=
  pt_imp (pt_truth (pe_callB (call_isX T hz hf) hg hm hv (pa_cons hx (pa_cons ht pa_nil h2) h1) (by decide) (by decide) h1 hpl) he) fun σ H Q ⟨⟨fs, h1, h2, dd, h3, h4⟩, q⟩ =>
    ⟨.ref a, h1, c, cv, b, dd, fs, rfl, hc, hk, h2, h3, h4, b, rfl, q⟩
theorem pe_ref {t : Str} {D : Addr} {pos : Pos} (hg : Gl X t) (hm : X.mg t = some (.ref D)) (hd : (t == ("__debug__" : Str)) = false := by decide) : PE X (.Name t pos) (tC (.ref D)) :=
  ⟨fun _ _ _ H _ I h => ld_glob I hg hm ⟨.ref D, H, I, rfl, h⟩ hd⟩
theorem ref_is {D : Addr} : ∀ u, RelV (.ref D) u → u = .ref D := fun _ h => h
theorem ty_is {T : String} : ∀ u, RelV (.ty T) u → u = .type T := fun _ h => h
end

theorem RepDs.len {K : PySem.W.Frag} {G : Hp} : ∀ {ds : List Dat} {vs : List V}, RepDs K G ds vs → ds.length = vs.length
  | [], vs, h => by rw [show vs = [] from h]; rfl
  | d :: r, vs, h => by
    obtain ⟨v, r', rfl, _, q⟩ := h
    rw [List.length_cons, List.length_cons, RepDs.len q]
theorem RepF.look {K : PySem.W.Frag} {G : Hp} {f : Str} {d : Dat} : ∀ {l : List (Str × Dat)} {vs : List (Str × V)}, RepF K G l vs → l.lookup f = some d → ∃ v, vs.lookup f = some v ∧ RepD K G d v
  | [], vs, h, e => by cases e
  | (n, d') :: l, vs, h, e => by
    obtain ⟨v, r', rfl, q1, q2⟩ := h
    rw [List.lookup_cons] at e ⊢
    cases hn : f == n with
    | true => rw [hn] at e; cases e; exact ⟨v, rfl, q1⟩
    | false => rw [hn] at e; exact RepF.look q2 e
/-- what the clause gives: from the fields -/
def sTryX (cn : Str) (i : Nat) (h : List (Str × Dat) → Option (List Dat)) (g : SM) : SM := fun ρ => match g ρ with
  | .ex x ρ' => if (x.cls == cn) = true then match h x.fs, ρ'[i]? with
      | some ds, some _ => if ds.length ≤ 100 then .rt (.fz (.tup ds)) ρ' else .bad
      | _, _ => .bad
    else .bad
  | r => r
/-- the same fields, as data and as values -/
def Follows (h : List (Str × Dat) → Option (List Dat)) (v : List (Str × V) → Option (List V)) : Prop :=
  ∀ K G fs vs ds, RepF K G fs vs → h fs = some ds → ∃ xs, v vs = some xs ∧ RepDs K G ds xs
/-- ('x', e.f) -/
theorem follows_cf {s f : Str} : Follows (fun fs => (fs.lookup f).map fun d => [.str s, d]) (fun fs => (some (V.str s)).bind fun x => ((fs.lookup f).bind fun y => (some ([] : List V)).map fun r => y :: r).map fun r => x :: r) := fun K G fs vs ds r e => by
  dsimp only at e
  cases e1 : fs.lookup f with
  | none => rw [e1] at e; cases e
  | some d =>
    rw [e1] at e
    cases e
    obtain ⟨v, h1, h2⟩ := r.look e1
    exact ⟨[.str s, v], by simp [h1], _, _, rfl, rfl, _, _, rfl, h2, rfl⟩
theorem ds_tryX {X : Cx} {W : WX} {x n cn : Str} {i : Nat} {body suite : List Stmt} {b₀ : Stmt} {np pos pos' : Pos} {C : Addr} {g : SM} {h : List (Str × Dat) → Option (List Dat)} {v : List (Str × V) → Option (List V)}
    (hs : X.stack = X.env :: X.outer) (hf : X.env.frame = some X.env.locals) (hN : X.N.Nodup) (hi : X.N[i]? = some n) (hln : X.env.kindOf n = some .local) (tk : Takes X W)
    (hg : Gl X x) (hd : (x == ("__debug__" : Str)) = false) (hm : X.mg x = some (.ref C)) (hcn : X.mg cn = some (.ref C)) (hex : PySem.W.exmOne X.K (.ref C) (.ref C) = some true) (fo : Follows h v) (h0 : h [] = none)
    (hb : ∀ (W' : WX) (pn : List (Addr × Obj)) (xe : Value → Shared → Prop), Takes (X.tr pn xe) W' → DSs (X.tr pn xe) W' body g)
    (hsu : ∀ (a : Addr) (oe : Obj) (cls : Value) (d : Option Addr) (pn : List (Addr × Obj)), Zc cls d oe → (∃ vs, oe.data = .fields vs) → SXs X a oe pn C i cls d (b₀ :: suite) v) :
    DS X W (.Try body [.ExceptHandler (some (.Name x np)) (some n) (b₀ :: suite) pos'] [] [] pos) (sTryX cn i h g) := by
  refine ps_imp (ps_try_as (tb := fun W' => tS (zp X W') g) (ts := fun a cls d => tSX a C i cls d v) hs hf hN hi hln ⟨hg, hd, .inl hm⟩ tk (fun W' pn xe tk' _ => hb W' pn xe tk') hsu) fun D σ H q => ?_
  obtain ⟨T, P, ρ, fs, rp, q⟩ := q
  refine ⟨T, P, ρ, fs, rp, ?_⟩
  unfold sTryX at q
  cases e1 : g ρ with
  | nx ρ' => rw [e1] at q; exact q
  | bk ρ' => rw [e1] at q; exact q
  | ct ρ' => rw [e1] at q; exact q
  | rt o ρ' => rw [e1] at q; exact q
  | bad => rw [e1] at q; exact q
  | ex y ρ' =>
    rw [e1] at q
    simp only at q
    split at q
    · rename_i hcy
      have hcy := eq_of_beq hcy
      split at q
      · rename_i ds sl e2 e3
        split at q
        · rename_i hl
          intro cls d σ' H' fs' rx rp' fr
          obtain ⟨hmy, vs, rf, hfs⟩ := rx
          rw [hcy] at hmy
          have ec : cls = .ref C := Option.some.inj (hmy.symm.trans hcn)
          subst ec
          obtain ⟨xs, ev, rd⟩ := fo _ _ _ _ _ rf e2
          refine ⟨true, hex, fun _ a na => ?_, fun z => nomatch z⟩
          obtain ⟨sx, hsx, _⟩ := rp'.slot i sl e3
          have hlt : i < σ'.length := by
            by_cases h : i < σ'.length
            · exact h
            · rw [List.getElem?_eq_none (by omega)] at hsx; cases hsx
          rcases hfs with ⟨hfs, hd0⟩ | ⟨dd, hd1, hdd⟩
          · rw [hfs, h0] at e2; cases e2
          · refine ⟨vs, xs, ⟨by rw [List.getElem?_set_self hlt], rfl, dd, hd1, hdd⟩, ev, ?_, fun p hp => ?_⟩
            · rw [← RepDs.len rd, sizeLine_eq]; omega
            · refine Res.newT (ds := ds) (Rp.res (σ := σ') (Q := fun w H2 => D.rt w H2) rp'.tl0 (fr.imp fun b z => z.elim (fun z => nomatch z) id) fun w H2 fs2 l ra f2 => q w σ' H2 fs2 l ra f2) ?_ hp
              exact RepDs.mono (hide_ex fun b x hb e => ⟨fun z => hb (z.elim (fun z => z.elim .inl fun z => nomatch z) .inr), e⟩) _ _ rd
        · exact q.elim
      · exact q.elim
    · exact q.elim
end Lay

namespace Lay
open PySem PySem.Spec L2

/-! ### the written part's words on a class of exceptions -/
def clsBody (s : Stmt) : List Stmt := match s with
  | .ClassDef _ _ _ body _ _ _ _ _ _ _ => body
  | _ => []
theorem clsIn_exc {K : PySem.W.Frag} {nm q : Str} {C N : Addr} {bs bm : List Value} {hd : Bool} {sn : List Str} {sub : List Value} {ab : Bool} {col : Option Bool} {dd : Option Addr} {k0 k1 k2 k3 k5 : Option Value} {newId : String}
    (h : K.lookup C = some (excClassObj nm q C N bs bm hd sn sub ab col dd k0 k1 k2 k3 k5 newId)) : ∃ cd, PySem.W.clsIn K C = some cd := ⟨_, by unfold PySem.W.clsIn; rw [h]⟩
theorem kit_ref {K : PySem.W.Frag} {t : Value} {C : Addr} {b : Bool} (hne : (t == Value.ref C) = false) (hc : (PySem.W.clsIn K C).isSome = true) (ht : PySem.W.typeIn K (.ref C) = some (.type "type")) (hs : PySem.W.subIn K t (.ref C) = some b) : PySem.W.kitOne K t (.ref C) = some b := by
  show (if (t == Value.ref C) = true then some true else PySem.W.kitCls K t (.ref C)) = some b
  rw [hne, if_neg Bool.false_ne_true]
  show (if ((PySem.W.clsIn K C).isSome && PySem.W.typeIn K (.ref C) == some (.type "type")) = true then PySem.W.subIn K t (.ref C) else none) = some b
  rw [hc, ht, if_pos (by rfl)]
  exact hs
theorem kit_type {K : PySem.W.Frag} {D : Addr} {T : String} {b : Bool} (hm : PySem.W.kitMeta T = true) (hs : PySem.W.subIn K (.ref D) (.type T) = some b) : PySem.W.kitOne K (.ref D) (.type T) = some b := by
  show (if (Value.ref D == Value.type T) = true then some true else PySem.W.kitCls K (.ref D) (.type T)) = some b
  rw [if_neg (fun z => by cases beq_iff_eq.mp z)]
  show (if PySem.W.kitMeta T = true then PySem.W.subIn K (.ref D) (.type T) else none) = some b
  rw [if_pos hm]
  exact hs
theorem bt_ord : bootBuiltins "ord" = some (.builtin "ord") := by decide +kernel
theorem bt_ValueError : bootBuiltins "ValueError" = some (.type "ValueError") := by decide +kernel
/-- what is said of the class c, caught by its name -/
structure TryF (K : PySem.W.Frag) (mg : Str → Option Value) (c : Str) (C : Addr) : Prop where
  m : mg c = some (.ref C)
  ex : PySem.W.exmOne K (.ref C) (.ref C) = some true
  x : ExcX K C
section
variable {P : Program} {w : World} {K : PySem.W.Frag} {mg : Str → Option Value} {base : Heap} {C f cc cda : Addr} {name qual : Str} {params : Arguments} {scope : Scope} {dV kV doc pm ct oc : Value} {an od : Option Addr} {osl : Array (Option Value)}
theorem initF {k : Nat} {p0 p1 p2 p3 p4 q1 q2 q3 q4 r1 r2 r3 : Pos} {ar : PySem.Arg} {x fld : Str} {pl : PySem.Env → Sem Bool}
    (T : SupC P K mg C f cc cda) (hno : PySem.W.findIn K (.ref C) fld = some none)
    (lk : K.lookup f = some ⟨oc, od, .func (PySem.W.ksFn name qual params [.Expr (.Call (.Attribute (.Call (.Name "super" p0) [] [] p1) "__init__" p2) [.JoinedStr [.FormattedValue (.Name x r1) (-1) none r2] r3] [] p3) p4, .Assign [.Attribute (.Name "self" q1) fld q2] (.Name x q3) q4] scope dV kV doc pm an (.ref cda) ct cc), osl⟩)
    (hcd : PySem.W.codeIn K (.ref cda) qual = true) (S : NdefX.NScope ["self", x, "__class__"] ["self", x] ["__class__"] scope) (hks : scope.names.lookup ("super" : Str) = some .globalImplicit)
    (har : (params.posonlyargs ++ params.args).head? = some ar) (hp0 : ar.arg = "self")
    (hev : ∀ env : PySem.Env, eval (.Call (.Attribute (.Call (.Name "super" p0) [] [] p1) "__init__" p2) [.JoinedStr [.FormattedValue (.Name x r1) (-1) none r2] r3] [] p3) env = (do
      let ov ← attributeBase (.Call (.Name "super" p0) [] [] p1) "__init__" env (eval (.Call (.Name "super" p0) [] [] p1) env)
      standAt p2.atName
      let (f, first) ← holding [ov] (getMethod ov "__init__" (pl env))
      callWith p3 f first (backTo p3 (starEach [.JoinedStr [.FormattedValue (.Name x r1) (-1) none r2] r3] env)) []))
    (hsw : ∀ env : PySem.Env, swapsWith (.Call (.Attribute (.Call (.Name "super" p0) [] [] p1) "__init__" p2) [.JoinedStr [.FormattedValue (.Name x r1) (-1) none r2] r3] [] p3) none p4.line env = pure false)
    (hsw2 : ∀ env : PySem.Env, swapsWith (.Name x q3) (some (.Attribute (.Name "self" q1) fld q2)) q4.line env = pure false) (hdx : (x == ("__debug__" : Str)) = false) (hdc : (x == ("__classdict__" : Str)) = false) :
    FnOk P w K mg base (L2.CX P w) (k + 1) f (PySem.W.ksFn name qual params [.Expr (.Call (.Attribute (.Call (.Name "super" p0) [] [] p1) "__init__" p2) [.JoinedStr [.FormattedValue (.Name x r1) (-1) none r2] r3] [] p3) p4, .Assign [.Attribute (.Name "self" q1) fld q2] (.Name x q3) q4] scope dV kV doc pm an (.ref cda) ct cc) ["self", x] (spI C [fld]) := by
  refine init1 (te := tFmt (tVar 1)) T hno lk hcd S hks har hp0 (fun _ => rfl) hev hsw hsw2 hdx hdc (fun X hx vx => pe_joined1 (pe_fmt (pe_var hx vx hdx hdc))) ?_
  intro σ d H R hσ hs r
  refine ⟨_, hσ, ?_⟩
  rcases scal_cases hs with ⟨i, rfl, hi⟩ | ⟨s, rfl, hl⟩
  · exact .inr ⟨i, rfl, hi, r⟩
  · exact .inl ⟨s, rfl, by rw [sizeLine_eq]; omega, r⟩
end
end Lay

namespace Lay
open PySem PySem.Spec L2

/-! ### backwards: raise, try, texts -/
theorem ws_raise {c : Str} {fns : List Str} {fa : M (List Arg)} {ρ : Env} {D : En} (h : Wp fa ρ (fun as ρ1 => Wo (looks ρ1 as) fun os => Wo (excOf c fns os) fun x => D.ex x ρ1) D.ex) : Ws (sRaise c fns fa) ρ D := by
  with_unfolding_all
    unfold Wp at h
    unfold Ws sRaise
    cases e : fa ρ with
    | bad => rw [e] at h; exact h.elim
    | ex x ρ' => rw [e] at h; simp only [RS]; exact h
    | ok as ρ1 =>
      rw [e] at h
      simp only [RS]
      cases e1 : looks ρ1 as with
      | none => simp only [Wo, e1] at h
      | some os =>
        cases e2 : excOf c fns os with
        | none => simp only [Wo, e1, e2] at h
        | some x => simp only [Wo, e1, e2] at h ⊢; exact h
theorem o_exc1 {c f : Str} {i : Int} {k : Exn → Prop} (h : scal (.int i) = true) (q : k ⟨c, [(f, .int i)]⟩) : Wo (excOf c [f] [.fz (.int i)]) k := by
  with_unfolding_all
    refine wo (x := ⟨c, [(f, .int i)]⟩) ?_ q
    unfold excOf
    simp only [allFz, List.all_cons, List.all_nil, h]
    rfl
theorem ws_tryX {cn : Str} {i : Nat} {h : List (Str × Dat) → Option (List Dat)} {g : SM} {ρ : Env} {D : En}
    (q : Ws g ρ { nx := D.nx, bk := D.bk, ct := D.ct, rt := D.rt, ex := fun x ρ' => (x.cls == cn) = true ∧ ∃ ds s, h x.fs = some ds ∧ ρ'[i]? = some s ∧ ds.length ≤ 100 ∧ D.rt (.fz (.tup ds)) ρ' }) : Ws (sTryX cn i h g) ρ D := by
  with_unfolding_all
    unfold Ws at q ⊢
    unfold sTryX
    cases e : g ρ with
    | bad => rw [e] at q; exact q.elim
    | nx ρ' => rw [e] at q; exact q
    | bk ρ' => rw [e] at q; exact q
    | ct ρ' => rw [e] at q; exact q
    | rt o ρ' => rw [e] at q; exact q
    | ex x ρ' =>
      rw [e] at q
      obtain ⟨h1, ds, s, h2, h3, h4, q⟩ := q
      simp only [h1, h2, h3, if_pos h4]
      exact q
theorem Wf.goE {F : FD} {os : List OT} {Q Q' : OT → OT → Prop} {E E' : Exn → OT → Prop} (h : Wf F os Q E) (hq : ∀ r out, Q r out → Q' r out) (he : ∀ x out, E x out → E' x out) : Wf F os Q' E' := h.mono hq he
theorem o_TT {p : Str → Str → Bool} {a b : Str} {k : OT → Prop} (q : k (.fz (.bl (p a b)))) : Wo (opTT p (.fz (.str a)) (.fz (.str b))) k := wo rfl q
theorem o_ord {a : Str} {k : OT → Prop} (h : a.length = 1) (q : k (.fz (.int (a.cps.getD 0 0 : Nat)))) : Wo (opOrd [.fz (.str a)]) k := by
  refine wo (x := .fz (.int (a.cps.getD 0 0 : Nat))) ?_ q
  show (if a.length = 1 then _ else none) = _
  rw [if_pos h]
theorem o_repS {a : Str} {n : Int} {k : OT → Prop} (h : mulOk a n = true) (q : k (.fz (.str (repS a n)))) : Wo (opRepS (.fz (.str a)) (.fz (.int n))) k := by
  refine wo (x := .fz (.str (repS a n))) ?_ q
  unfold opRepS
  simp only [h, if_true]
theorem o_intS {a : Str} {n : Int} {k : OT → Prop} (h : a.length ≤ 4000) (hn : PySem.intText? a = some n) (q : k (.fz (.int n))) : Wo (opIntB [.fz (.str a)]) k := by
  refine wo (x := .fz (.int n)) ?_ q
  unfold opIntB
  simp only [if_pos h, hn]
  rfl
theorem o_dgetD {kvs : List (Str × Dat)} {s t : Str} {d : Dat} {k : OT → Prop} (h : (seen kvs s).getD (.str t) = d) (q : k (.fz d)) : Wo (opDgetD kvs (.fz (.str s)) (.fz (.str t))) k := wo (x := .fz d) (by unfold opDgetD; simp only [h]) q
theorem o_dget {kvs : List (Str × Dat)} {s : Str} {d : Dat} {k : OT → Prop} (h : seen kvs s = some d) (q : k (.fz d)) : Wo (opDget kvs (.fz (.str s))) k := wo (x := .fz d) (by unfold opDget; simp only [h]; rfl) q
theorem w_gLs {gs : List TM} {os : List OT} {ρ : Env} {E : Exn → Env → Prop} {Q : Unit → Env → Prop} (hl : os.length = gs.length) (h : Wp (gSeq gs os) ρ Q E) : Wp (gLs gs (.lst os)) ρ Q E := by
  with_unfolding_all
    unfold Wp gLs
    simp only
    rw [if_pos hl]
    exact h
end Lay

namespace Com
open PySem PySem.Spec L2 Lay
def G__law_cell : SM :=
  (sSeq (sIf (xT (x2 opLt (xVar 1) (xN opLen (xCons (xVar 0) xNil)))) (sRet (x2 opIx (xVar 0) (xVar 1))) sNx)
  (sRet (xD (.int 0))))
def F__law_cell : FD := runF none 2 2 G__law_cell
def G__law_digits : SM :=
  (sSeq (sAsg (xLstF xNil) (gNm 3))
  (sSeq (sFor (iRg2 (xCons (xVar 1) (xCons (xVar 2) xNil))) (gNm 4) (sSeq (sAsg (xCallN 2 none F__law_cell (xCons (xVar 0) (xCons (xVar 4) xNil))) (gNm 5))
  (sSeq (sIf (xT (x2 opLt (xVar 5) (xD (.int 0)))) (sAsg (x2 opSub (xD (.int 1)) (x2 opMul (xD (.int 2)) (xVar 5))) (gNm 5)) sNx)
  (sSeq (sIf (xT (x2 opGt (xN opLen (xCons (xVar 3) xNil)) (xD (.int 1500)))) (sBk) sNx)
  (sIf (xT (x2 opGe (xVar 5) (x2 opPow (xD (.int 10)) (xD (.int 18))))) (sFor (iRg1 (xCons (xD (.int 60)) xNil)) (gNm 6) (sIf (xT (x2 opGt (xVar 5) (xD (.int 0)))) (sSeq (sExpr (xMut "list" 3 (muF muAppend) (xCons (x2 opMod (xN opInt (xCons (xVar 5) xNil)) (xD (.int 1000))) xNil)))
  (sAsg (x2 opFdiv (xVar 5) (xD (.int 1000))) (gNm 5))) sNx)) (sSeq (sAsg (x2 opMod (xN opInt (xCons (x2 opAdd (x2 opAdd (x2 opMul (xVar 5) (xD (.int 48271))) (x2 opMul (xVar 4) (xD (.int 69621)))) (xD (.int 11))) xNil)) (xD (.int 2147483647))) (gNm 7))
  (sFor (iRg1 (xCons (xD (.int 12)) xNil)) (gNm 6) (sSeq (sAsg (x2 opMod (xN opInt (xCons (x2 opAdd (x2 opAdd (x2 opMul (xVar 7) (xD (.int 16807))) (x2 opMul (xD (.int 7)) (xVar 6))) (xD (.int 1))) xNil)) (xD (.int 2147483647))) (gNm 7))
  (sExpr (xMut "list" 3 (muF muAppend) (xCons (x2 opMod (xN opInt (xCons (x2 opFdiv (xVar 7) (xD (.int 997))) xNil)) (xD (.int 1000))) xNil)))))))))))
  (sRet (xVar 3))))
def F__law_digits : FD := runF none 8 3 G__law_digits
def G__law_draw : SM :=
  (sSeq (sAsg (x2 opIx (xVar 0) (xD (.int 1))) (gNm 2))
  (sSeq (sAsg (x2 opAdd (xVar 2) (xD (.int 1))) (gIx 0 (xD (.int 1)) (muF muSetL)))
  (sSeq (sIf (xT (x2 opLt (xVar 2) (xN opLen (xCons (x2 opIx (xVar 0) (xD (.int 0))) xNil)))) (sRet (x2 opMod (xN opInt (xCons (x2 opIx (x2 opIx (xVar 0) (xD (.int 0))) (xVar 2)) xNil)) (xVar 1))) sNx)
  (sRet (x2 opMod (xN opInt (xCons (x2 opMul (xVar 2) (xD (.int 7))) xNil)) (xVar 1))))))
def F__law_draw : FD := runF (some 0) 3 2 G__law_draw
def G__law_like (self : FD) : SM :=
  (sSeq (sIf (xTru (x1 (opIsi "tuple") (xVar 1))) (sSeq (sIf (xOr (xNot (xTru (x1 (opIsi "tuple") (xVar 0)))) (xT (x2 opNe (xN opLen (xCons (xVar 0) xNil)) (xN opLen (xCons (xVar 1) xNil))))) (sRet (xD (.bl false))) sNx)
  (sRet (x2 opEq (xFz (xLc [2] (iRg1 (xCons (xN opLen (xCons (xVar 1) xNil)) xNil)) (gNm 2) (xNot (xTru (xCallN 2 none self (xCons (x2 opIx (xVar 0) (xVar 2)) (xCons (x2 opIx (xVar 1) (xVar 2)) xNil))))) (xD (.int 1)))) (xLstF xNil)))) sNx)
  (sSeq (sIf (xT (x2 (opIs false) (xVar 1) (xD .non))) (sRet (x2 (opIs false) (xVar 0) (xD .non))) sNx)
  (sSeq (sIf (xT (x2 (opIs false) (xVar 1) (xD (.bl true)))) (sRet (x2 (opIs false) (xVar 0) (xD (.bl true)))) sNx)
  (sSeq (sIf (xT (x2 (opIs false) (xVar 1) (xD (.bl false)))) (sRet (x2 (opIs false) (xVar 0) (xD (.bl false)))) sNx)
  (sSeq (sIf (xTru (x1 (opIsi "str") (xVar 1))) (sRet (xAndV (x1 (opIsi "str") (xVar 0)) (x2 opEq (xM opJoin (xTy "str" (xD (.str ""))) (xCons (xLstF (xCons (xVar 0) xNil)) xNil)) (xVar 1)))) sNx)
  (sRet (xAndV (x1 (opIsi "int") (xVar 0)) (xAndV (xNotV (x1 (opIsi "bool") (xVar 0))) (x2 opEq (xVar 0) (xVar 1))))))))))
def F__law_like : Nat → FD
  | 0 => fun _ => .bad
  | n + 1 => runF none 3 2 (G__law_like (F__law_like n))
def G__law_pick : SM :=
  (sRet (x2 opIx (xVar 1) (x2 opMod (xN opInt (xCons (xCallN 2 (some 0) F__law_draw (xCons (xVar 0) (xCons (xD (.int 900)) xNil))) xNil)) (xN opLen (xCons (xVar 1) xNil)))))
def F__law_pick : FD := runF (some 0) 2 2 G__law_pick
local macro_rules | `(tactic| walk_at "WP") => `(tactic| (repeat (first | with_reducible refine ws_seq ?_ | with_reducible refine ws_asg ?_ | with_reducible refine ws_if ?_ | with_reducible refine ws_ret ?_ | with_reducible refine ws_expr ?_ | with_reducible refine ws_par ?_ | with_reducible refine ws_nx ?_ | with_reducible refine ws_bk ?_ | with_reducible refine ws_ct ?_ | with_reducible refine ws_retN ?_ | with_reducible refine ws_st_nil ?_ | with_reducible refine ws_st_cons ?_ | with_reducible refine w_D ?_ | with_reducible refine w_x2 ?_ | with_reducible refine w_x1 ?_ | with_reducible refine w_notV ?_ | with_reducible refine w_Nil ?_ | with_reducible refine w_Cons ?_ | with_reducible refine w_N ?_ | with_reducible refine w_M ?_ | with_reducible refine w_Ty ?_ | with_reducible refine w_Tup ?_ | with_reducible refine w_LstF ?_ | with_reducible refine w_Fz ?_ | with_reducible refine w_T ?_ | with_reducible refine w_Tru ?_ | with_reducible refine w_And ?_ | with_reducible refine w_Or ?_ | with_reducible refine w_Not ?_ | with_reducible refine w_If ?_ | with_reducible refine w_OrV ?_ | with_reducible refine w_AndV ?_ | with_reducible refine w_Js_nil ?_ | with_reducible refine w_Js_cons ?_ | with_reducible refine w_Call ?_ | with_reducible refine w_Mut ?_ | with_reducible refine w_Yes ?_ | with_reducible refine w_gIx ?_ | with_reducible refine w_gS_nil ?_ | with_reducible refine w_gS_cons ?_ | with_reducible refine w_Sq ?_ | with_reducible refine w_Rg1 ?_ | with_reducible refine w_Rg2 ?_ | with_reducible refine w_NoPart ?_ | with_reducible refine w_Part ?_ | with_reducible refine w_Sl ?_ | with_reducible refine ws_aug ?_ | with_reducible refine o_addI ?_ | with_reducible refine o_find2 ?_ | with_reducible refine o_find3 ?_ | with_reducible refine o_add ?_ | with_reducible refine o_sub ?_ | with_reducible refine o_lt ?_ | with_reducible refine o_le ?_ | with_reducible refine o_gt ?_ | with_reducible refine o_ge ?_ | with_reducible refine o_eqI ?_ | with_reducible refine o_neI ?_ | with_reducible refine o_int ?_ | with_reducible refine o_intB ?_ | with_reducible refine o_gcd ?_ | with_reducible refine o_lenT ?_ | with_reducible refine o_lenL ?_ | with_reducible refine o_lenK ?_ | with_reducible refine o_lenO ?_ | with_reducible refine o_isN ?_ | with_reducible refine o_isB ?_ | with_reducible refine o_isnN ?_ | with_reducible refine o_isnB ?_ | with_reducible refine o_neg ?_ | with_reducible refine o_eqS ?_ | with_reducible refine o_neS ?_ | refine w_var rfl ?_ | refine w_gS_cons ?_ | refine w_gS_nil ?_ | refine ws_st_cons ?_ | refine ws_st_nil ?_ | refine w_Js_cons ?_ | refine w_Js_nil ?_ | refine w_gNm rfl ?_ | refine w_gJ rfl (by assumption) ?_ | refine w_gTu rfl ?_ | refine o_isi (by decide) ?_ | refine o_mul (by first | exact cMul_r (by omega) (by omega) | exact cMul_l (by omega) (by omega)) ?_ | refine o_mul (by assumption) ?_ | refine o_mod (by omega) ?_ | refine o_fdivS (by omega) (by omega) ?_ | refine o_absN ?_ | refine ⟨⟨by omega, by omega⟩, ?_⟩ | refine ⟨⟨⟨by omega, by omega⟩, by omega, by omega⟩, ?_⟩ | refine ⟨@rfl _ _, ?_⟩ | refine ⟨⟨@rfl _ _, @rfl _ _⟩, ?_⟩ | refine ⟨_, rfl, ?_⟩ | refine ⟨⟨Nat.le_of_ble_eq_true rfl, fun _ h => nomatch h⟩, ?_⟩ | refine ⟨Nat.le_of_ble_eq_true rfl, ?_⟩ | refine br_true ?_ | refine br_false ?_ | refine w_back rfl ?_ | refine wo rfl ?_)))
local macro_rules | `(tactic| walk_at "WQ") => `(tactic| (repeat (first | with_reducible refine ws_seq ?_ | with_reducible refine ws_asg ?_ | with_reducible refine ws_ret ?_ | with_reducible refine ws_expr ?_ | with_reducible refine ws_par ?_ | with_reducible refine ws_nx ?_ | with_reducible refine ws_bk ?_ | with_reducible refine ws_ct ?_ | with_reducible refine ws_retN ?_ | with_reducible refine ws_st_nil ?_ | with_reducible refine ws_st_cons ?_ | with_reducible refine w_D ?_ | with_reducible refine w_x2 ?_ | with_reducible refine w_x1 ?_ | with_reducible refine w_notV ?_ | with_reducible refine w_Nil ?_ | with_reducible refine w_Cons ?_ | with_reducible refine w_N ?_ | with_reducible refine w_M ?_ | with_reducible refine w_Ty ?_ | with_reducible refine w_Tup ?_ | with_reducible refine w_LstF ?_ | with_reducible refine w_Fz ?_ | with_reducible refine w_T ?_ | with_reducible refine w_Tru ?_ | with_reducible refine w_And ?_ | with_reducible refine w_Or ?_ | with_reducible refine w_Not ?_ | with_reducible refine w_If ?_ | with_reducible refine w_OrV ?_ | with_reducible refine w_AndV ?_ | with_reducible refine w_Js_nil ?_ | with_reducible refine w_Js_cons ?_ | with_reducible refine w_Call ?_ | with_reducible refine w_Mut ?_ | with_reducible refine w_Yes ?_ | with_reducible refine w_gIx ?_ | with_reducible refine w_gS_nil ?_ | with_reducible refine w_gS_cons ?_ | with_reducible refine w_Sq ?_ | with_reducible refine w_Rg1 ?_ | with_reducible refine w_Rg2 ?_ | with_reducible refine w_NoPart ?_ | with_reducible refine w_Part ?_ | with_reducible refine w_Sl ?_ | with_reducible refine ws_aug ?_ | with_reducible refine o_addI ?_ | with_reducible refine o_find2 ?_ | with_reducible refine o_find3 ?_ | with_reducible refine o_add ?_ | with_reducible refine o_sub ?_ | with_reducible refine o_lt ?_ | with_reducible refine o_le ?_ | with_reducible refine o_gt ?_ | with_reducible refine o_ge ?_ | with_reducible refine o_eqI ?_ | with_reducible refine o_neI ?_ | with_reducible refine o_int ?_ | with_reducible refine o_intB ?_ | with_reducible refine o_gcd ?_ | with_reducible refine o_lenT ?_ | with_reducible refine o_lenL ?_ | with_reducible refine o_lenK ?_ | with_reducible refine o_lenO ?_ | with_reducible refine o_isN ?_ | with_reducible refine o_isB ?_ | with_reducible refine o_isnN ?_ | with_reducible refine o_isnB ?_ | with_reducible refine o_neg ?_ | with_reducible refine o_eqS ?_ | with_reducible refine o_neS ?_ | refine w_var rfl ?_ | refine w_gS_cons ?_ | refine w_gS_nil ?_ | refine ws_st_cons ?_ | refine ws_st_nil ?_ | refine w_Js_cons ?_ | refine w_Js_nil ?_ | refine w_gNm rfl ?_ | refine w_gJ rfl (by assumption) ?_ | refine w_gTu rfl ?_ | refine o_isi (by decide) ?_ | refine o_mul (by first | exact cMul_r (by omega) (by omega) | exact cMul_l (by omega) (by omega)) ?_ | refine o_mul (by assumption) ?_ | refine o_mod (by omega) ?_ | refine o_fdivS (by omega) (by omega) ?_ | refine o_absN ?_ | refine ⟨⟨by omega, by omega⟩, ?_⟩ | refine ⟨⟨⟨by omega, by omega⟩, by omega, by omega⟩, ?_⟩ | refine ⟨@rfl _ _, ?_⟩ | refine ⟨⟨@rfl _ _, @rfl _ _⟩, ?_⟩ | refine ⟨_, rfl, ?_⟩ | refine ⟨⟨Nat.le_of_ble_eq_true rfl, fun _ h => nomatch h⟩, ?_⟩ | refine ⟨Nat.le_of_ble_eq_true rfl, ?_⟩ | refine br_true ?_ | refine br_false ?_ | refine w_back rfl ?_ | refine wo rfl ?_)))
local macro_rules | `(tactic| walk_at "WI") => `(tactic| (repeat (first | with_reducible refine ws_seq ?_ | with_reducible refine ws_asg ?_ | with_reducible refine ws_if ?_ | with_reducible refine ws_ret ?_ | with_reducible refine ws_expr ?_ | with_reducible refine ws_par ?_ | with_reducible refine ws_nx ?_ | with_reducible refine ws_bk ?_ | with_reducible refine ws_ct ?_ | with_reducible refine ws_retN ?_ | with_reducible refine ws_st_nil ?_ | with_reducible refine ws_st_cons ?_ | with_reducible refine w_D ?_ | with_reducible refine w_x2 ?_ | with_reducible refine w_x1 ?_ | with_reducible refine w_notV ?_ | with_reducible refine w_Nil ?_ | with_reducible refine w_Cons ?_ | with_reducible refine w_N ?_ | with_reducible refine w_M ?_ | with_reducible refine w_Ty ?_ | with_reducible refine w_Tup ?_ | with_reducible refine w_LstF ?_ | with_reducible refine w_Fz ?_ | with_reducible refine w_T ?_ | with_reducible refine w_Tru ?_ | with_reducible refine w_And ?_ | with_reducible refine w_Or ?_ | with_reducible refine w_Not ?_ | with_reducible refine w_OrV ?_ | with_reducible refine w_AndV ?_ | with_reducible refine w_Js_nil ?_ | with_reducible refine w_Js_cons ?_ | with_reducible refine w_Call ?_ | with_reducible refine w_Mut ?_ | with_reducible refine w_Yes ?_ | with_reducible refine w_gIx ?_ | with_reducible refine w_gS_nil ?_ | with_reducible refine w_gS_cons ?_ | with_reducible refine w_Sq ?_ | with_reducible refine w_Rg1 ?_ | with_reducible refine w_Rg2 ?_ | with_reducible refine w_NoPart ?_ | with_reducible refine w_Part ?_ | with_reducible refine w_Sl ?_ | with_reducible refine ws_aug ?_ | with_reducible refine o_addI ?_ | with_reducible refine o_find2 ?_ | with_reducible refine o_find3 ?_ | with_reducible refine o_add ?_ | with_reducible refine o_sub ?_ | with_reducible refine o_lt ?_ | with_reducible refine o_le ?_ | with_reducible refine o_gt ?_ | with_reducible refine o_ge ?_ | with_reducible refine o_eqI ?_ | with_reducible refine o_neI ?_ | with_reducible refine o_int ?_ | with_reducible refine o_intB ?_ | with_reducible refine o_gcd ?_ | with_reducible refine o_lenT ?_ | with_reducible refine o_lenL ?_ | with_reducible refine o_lenK ?_ | with_reducible refine o_lenO ?_ | with_reducible refine o_isN ?_ | with_reducible refine o_isB ?_ | with_reducible refine o_isnN ?_ | with_reducible refine o_isnB ?_ | with_reducible refine o_neg ?_ | with_reducible refine o_eqS ?_ | with_reducible refine o_neS ?_ | refine w_var rfl ?_ | refine w_gS_cons ?_ | refine w_gS_nil ?_ | refine ws_st_cons ?_ | refine ws_st_nil ?_ | refine w_Js_cons ?_ | refine w_Js_nil ?_ | refine w_gNm rfl ?_ | refine w_gJ rfl (by assumption) ?_ | refine w_gTu rfl ?_ | refine o_isi (by decide) ?_ | refine o_mul (by first | exact cMul_r (by omega) (by omega) | exact cMul_l (by omega) (by omega)) ?_ | refine o_mul (by assumption) ?_ | refine o_mod (by omega) ?_ | refine o_fdivS (by omega) (by omega) ?_ | refine o_absN ?_ | refine ⟨⟨by omega, by omega⟩, ?_⟩ | refine ⟨⟨⟨by omega, by omega⟩, by omega, by omega⟩, ?_⟩ | refine ⟨@rfl _ _, ?_⟩ | refine ⟨⟨@rfl _ _, @rfl _ _⟩, ?_⟩ | refine ⟨_, rfl, ?_⟩ | refine ⟨⟨Nat.le_of_ble_eq_true rfl, fun _ h => nomatch h⟩, ?_⟩ | refine ⟨Nat.le_of_ble_eq_true rfl, ?_⟩ | refine br_true ?_ | refine br_false ?_ | refine w_back rfl ?_ | refine wo rfl ?_)))
local macro_rules | `(tactic| walk_at "NE") => `(tactic| (dsimp only [List.set_cons_succ, List.set_cons_zero, frz]))
local macro_rules | `(tactic| walk_at "FIN") => `(tactic| (first | rfl | exact ⟨rfl, rfl⟩ | exact trivial | exact ⟨trivial, rfl⟩ | exact ⟨trivial, trivial⟩ | exact ⟨rfl, trivial⟩))
theorem ixN_1 {α : Type} {a b : α} : L2.ixN [a, b].length 1 = some 1 := rfl
/-- the box of draws -/
def Box (o : OT) : Prop := ∃ (ds : List Int) (at' : Int), o = .lst [.fz (.lst (ds.map .int)), .fz (.int at')] ∧ 0 ≤ at'
theorem get_map {ds : List Int} {i : Int} (h0 : 0 ≤ i) (h : i < (ds.length : Int)) : ∃ d, L2.atI (ds.map Dat.int) i = some (.int d) ∧ d ∈ ds := by
  have hk : i.toNat < ds.length := by omega
  exact ⟨ds[i.toNat], atI_int h0 (by rw [List.getElem?_map, List.getElem?_eq_getElem hk]; rfl), List.getElem_mem hk⟩
theorem cell_spec {ns : List Int} {k : Int} (h0 : 0 ≤ k) : Wf F__law_cell [.fz (.kst ns), .fz (.int k)] (fun r out => (∃ c, r = .fz (.int c)) ∧ out = .fz .non) nX := by
  refine Wf.run ?_
  show Ws G__law_cell [.vl _, .vl _] _
  unfold G__law_cell
  walk_at "WP"
  refine br_dec (fun h => ?_) (fun h => ?_)
  · have hk : k.toNat < ns.length := by omega
    walk_at "WP"
    refine o_ixK (atI_int h0 (List.getElem?_eq_getElem hk)) ?_
    walk_at "WP"
    exact ⟨⟨_, rfl⟩, rfl⟩
  · walk_at "WP"
    exact ⟨⟨_, rfl⟩, rfl⟩
theorem draw_spec {o : OT} {m : Int} (hb : Box o) (hm : 0 < m) : Wf F__law_draw [o, .fz (.int m)] (fun r out => Box out ∧ ∃ v, r = .fz (.int v) ∧ 0 ≤ v ∧ v < m) nX := by
  obtain ⟨ds, at', rfl, h0⟩ := hb
  refine Wf.run ?_
  show Ws G__law_draw [.io _, .vl _, .un] _
  unfold G__law_draw
  walk_at "WP"
  walk_at "NE"
  have fin : ∀ x : Int, Box (.lst [.fz (.lst (ds.map .int)), .fz (.int (at' + 1))]) ∧ ∃ v, OT.fz (.int (x % m)) = .fz (.int v) ∧ 0 ≤ v ∧ v < m := fun x =>
    ⟨⟨ds, at' + 1, rfl, by omega⟩, _, rfl, Int.emod_nonneg _ (by omega), Int.emod_lt_of_pos _ hm⟩
  refine br_dec (fun h => ?_) (fun h => ?_)
  · rw [List.length_map] at h
    obtain ⟨d, hd, _⟩ := get_map h0 h
    walk_at "WP"
    refine o_ixL hd ?_
    walk_at "WP"
    exact fin _
  · walk_at "WP"
    exact fin _
theorem mem_of_atI {α : Type} {xs : List α} {i : Int} {x : α} (h0 : 0 ≤ i) (h : i < (xs.length : Int)) : ∃ x, L2.atI xs i = some x ∧ x ∈ xs := by
  have hk : i.toNat < xs.length := by omega
  exact ⟨xs[i.toNat], atI_int h0 (List.getElem?_eq_getElem hk), List.getElem_mem hk⟩
theorem pick_specL {o : OT} {xs : List Dat} (hb : Box o) (hx : xs ≠ []) : Wf F__law_pick [o, .fz (.lst xs)] (fun r out => Box out ∧ ∃ d, r = .fz d ∧ d ∈ xs) nX := by
  refine Wf.run ?_
  show Ws G__law_pick [.io _, .vl _] _
  unfold G__law_pick
  have hl : 0 < xs.length := by cases xs with | nil => exact absurd rfl hx | cons a r => simp
  walk_at "WP"
  refine (draw_spec hb (by decide)).go fun r out h => ?_
  obtain ⟨⟨ds1, at1, rfl, hp1⟩, v, rfl, h1, h2⟩ := h
  walk_at "WP"
  have g1 := Int.emod_nonneg v (show ((xs.length : Nat) : Int) ≠ 0 by omega)
  have g2 := Int.emod_lt_of_pos v (show (0 : Int) < (xs.length : Nat) by omega)
  obtain ⟨x, e, hm⟩ := mem_of_atI (x := xs[0]) g1 g2
  refine o_ixL e ?_
  walk_at "WP"
  exact ⟨⟨ds1, at1, rfl, hp1⟩, x, rfl, hm⟩
theorem pick_specT {o : OT} {xs : List Dat} (hb : Box o) (hx : xs ≠ []) : Wf F__law_pick [o, .fz (.tup xs)] (fun r out => Box out ∧ ∃ d, r = .fz d ∧ d ∈ xs) nX := by
  refine Wf.run ?_
  show Ws G__law_pick [.io _, .vl _] _
  unfold G__law_pick
  have hl : 0 < xs.length := by cases xs with | nil => exact absurd rfl hx | cons a r => simp
  walk_at "WP"
  refine (draw_spec hb (by decide)).go fun r out h => ?_
  obtain ⟨⟨ds1, at1, rfl, hp1⟩, v, rfl, h1, h2⟩ := h
  walk_at "WP"
  have g1 := Int.emod_nonneg v (show ((xs.length : Nat) : Int) ≠ 0 by omega)
  have g2 := Int.emod_lt_of_pos v (show (0 : Int) < (xs.length : Nat) by omega)
  obtain ⟨x, e, hm⟩ := mem_of_atI (x := xs[0]) g1 g2
  refine o_ixT e ?_
  walk_at "WP"
  exact ⟨⟨ds1, at1, rfl, hp1⟩, x, rfl, hm⟩
theorem mod_nn {x m : Int} (h : 0 < m) : 0 ≤ x % m ∧ x % m < m := ⟨Int.emod_nonneg _ (by omega), Int.emod_lt_of_pos _ h⟩
/-- the digits that were made so far -/
def Dig (n : Nat) (o : OT) : Prop := ∃ ds : List Int, o = .lst (ds.map fun d => .fz (.int d)) ∧ ds.length ≤ n
theorem Dig.app {n m : Nat} {ds : List Int} {d : Int} (h : ds.length ≤ n) (hm : n + 1 ≤ m) : Dig m (.lst (ds.map (fun d => OT.fz (.int d)) ++ [.fz (.int d)])) := ⟨ds ++ [d], by simp, by simp; omega⟩
theorem Dig.mono {n m : Nat} {o : OT} (h : Dig n o) (hm : n ≤ m) : Dig m o := by
  obtain ⟨ds, rfl, h⟩ := h
  exact ⟨ds, rfl, Nat.le_trans h hm⟩
theorem digits_spec {ns : List Int} : Wf F__law_digits [.fz (.kst ns), .fz (.int 0), .fz (.int 63)] (fun r out => Dig 3780 r ∧ out = .fz .non) nX := by
  refine Wf.run ?_
  show Ws G__law_digits [.vl _, .vl _, .vl _, .un, .un, .un, .un, .un] _
  unfold G__law_digits
  walk_at "WP"
  walk_at "NE"
  refine ws_for ?_
  walk_at "WP"
  refine ⟨fun k ρ => ∃ o a b c d, Dig (60 * k) o ∧ Jk a ∧ Jk b ∧ Jk c ∧ Jk d ∧ ρ = [.vl (.fz (.kst ns)), .vl (.fz (.int 0)), .vl (.fz (.int 63)), .vl o, a, b, c, d], ?_, ?_, ?_⟩
  · exact ⟨_, _, _, _, _, ⟨[], rfl, Nat.le_refl _⟩, jk_un, jk_un, jk_un, jk_un, rfl⟩
  · rintro k d ρ hd ⟨o, a, b, c, e, ho, ha, hb, hc, he, rfl⟩
    obtain ⟨hk, rfl⟩ := rng_inv hd
    simp only [Int.zero_add]
    walk_at "WP"
    refine (cell_spec (by omega)).go fun r out h => ?_
    obtain ⟨⟨x, rfl⟩, rfl⟩ := h
    walk_at "WQ"
    walk_at "NE"
    refine ws_J (fun ρ => ∃ (y : Int) (b e : Sl), Jk b ∧ Jk e ∧ ρ = [.vl (.fz (.kst ns)), .vl (.fz (.int 0)), .vl (.fz (.int 63)), .vl o, .vl (.fz (.int (k : Int))), .vl (.fz (.int y)), b, e]) ?_ (fun ρ h => ?_)
    · walk_at "WP"
      refine br_dec (fun h => ?_) (fun h => ?_)
      · walk_at "WP"
        walk_at "NE"
        exact ⟨_, _, _, hc, he, rfl⟩
      · walk_at "WP"
        exact ⟨_, _, _, hc, he, rfl⟩
    obtain ⟨y, b, e, hb, he, rfl⟩ := h
    have hko : 60 * k ≤ 3780 := by omega
    obtain ⟨ds, rfl, hds⟩ := ho
    walk_at "WP"
    rw [List.length_map]
    refine br_dec (fun h => ?_) (fun h => ?_)
    · walk_at "WP"
      exact ⟨⟨ds, rfl, Nat.le_trans hds hko⟩, rfl⟩
    · walk_at "WP"
      refine br_dec (fun h => ?_) (fun h => ?_)
      · refine ws_for ?_
        walk_at "WP"
        refine ⟨fun j ρ => ∃ (o : OT) (y : Int) (b e : Sl), Dig (60 * k + j) o ∧ Jk b ∧ Jk e ∧ ρ = [.vl (.fz (.kst ns)), .vl (.fz (.int 0)), .vl (.fz (.int 63)), .vl o, .vl (.fz (.int (k : Int))), .vl (.fz (.int y)), b, e], ?_, ?_, ?_⟩
        · exact ⟨_, _, _, _, ⟨ds, rfl, hds⟩, hb, he, rfl⟩
        · rintro j d ρ hd ⟨o, y, b, e, ho, hb, he, rfl⟩
          obtain ⟨hj, rfl⟩ := rng_inv hd
          obtain ⟨ds, rfl, hds⟩ := ho
          walk_at "WP"
          refine br_dec (fun h => ?_) (fun h => ?_)
          · walk_at "WP"
            refine o_app ?_ ?_
            · rw [List.length_map]; show ds.length < 16777216; omega
            walk_at "WP"
            walk_at "NE"
            exact ⟨_, _, _, _, Dig.app hds (by omega), jk_vl, he, rfl⟩
          · walk_at "WP"
            walk_at "NE"
            exact ⟨_, _, _, _, ⟨ds, rfl, by omega⟩, jk_vl, he, rfl⟩
        · rintro ρ ⟨o, y, b, e, ho, hb, he, rfl⟩
          have ho : Dig (60 * k + 60) o := ho
          exact ⟨_, _, _, _, _, ho.mono (by omega), jk_vl, jk_vl, hb, he, rfl⟩
      · walk_at "WP"
        walk_at "NE"
        refine ws_for ?_
        walk_at "WP"
        refine ⟨fun j ρ => ∃ (o : OT) (y z : Int) (b : Sl), Dig (60 * k + j) o ∧ Jk b ∧ ρ = [.vl (.fz (.kst ns)), .vl (.fz (.int 0)), .vl (.fz (.int 63)), .vl o, .vl (.fz (.int (k : Int))), .vl (.fz (.int y)), b, .vl (.fz (.int z))], ?_, ?_, ?_⟩
        · exact ⟨_, _, _, _, ⟨ds, rfl, hds⟩, hb, rfl⟩
        · rintro j d ρ hd ⟨o, y, z, b, ho, hb, rfl⟩
          obtain ⟨hj, rfl⟩ := rng_inv hd
          obtain ⟨ds, rfl, hds⟩ := ho
          walk_at "WP"
          refine o_app ?_ ?_
          · rw [List.length_map]; show ds.length < 16777216; omega
          walk_at "WP"
          walk_at "NE"
          exact ⟨_, _, _, _, Dig.app hds (by omega), jk_vl, rfl⟩
        · rintro ρ ⟨o, y, z, b, ho, hb, rfl⟩
          have ho : Dig (60 * k + 12) o := ho
          exact ⟨_, _, _, _, _, ho.mono (by omega), jk_vl, jk_vl, hb, jk_vl, rfl⟩
  · rintro ρ ⟨o, a, b, c, e, ho, ha, hb, hc, he, rfl⟩
    walk_at "WP"
    exact ⟨ho, rfl⟩
/-- plain data, at most n deep -/
def plD : Nat → Dat → Bool
  | _, .non => true
  | _, .bl _ => true
  | _, .int _ => true
  | _, .str s => decide (s.length ≤ 16777216)
  | n + 1, .tup xs => decide (xs.length ≤ 16777216) && xs.all (plD n)
  | _, _ => false
theorem like_refl : ∀ (n : Nat) (d : Dat), plD n d = true → Wf (F__law_like (n + 1)) [.fz d, .fz d] (fun r out => r = .fz (.bl true) ∧ out = .fz .non) nX
  | n, .non, _ => by
    refine Wf.run ?_
    show Ws (G__law_like _) [.vl _, .vl _, .un] _
    unfold G__law_like
    walk_at "WP"
    rfl
  | n, .bl b, _ => by
    refine Wf.run ?_
    show Ws (G__law_like _) [.vl _, .vl _, .un] _
    unfold G__law_like
    walk_at "WP"
    cases b
    · walk_at "WP"
      rfl
    · walk_at "WP"
      rfl
  | n, .int i, _ => by
    refine Wf.run ?_
    show Ws (G__law_like _) [.vl _, .vl _, .un] _
    unfold G__law_like
    walk_at "WP"
    exact ⟨by simp, rfl⟩
  | n, .str s, h => by
    have hs : s.length ≤ 16777216 := by cases n <;> exact of_decide_eq_true h
    refine Wf.run ?_
    show Ws (G__law_like _) [.vl _, .vl _, .un] _
    unfold G__law_like
    walk_at "WP"
    refine o_join (ds := [.str s]) (ys := [s]) rfl rfl (by show s.length + 0 + 1 * (Str.ofString "").length ≤ _; rw [show (Str.ofString "").length = 0 from rfl]; omega) ?_
    walk_at "WP"
    have e : Txt.join (Str.ofString "") [s] = s := rfl
    exact ⟨by simp [e], rfl⟩
  | n + 1, .tup xs, h => by
    have h : (decide (xs.length ≤ 16777216) && xs.all (plD n)) = true := h
    simp only [Bool.and_eq_true, decide_eq_true_eq, List.all_eq_true] at h
    have h1 := h
    refine Wf.run ?_
    show Ws (G__law_like _) [.vl _, .vl _, .un] _
    unfold G__law_like
    walk_at "WP"
    refine br_not (br_dec (fun h => ?_) (fun h => absurd rfl h))
    walk_at "WP"
    refine w_LcP ?_
    walk_at "WP"
    refine ⟨⟨by rw [rngL_length]; show _ ≤ 16777216; omega, fun _ h => nomatch h⟩, fun _ => none, fun d hd => ?_, rfl, ?_⟩
    · obtain ⟨k, hk, rfl⟩ := rng_mem hd
      simp only [Int.zero_add]
      have hk : k < xs.length := by omega
      have hx := atI_int (xs := xs) (i := (k : Int)) (by omega) (by rw [Int.toNat_natCast]; exact List.getElem?_eq_getElem hk)
      have hm := List.getElem_mem hk
      walk_at "WP"
      refine o_ixT hx ?_
      walk_at "WP"
      refine o_ixT hx ?_
      walk_at "WP"
      refine (like_refl n _ (h1.2 _ hm)).go fun r out h => ?_
      obtain ⟨rfl, rfl⟩ := h
      walk_at "WP"
      exact ⟨trivial, rfl⟩
    · simp only [fm_none]
      walk_at "WP"
      rfl
  | n, .lst xs, h => by cases n <;> cases h
  | n, .dic xs, h => by cases n <;> cases h
  | n, .kst xs, h => by cases n <;> cases h
  | 0, .tup xs, h => by cases h
end Com

namespace T21
open PySem PySem.Spec L2 Lay TL
theorem spl_ne (c : Nat) : ∀ (l acc : List Nat), spl [c] 0 acc l ≠ []
  | [], acc => by rw [spl_nil]; simp
  | d :: r, acc => by
    by_cases h : d = c
    · subst h
      have hp : pre [d] (d :: r) = true := pre_self [d] r
      rw [spl_hit hp]; simp
    · rw [spl_miss (pre_of_head [] r h)]
      exact spl_ne c r _
theorem join_spl (c : Nat) (z : List Nat) : ∀ (l acc : List Nat), joinL z (spl [c] 0 acc l) = acc ++ l.flatMap fun k => if k = c then z else [k]
  | [], acc => by rw [spl_nil]; simp [joinL]
  | d :: r, acc => by
    by_cases h : d = c
    · subst h
      have hp : pre [d] (d :: r) = true := pre_self [d] r
      rw [spl_hit hp]
      have ih := join_spl d z r []
      have ne := spl_ne d r []
      show joinL z (acc :: spl [d] 0 [] r) = _
      cases e : spl [d] 0 [] r with
      | nil => exact absurd e ne
      | cons p q =>
        rw [e] at ih
        show acc ++ (z ++ joinL z (p :: q)) = _
        rw [ih]
        simp
    · rw [spl_miss (pre_of_head [] r h), join_spl c z r]
      simp [h]
theorem tl_replace (x z : Str) (c : Nat) (hc : c < 256) : tl (Txt.replace x ⟨#[c]⟩ z) = (tl x).flatMap fun k => if k = c then tl z else [k] := by
  rw [PySem.StrLaws.replace_one, tl_join, split_spl x ⟨#[c]⟩ (by simp [tl]) (kind_ok (by simp [hc]))]
  exact join_spl c (tl z) (tl x) []
/-- a text's sign as it is written -/
def esc1 (k : Nat) : List Nat := if k = 92 then [92, 92] else if k = 34 then [92, 34] else if k = 10 then [92, 110] else [k]
def esc (l : List Nat) : List Nat := l.flatMap esc1
theorem esc_three (l : List Nat) : ((l.flatMap fun k => if k = 92 then [92, 92] else [k]).flatMap fun k => if k = 34 then [92, 34] else [k]).flatMap (fun k => if k = 10 then [92, 110] else [k]) = esc l := by
  rw [List.flatMap_assoc, List.flatMap_assoc]
  unfold esc
  congr 1
  funext k
  unfold esc1
  by_cases h1 : k = 92
  · subst h1; rfl
  · by_cases h2 : k = 34
    · subst h2; rfl
    · by_cases h3 : k = 10
      · subst h3; rfl
      · simp [h1, h2, h3]
theorem tl_quoted (x : Str) : tl (Txt.replace (Txt.replace (Txt.replace x "\\" "\\\\") "\"" "\\\"") "\n" "\\n") = esc (tl x) := by
  rw [← esc_three]
  have h1 := tl_replace x "\\\\" 92 (by decide)
  have h2 := tl_replace (Txt.replace x "\\" "\\\\") "\\\"" 34 (by decide)
  have h3 := tl_replace (Txt.replace (Txt.replace x "\\" "\\\\") "\"" "\\\"") "\\n" 10 (by decide)
  have e1 : (⟨#[92]⟩ : Str) = Str.ofString "\\" := by decide +kernel
  have e2 : (⟨#[34]⟩ : Str) = Str.ofString "\"" := by decide +kernel
  have e3 : (⟨#[10]⟩ : Str) = Str.ofString "\n" := by decide +kernel
  have t1 : tl (Str.ofString "\\\\") = [92, 92] := by decide +kernel
  have t2 : tl (Str.ofString "\\\"") = [92, 34] := by decide +kernel
  have t3 : tl (Str.ofString "\\n") = [92, 110] := by decide +kernel
  rw [e1, t1] at h1
  rw [e2, t2] at h2
  rw [e3, t3] at h3
  rw [h3, h2, h1]
/-- a slice, sign by sign -/
theorem tl_cut (x : Str) (i j : Nat) (h : i ≤ j) : tl (cutS x (some (i : Int)) (some (j : Int))) = ((tl x).drop i).take (j - i) := by
  have hl := len_tl x
  unfold cutS
  rw [tl_mk, HT.sIx_nat, HT.sIx_nat]
  show ((tl x).drop (min i x.length)).take _ = _
  by_cases hi : x.length ≤ i
  · rw [Nat.min_eq_right hi, List.drop_eq_nil_of_le (by omega), List.drop_eq_nil_of_le (by omega)]
    simp
  · rw [Nat.min_eq_left (show i ≤ x.length by omega)]
    by_cases hj : x.length ≤ j
    · rw [Nat.min_eq_right hj, List.take_of_length_le (by rw [List.length_drop]; omega), List.take_of_length_le (by rw [List.length_drop]; omega)]
    · rw [Nat.min_eq_left (show j ≤ x.length by omega)]
/-- where a sign stands -/
theorem occ_in (x y : Str) (lo hi : Nat) : (Builtin.Str.occurrences x y lo hi 1 = [] ∧ ∀ i, lo ≤ i → ¬ StrLaws.At x y hi i) ∨
    ∃ i r, Builtin.Str.occurrences x y lo hi 1 = i :: r ∧ lo ≤ i ∧ StrLaws.At x y hi i ∧ ∀ k, lo ≤ k → k < i → ¬ StrLaws.At x y hi k := by
  have mem : ∀ i, lo ≤ i → StrLaws.At x y hi i → i ∈ List.range' lo (hi + 1 - lo) := fun i h1 h2 => by
    have := h2.1
    rw [List.mem_range'_1]
    omega
  rw [StrLaws.occ_eq]
  rcases StrLaws.occ_first x y hi 1 (by decide) (List.range' lo (hi + 1 - lo)) lo (fun i h => (List.mem_range'_1.mp h).1) with ⟨g1, g2⟩ | ⟨p, a, q, e, g1, g2, g3⟩
  · left
    rw [g1]
    exact ⟨rfl, fun i h1 h2 => g2 i (mem i h1 h2) h2⟩
  · right
    have hp : ∀ m, m < p.length → p[m]? = some (lo + m) := fun m hm => by
      have h1 : (List.range' lo (hi + 1 - lo))[m]? = p[m]? := by rw [e, List.getElem?_append_left hm]
      have h2 : m < (List.range' lo (hi + 1 - lo)).length := by rw [e, List.length_append]; omega
      rw [← h1, List.getElem?_eq_getElem h2, List.getElem_range']
      simp
    have ha : a = lo + p.length := by
      have h1 : (List.range' lo (hi + 1 - lo))[p.length]? = some a := by rw [e, List.getElem?_append_right (Nat.le_refl _), Nat.sub_self]; rfl
      have h2 := (List.getElem?_eq_some_iff.mp h1)
      obtain ⟨h3, h4⟩ := h2
      rw [List.getElem_range'] at h4
      omega
    generalize (forIn (List.range' lo (hi + 1 - lo)) ((#[] : Array Nat), lo) (StrLaws.occBody x y hi 1)).run.fst = arr at g1
    obtain ⟨l⟩ := arr
    cases l with
    | nil => simp at g1
    | cons b r =>
      have hb : b = a := by simpa using g1
      subst hb
      refine ⟨b, r, rfl, by omega, g2, fun k h1 h2 => ?_⟩
      have hk := hp (k - lo) (by omega)
      rw [show lo + (k - lo) = k by omega] at hk
      exact g3 k (List.mem_of_getElem? hk)
theorem at_sign (x : Str) (c hi i : Nat) (hh : hi ≤ x.length) : StrLaws.At x ⟨#[c]⟩ hi i ↔ i < hi ∧ (tl x)[i]? = some c := by
  have h := StrLaws.subAt_one x c i
  have e : (⟨#[c]⟩ : Str).length = 1 := rfl
  constructor
  · intro ⟨h1, h2⟩
    rw [e] at h1
    exact ⟨by omega, h.mp ⟨by rw [e]; omega, h2⟩⟩
  · intro ⟨h1, h2⟩
    exact ⟨by rw [e]; omega, (h.mpr h2).2⟩
theorem find_hit {x : Str} {A p R : List Nat} {c hi : Nat} (hx : tl x = A ++ (p ++ c :: R)) (hp : c ∉ p) (h1 : A.length + p.length < hi) (h2 : hi ≤ x.length) : Txt.findIn x ⟨#[c]⟩ (A.length : Int) (hi : Int) = ((A.length + p.length : Nat) : Int) := by
  have ef : fromIndex x.length (A.length : Int) = A.length := by unfold fromIndex; omega
  have et : toIndexW x.length (hi : Int) = hi := by unfold toIndexW; omega
  have here : (tl x)[A.length + p.length]? = some c := by
    rw [hx, List.getElem?_append_right (by omega), show A.length + p.length - A.length = p.length by omega, List.getElem?_append_right (by omega), Nat.sub_self]
    rfl
  unfold Txt.findIn
  rw [ef, et]
  rcases occ_in x ⟨#[c]⟩ A.length hi with ⟨e, n⟩ | ⟨k, r, e, g1, g2, g3⟩
  · exact absurd ((at_sign x c hi _ h2).mpr ⟨h1, here⟩) (n _ (by omega))
  · rw [e]
    have hk := ((at_sign x c hi k h2).mp g2).2
    rcases Nat.lt_trichotomy k (A.length + p.length) with z | z | z
    · exfalso
      rw [hx, List.getElem?_append_right g1, List.getElem?_append_left (by omega)] at hk
      exact hp (List.mem_of_getElem? hk)
    · simp only [z]
    · exact absurd ((at_sign x c hi _ h2).mpr ⟨h1, here⟩) (g3 _ (by omega) z)
theorem find_miss {x : Str} {A p R : List Nat} {c : Nat} (hx : tl x = A ++ (p ++ R)) (hp : c ∉ p) : Txt.findIn x ⟨#[c]⟩ (A.length : Int) ((A.length + p.length : Nat) : Int) = -1 := by
  have hl := len_tl x
  have h2 : A.length + p.length ≤ x.length := by rw [hl, hx]; simp
  have ef : fromIndex x.length (A.length : Int) = A.length := by unfold fromIndex; omega
  have et : toIndexW x.length ((A.length + p.length : Nat) : Int) = A.length + p.length := by unfold toIndexW; omega
  unfold Txt.findIn
  rw [ef, et]
  rcases occ_in x ⟨#[c]⟩ A.length (A.length + p.length) with ⟨e, n⟩ | ⟨k, r, e, g1, g2, g3⟩
  · rw [e]
  · exfalso
    obtain ⟨k1, k2⟩ := (at_sign x c _ k h2).mp g2
    rw [hx, List.getElem?_append_right g1, List.getElem?_append_left (by omega)] at k2
    exact hp (List.mem_of_getElem? k2)
theorem find3_in (x y : Str) (i : Int) : Txt.find3 x y i = Txt.findIn x y i (x.length : Int) := by
  have et : toIndexW x.length (x.length : Int) = x.length := by unfold toIndexW; omega
  unfold Txt.find3 Txt.findIn
  rw [et]
  cases Builtin.Str.occurrences x y (fromIndex x.length i) x.length 1 <;> rfl
end T21

namespace T22
open PySem PySem.Spec L2 Lay TL T21

/-! ### what both readers do, sign by sign -/
inductive PR where
  | ok (d : Dat) (p : Nat) (S : List Nat)
  | bad (q : Nat)
def un (d : Nat) : Nat := if d = 110 then 10 else d
def textP : List Nat → Nat → List Nat → PR
  | [], p, _ => .bad p
  | [c], p, a => if c = 34 then .ok (.str ⟨a.toArray⟩) (p + 1) [] else .bad (p + 1)
  | c :: d :: S, p, a => if c = 34 then .ok (.str ⟨a.toArray⟩) (p + 1) (d :: S) else if c = 92 then (if d = 92 ∨ d = 34 ∨ d = 110 then textP S (p + 2) (a ++ [un d]) else .bad (p + 1)) else textP (d :: S) (p + 1) (a ++ [c])
def fig (c : Nat) : Bool := decide (48 ≤ c) && decide (c ≤ 57)
def figs (B : List Nat) : List Nat := B.takeWhile fig
def rest (B : List Nat) : List Nat := B.dropWhile fig
/-- with the sign gone -/
def numB (neg : Bool) (B : List Nat) (b : Nat) : PR :=
  if figs B = [] then .bad b else if (figs B).head? = some 48 ∧ neg = true then .bad b else if (figs B).head? = some 48 ∧ 2 ≤ (figs B).length then .bad (b + 1) else if 2000 < (figs B).length then .bad (b + 2000)
  else .ok (.int (if neg then -((PySem.NumText.digitsVal (figs B) : Nat) : Int) else ((PySem.NumText.digitsVal (figs B) : Nat) : Int))) (b + (figs B).length) (rest B)
def numP (S : List Nat) (p : Nat) : PR := match S with
  | 45 :: B => numB true B (p + 1)
  | B => numB false B p
mutual
def valP : Nat → Nat → Nat → List Nat → PR
  | 0, _, p, _ => .bad p
  | f + 1, deep, p, S => match S with
    | [] => .bad p
    | c :: R => if c = 78 then .ok .non (p + 1) R else if c = 84 then .ok (.bl true) (p + 1) R else if c = 70 then .ok (.bl false) (p + 1) R else if c = 34 then textP R (p + 1) []
      else if c = 40 then (if deep = 40 then .bad p else if R.head? = some 41 then .ok (.tup []) (p + 2) R.tail else tupP f (deep + 1) (p + 1) R []) else numP (c :: R) p
def tupP : Nat → Nat → Nat → List Nat → List Dat → PR
  | 0, _, p, _, _ => .bad p
  | f + 1, deep, p, S, acc => match valP f deep p S with
    | .bad q => .bad q
    | .ok d p' S' => match S' with
      | [] => .bad p'
      | c :: R => if c = 41 then .ok (.tup (acc ++ [d])) (p' + 1) R else if c = 32 then tupP f deep (p' + 1) R (acc ++ [d]) else .bad p'
end
/-- a text stands at its place -/
def At (t : Str) (p : Nat) (S : List Nat) : Prop := ∃ A, tl t = A ++ S ∧ A.length = p
theorem At.len {t : Str} {p : Nat} {S : List Nat} (h : At t p S) : t.length = p + S.length := by
  obtain ⟨A, e, rfl⟩ := h
  rw [len_tl, e, List.length_append]
theorem At.next {t : Str} {p : Nat} {c : Nat} {S : List Nat} (h : At t p (c :: S)) : At t (p + 1) S := by
  obtain ⟨A, e, rfl⟩ := h
  exact ⟨A ++ [c], by rw [e]; simp, by simp⟩
theorem At.app {t : Str} {p : Nat} {P S : List Nat} (h : At t p (P ++ S)) : At t (p + P.length) S := by
  obtain ⟨A, e, rfl⟩ := h
  exact ⟨A ++ P, by rw [e]; simp, by simp⟩
theorem At.cut {t : Str} {p : Nat} {S : List Nat} (h : At t p S) : cutS t (some (p : Int)) (some ((p : Int) + 1)) = ⟨(S.take 1).toArray⟩ := by
  obtain ⟨A, e, rfl⟩ := h
  refine ext_tl ?_
  have := tl_cut t A.length (A.length + 1) (by omega)
  rw [show ((A.length + 1 : Nat) : Int) = (A.length : Int) + 1 by omega] at this
  rw [this, e, List.drop_left, show A.length + 1 - A.length = 1 by omega, tl_mk]
theorem At.ix {t : Str} {p c : Nat} {S : List Nat} (h : At t p (c :: S)) : L2.atI t.cps.toList (p : Int) = some c := by
  obtain ⟨A, e, rfl⟩ := h
  refine atI_int (by omega) ?_
  show (tl t)[_]? = _
  rw [e, Int.toNat_natCast, List.getElem?_append_right (Nat.le_refl _), Nat.sub_self]
  rfl
theorem At.seg {t : Str} {p : Nat} {P S : List Nat} (h : At t p (P ++ S)) : cutS t (some (p : Int)) (some ((p + P.length : Nat) : Int)) = ⟨P.toArray⟩ := by
  obtain ⟨A, e, rfl⟩ := h
  refine ext_tl ?_
  rw [tl_cut t _ _ (Nat.le_add_right _ _), e, tl_mk, List.drop_left, show A.length + P.length - A.length = P.length by omega, List.take_left]
theorem figs_rest (B : List Nat) : figs B ++ rest B = B := List.takeWhile_append_dropWhile
theorem figs_all {B : List Nat} : ∀ c ∈ figs B, 48 ≤ c ∧ c ≤ 57 := by
  induction B with
  | nil => intro c h; cases h
  | cons b B ih =>
    intro c h
    unfold figs at h
    rw [List.takeWhile_cons] at h
    split at h
    · rename_i hb
      rcases List.mem_cons.mp h with rfl | h
      · simpa [fig] using hb
      · exact ih c h
    · cases h
/-- every text that is read lies within -/
theorem textP_at {t : Str} : ∀ (S : List Nat) (p : Nat) (a : List Nat) (d : Dat) (p' : Nat) (S' : List Nat), At t p S → textP S p a = .ok d p' S' → At t p' S' ∧ p < p' ∧ ∃ s, d = .str s ∧ s.length + p ≤ a.length + p'
  | [], p, a, d, p', S', h, e => by unfold textP at e; cases e
  | [c], p, a, d, p', S', h, e => by
    unfold textP at e
    split at e
    · cases e
      exact ⟨h.next, by omega, _, rfl, by show a.toArray.size + p ≤ _; rw [List.size_toArray]; omega⟩
    · cases e
  | c :: b :: S, p, a, d, p', S', h, e => by
    unfold textP at e
    split at e
    · cases e
      exact ⟨h.next, by omega, _, rfl, by show a.toArray.size + p ≤ _; rw [List.size_toArray]; omega⟩
    · split at e
      · split at e
        · obtain ⟨h1, h2, s, rfl, h3⟩ := textP_at S _ _ d p' S' h.next.next e
          exact ⟨h1, by omega, s, rfl, by rw [List.length_append, List.length_singleton] at h3; omega⟩
        · cases e
      · obtain ⟨h1, h2, s, rfl, h3⟩ := textP_at (b :: S) _ _ d p' S' h.next e
        exact ⟨h1, by omega, s, rfl, by rw [List.length_append, List.length_singleton] at h3; omega⟩
theorem numB_at {t : Str} {neg : Bool} {B : List Nat} {b : Nat} {d : Dat} {p' : Nat} {S' : List Nat} (h : At t b B) (e : numB neg B b = .ok d p' S') : At t p' S' ∧ b < p' ∧ ∃ i, d = .int i := by
  unfold numB at e
  split at e
  · cases e
  · rename_i hne
    have h0 : 0 < (figs B).length := List.length_pos_iff.mpr hne
    split at e
    · cases e
    · split at e
      · cases e
      · split at e
        · cases e
        · cases e
          refine ⟨At.app (P := figs B) (by rw [figs_rest]; exact h), by omega, _, rfl⟩
theorem numP_neg (B : List Nat) (p : Nat) : numP (45 :: B) p = numB true B (p + 1) := rfl
theorem numP_pos {S : List Nat} (h : S.head? ≠ some 45) (p : Nat) : numP S p = numB false S p := by
  unfold numP
  split
  · exact absurd rfl h
  · rfl
theorem numP_at {t : Str} {S : List Nat} {p : Nat} {d : Dat} {p' : Nat} {S' : List Nat} (h : At t p S) (e : numP S p = .ok d p' S') : At t p' S' ∧ p < p' ∧ ∃ i, d = .int i := by
  by_cases hS : S.head? = some 45
  · obtain ⟨B, rfl⟩ : ∃ B, S = 45 :: B := by
      cases S with
      | nil => cases hS
      | cons c B => exact ⟨B, by rw [Option.some.inj hS]⟩
    rw [numP_neg] at e
    obtain ⟨h1, h2, h3⟩ := numB_at h.next e
    exact ⟨h1, by omega, h3⟩
  · rw [numP_pos hS] at e
    exact numB_at h e
/-- values, at most n deep, their tuples at most m long -/
def vd : Nat → Dat → Bool
  | _, .non => true
  | _, .bl _ => true
  | _, .int _ => true
  | _, .str _ => true
  | n + 1, .tup xs => xs.all (vd n)
  | _, _ => false
theorem vd_scal {d : Dat} (n : Nat) (h : (∃ s, d = .str s) ∨ (∃ i, d = .int i) ∨ (∃ b, d = .bl b) ∨ d = .non) : vd n d = true := by
  rcases h with ⟨s, rfl⟩ | ⟨i, rfl⟩ | ⟨b, rfl⟩ | rfl <;> cases n <;> rfl
mutual
theorem valP_at {t : Str} : ∀ (f deep p : Nat) (S : List Nat) (d : Dat) (p' : Nat) (S' : List Nat), deep ≤ 40 → At t p S → valP f deep p S = .ok d p' S' → At t p' S' ∧ p < p' ∧ vd (40 - deep) d = true
  | 0, _, _, _, _, _, _, _, _, e => by unfold valP at e; cases e
  | f + 1, deep, p, [], d, p', S', hd, h, e => by unfold valP at e; cases e
  | f + 1, deep, p, c :: R, d, p', S', hd, h, e => by
    unfold valP at e
    simp only at e
    split at e
    · cases e; exact ⟨h.next, by omega, vd_scal _ (.inr (.inr (.inr rfl)))⟩
    split at e
    · cases e; exact ⟨h.next, by omega, vd_scal _ (.inr (.inr (.inl ⟨_, rfl⟩)))⟩
    split at e
    · cases e; exact ⟨h.next, by omega, vd_scal _ (.inr (.inr (.inl ⟨_, rfl⟩)))⟩
    split at e
    · obtain ⟨h1, h2, s, rfl, _⟩ := textP_at R _ _ d p' S' h.next e
      exact ⟨h1, by omega, vd_scal _ (.inl ⟨_, rfl⟩)⟩
    split at e
    · split at e
      · cases e
      · rename_i h40
        obtain ⟨m, hm⟩ : ∃ m, 40 - deep = m + 1 := ⟨40 - deep - 1, by omega⟩
        split at e
        · rename_i hR
          cases e
          cases R with
          | nil => cases hR
          | cons b R => exact ⟨h.next.next, by omega, by rw [hm]; rfl⟩
        · obtain ⟨h1, h2, xs, rfl, h3⟩ := tupP_at f (deep + 1) (p + 1) R [] d p' S' (by omega) h.next e
          refine ⟨h1, by omega, ?_⟩
          rw [hm]
          show xs.all (vd m) = true
          have := h3 (by simp)
          rw [show 40 - (deep + 1) = m by omega] at this
          exact this
    · obtain ⟨h1, h2, i, rfl⟩ := numP_at h e
      exact ⟨h1, h2, vd_scal _ (.inr (.inl ⟨_, rfl⟩))⟩
theorem tupP_at {t : Str} : ∀ (f deep p : Nat) (S : List Nat) (acc : List Dat) (d : Dat) (p' : Nat) (S' : List Nat), deep ≤ 40 → At t p S → tupP f deep p S acc = .ok d p' S' → At t p' S' ∧ p < p' ∧ ∃ xs, d = .tup xs ∧ (acc.all (vd (40 - deep)) = true → xs.all (vd (40 - deep)) = true)
  | 0, _, _, _, _, _, _, _, _, _, e => by unfold tupP at e; cases e
  | f + 1, deep, p, S, acc, d, p', S', hd, h, e => by
    unfold tupP at e
    cases e1 : valP f deep p S with
    | bad q => rw [e1] at e; cases e
    | ok x p1 S1 =>
      rw [e1] at e
      obtain ⟨h1, h2, h3⟩ := valP_at f deep p S x p1 S1 hd h e1
      have app : acc.all (vd (40 - deep)) = true → (acc ++ [x]).all (vd (40 - deep)) = true := fun z => by
        rw [List.all_append, z, Bool.true_and]
        simp [h3]
      cases S1 with
      | nil => cases e
      | cons c R =>
        simp only at e
        split at e
        · cases e; exact ⟨h1.next, by omega, _, rfl, app⟩
        split at e
        · obtain ⟨g1, g2, xs, rfl, g3⟩ := tupP_at f deep (p1 + 1) R (acc ++ [x]) d p' S' hd h1.next e
          exact ⟨g1, by omega, xs, rfl, fun z => g3 (app z)⟩
        · cases e
end
mutual
theorem vd_solid : ∀ (n : Nat) (d : Dat), vd n d = true → solid d = true
  | n, .non, _ => rfl
  | n, .bl _, _ => rfl
  | n, .int _, _ => rfl
  | n, .str _, _ => rfl
  | n + 1, .tup xs, h => by
    show solids xs = true
    exact vds_solid n xs h
  | 0, .tup xs, h => by cases h
  | n, .lst _, h => by cases n <;> cases h
  | n, .dic _, h => by cases n <;> cases h
  | n, .kst _, h => by cases n <;> cases h
theorem vds_solid : ∀ (n : Nat) (ds : List Dat), ds.all (vd n) = true → solids ds = true
  | n, [], _ => rfl
  | n, d :: ds, h => by
    rw [List.all_cons, Bool.and_eq_true] at h
    show (solid d && solids ds) = true
    rw [vd_solid n d h.1, vds_solid n ds h.2]
    rfl
end
end T22

namespace K22
open PySem PySem.Spec L2 Lay
def top (i : Nat) : Stmt := PySem.Challenge.pw_tileyard_k22_plain_wrong_texts.main.body.getD i (.Pass ⟨0, 0, 0, 0⟩)
def C_FIGURES : Dat := .str "0123456789"
def C_MOST_BRACKETS : Dat := .int 40
def C_MOST_FIGURES : Dat := .int 2000
def ini_BadPlain : Stmt := (clsBody (top 3)).getD 0 (.Pass ⟨0, 0, 0, 0⟩)
structure Mg (K : PySem.W.Frag) (mgf : Str → Option Value) : Prop where
  idl : PySem.W.nsIn K cStatics "sys.int_max_str_digits" = some none
  b_ValueError : mgf "ValueError" = none
  b_bool : mgf "bool" = none
  b_int : mgf "int" = none
  b_isinstance : mgf "isinstance" = none
  b_len : mgf "len" = none
  b_ord : mgf "ord" = none
  b_range : mgf "range" = none
  b_str : mgf "str" = none
  b_tuple : mgf "tuple" = none
  c_FIGURES : GD mgf "FIGURES" C_FIGURES
  c_MOST_BRACKETS : GD mgf "MOST_BRACKETS" C_MOST_BRACKETS
  c_MOST_FIGURES : GD mgf "MOST_FIGURES" C_MOST_FIGURES
section
variable {P : Program} {w : World} {K : PySem.W.Frag} {mgf : Str → Option Value} {base : Heap} {f : Addr} {fd : FuncData} {C_BadPlain : Addr} {C_BadText : Addr} {C_TileError : Addr}
/-! _law_cell -/
abbrev G__law_cell := Com.G__law_cell
abbrev F__law_cell := Com.F__law_cell
theorem sc__law_cell : FnScope ["script", "k"] ["script", "k"] (defScope (top 14)) := ⟨rfl, rfl, rfl, by decide +kernel, rfl, by decide +kernel, by decide +kernel⟩
theorem ok__law_cell (mg : Mg K mgf) (F : Fun K "_law_cell" "_law_cell" (top 14) f fd) (mf : mgf "_law_cell" = some (.ref f))  : FnD P w K mgf base "_law_cell" 3 none 2 F__law_cell := by
  have hN := sc__law_cell.nd
  exact ⟨f, fd, ["script", "k"], fn_rule F sc__law_cell rfl (by decide) (by simp) fun cdv A outer s H E hr =>
  (dss_cons (ds_if (dt_cmp op_lt (ok_cmp _) (de_var 1 (pv 1)) (de_cb ok_len (pe_callB call_len rfl mg.b_len bt_len (da_cons (de_var 0 (pv 0)) da_nil)))) (dss_one (ds_ret (de_ix ix_seq ok_ix (de_var 0 (pv 0)) (de_var 1 (pv 1)) (fun _ _ => rfl)))) dss_nil)
  (dss_one (ds_ret (de_int)))), mf, F.kp, F.binds fun _ _ _ _ _ _ us hl => match us, hl with | [_, _], _ => rfl, rfl⟩
/-! _law_digits -/
def G__law_digits : SM :=
  (sSeq (sAsg (xLstF xNil) (gNm 3))
  (sSeq (sFor (iRg2 (xCons (xVar 1) (xCons (xVar 2) xNil))) (gNm 4) (sSeq (sIf (xT (x2 opGt (xN opLen (xCons (xVar 3) xNil)) (xD (.int 1500)))) (sBk) sNx)
  (sSeq (sAsg (xCallN 2 none F__law_cell (xCons (xVar 0) (xCons (xVar 4) xNil))) (gNm 5))
  (sSeq (sIf (xT (x2 opLt (xVar 5) (xD (.int 0)))) (sAsg (x2 opSub (xD (.int 1)) (x2 opMul (xD (.int 2)) (xVar 5))) (gNm 5)) sNx)
  (sIf (xT (x2 opGe (xVar 5) (x2 opPow (xD (.int 10)) (xD (.int 18))))) (sFor (iRg1 (xCons (xD (.int 60)) xNil)) (gNm 6) (sIf (xT (x2 opGt (xVar 5) (xD (.int 0)))) (sSeq (sExpr (xMut "list" 3 (muF muAppend) (xCons (x2 opMod (xN opInt (xCons (xVar 5) xNil)) (xD (.int 1000))) xNil)))
  (sAsg (x2 opFdiv (xVar 5) (xD (.int 1000))) (gNm 5))) sNx)) (sSeq (sAsg (x2 opMod (xN opInt (xCons (x2 opAdd (x2 opAdd (x2 opMul (xVar 5) (xD (.int 48271))) (x2 opMul (xVar 4) (xD (.int 69621)))) (xD (.int 11))) xNil)) (xD (.int 2147483647))) (gNm 7))
  (sFor (iRg1 (xCons (xD (.int 12)) xNil)) (gNm 6) (sSeq (sAsg (x2 opMod (xN opInt (xCons (x2 opAdd (x2 opAdd (x2 opMul (xVar 7) (xD (.int 16807))) (x2 opMul (xD (.int 7)) (xVar 6))) (xD (.int 1))) xNil)) (xD (.int 2147483647))) (gNm 7))
  (sExpr (xMut "list" 3 (muF muAppend) (xCons (x2 opMod (xN opInt (xCons (x2 opFdiv (xVar 7) (xD (.int 997))) xNil)) (xD (.int 1000))) xNil)))))))))))
  (sRet (xVar 3))))
def F__law_digits : FD := runF none 8 3 G__law_digits
theorem sc__law_digits : FnScope ["script", "first", "last", "digits", "k", "cell", "turn", "seed"] ["script", "first", "last"] (defScope (top 15)) := ⟨rfl, rfl, rfl, by decide +kernel, rfl, by decide +kernel, by decide +kernel⟩
theorem ok__law_digits (mg : Mg K mgf) (F : Fun K "_law_digits" "_law_digits" (top 15) f fd) (mf : mgf "_law_digits" = some (.ref f)) (g__law_cell : FnD P w K mgf base "_law_cell" 3 none 2 F__law_cell) : FnD P w K mgf base "_law_digits" 4 none 3 F__law_digits := by
  have hN := sc__law_digits.nd
  exact ⟨f, fd, ["script", "first", "last"], fn_rule F sc__law_digits rfl (by decide) (by simp) fun cdv A outer s H E hr =>
  (dss_cons (ds_set (ps_set hN rfl (Or.inl rfl) (de_lstF da_nil)))
  (dss_cons (ds_for (passes_of rfl) rfl (di_rng2 rfl mg.b_range (da_cons (de_var 1 (pv 1)) (da_cons (de_var 2 (pv 2)) da_nil))) (dg_name (pg_name hN rfl (Or.inl rfl))) (dss_cons (ds_if (dt_cmp op_gt (ok_cmp _) (de_cb ok_len (pe_callB call_len rfl mg.b_len bt_len (da_cons (de_var 3 (pv 3)) da_nil))) (de_int)) (dss_one (ds_break)) dss_nil)
  (dss_cons (ds_set (ps_set hN rfl (Or.inl rfl) (de_call g__law_cell (hr.mono (by omega)) (takes_of rfl rfl rfl rfl) (da_cons (de_var 0 (pv 0)) (da_cons (de_var 4 (pv 4)) da_nil)))))
  (dss_cons (ds_if (dt_cmp op_lt (ok_cmp _) (de_var 5 (pv 5)) (de_int)) (dss_one (ds_set (ps_set hN rfl (Or.inl rfl) (de_op op_sub ok_sub (de_int) (de_op op_mulA ok_mul (de_int) (de_var 5 (pv 5))))))) dss_nil)
  (dss_one (ds_if (dt_cmp op_ge (ok_cmp _) (de_var 5 (pv 5)) (de_op op_pow ok_pow (de_int) (de_int))) (dss_one (ds_for (passes_of rfl) rfl (di_rng1 rfl mg.b_range (da_cons (de_int) da_nil)) (dg_name (pg_name hN rfl (Or.inl rfl))) (dss_one (ds_if (dt_cmp op_gt (ok_cmp _) (de_var 5 (pv 5)) (de_int)) (dss_cons (ds_expr (de_mut mu_append.fz (pe_bm PySem.F.plainAttrs_list PySem.F.slot_list_append PySem.F.type_list_append mt_append (pv 3) (da_cons (de_op op_mod ok_mod (de_cb ok_int (pe_callTy call_int1 rfl mg.b_int bt_int (da_cons (de_var 5 (pv 5)) da_nil))) (de_int)) da_nil))))
  (dss_one (ds_set (ps_set hN rfl (Or.inl rfl) (de_op op_fdivA ok_fdiv (de_var 5 (pv 5)) (de_int)))))) dss_nil)))) (dss_cons (ds_set (ps_set hN rfl (Or.inl rfl) (de_op op_mod ok_mod (de_cb ok_int (pe_callTy call_int1 rfl mg.b_int bt_int (da_cons (de_op op_addA ok_add (de_op op_addA ok_add (de_op op_mulA ok_mul (de_var 5 (pv 5)) (de_int)) (de_op op_mulA ok_mul (de_var 4 (pv 4)) (de_int))) (de_int)) da_nil))) (de_int))))
  (dss_one (ds_for (passes_of rfl) rfl (di_rng1 rfl mg.b_range (da_cons (de_int) da_nil)) (dg_name (pg_name hN rfl (Or.inl rfl))) (dss_cons (ds_set (ps_set hN rfl (Or.inl rfl) (de_op op_mod ok_mod (de_cb ok_int (pe_callTy call_int1 rfl mg.b_int bt_int (da_cons (de_op op_addA ok_add (de_op op_addA ok_add (de_op op_mulA ok_mul (de_var 7 (pv 7)) (de_int)) (de_op op_mulA ok_mul (de_int) (de_var 6 (pv 6)))) (de_int)) da_nil))) (de_int))))
  (dss_one (ds_expr (de_mut mu_append.fz (pe_bm PySem.F.plainAttrs_list PySem.F.slot_list_append PySem.F.type_list_append mt_append (pv 3) (da_cons (de_op op_mod ok_mod (de_cb ok_int (pe_callTy call_int1 rfl mg.b_int bt_int (da_cons (de_op op_fdivA ok_fdiv (de_var 7 (pv 7)) (de_int)) da_nil))) (de_int)) da_nil)))))))))))))))
  (dss_one (ds_ret (de_var 3 (pv 3)))))), mf, F.kp, F.binds fun _ _ _ _ _ _ us hl => match us, hl with | [_, _, _], _ => rfl, rfl⟩
/-! _law_plain -/
def G__law_plain (self : FD) : SM :=
  (sSeq (sIf (xT (x2 (opIs false) (xVar 0) (xD .non))) (sRet (xD (.str "N"))) sNx)
  (sSeq (sIf (xT (x2 (opIs false) (xVar 0) (xD (.bl true)))) (sRet (xD (.str "T"))) sNx)
  (sSeq (sIf (xT (x2 (opIs false) (xVar 0) (xD (.bl false)))) (sRet (xD (.str "F"))) sNx)
  (sSeq (sIf (xTru (x1 (opIsi "int") (xVar 0))) (sRet (xN opStrI (xCons (xVar 0) xNil))) sNx)
  (sSeq (sIf (xTru (x1 (opIsi "tuple") (xVar 0))) (sRet (x2 opAdd (x2 opAdd (xD (.str "(")) (xM opJoin (xTy "str" (xD (.str " "))) (xCons (xFz (xLc [1] (iSeq (xVar 0)) (gNm 1) xYes (xCallN 1 none self (xCons (xVar 1) xNil)))) xNil))) (xD (.str ")")))) sNx)
  (sRet (x2 opAdd (x2 opAdd (xD (.str "\"")) (x1 (opRepl "\n" "\\n") (x1 (opRepl "\"" "\\\"") (x1 (opRepl "\\" "\\\\") (xVar 0))))) (xD (.str "\"")))))))))
def F__law_plain : Nat → FD
  | 0 => fun _ => .bad
  | n + 1 => runF none 2 1 (G__law_plain (F__law_plain n))
theorem sc__law_plain : FnScope ["value", "one"] ["value"] (defScope (top 18)) := ⟨rfl, rfl, rfl, by decide +kernel, rfl, by decide +kernel, by decide +kernel⟩
theorem ok__law_plain (mg : Mg K mgf) (F : Fun K "_law_plain" "_law_plain" (top 18) f fd) (mf : mgf "_law_plain" = some (.ref f))  : ∀ n : Nat, FnD P w K mgf base "_law_plain" (n + 2) none 1 (F__law_plain n)
  | 0 => FnD.none F sc__law_plain mf (F.binds fun _ _ _ _ _ _ us hl => match us, hl with | [_], _ => rfl) rfl
  | n + 1 => by
    have g__law_plain := ok__law_plain mg F mf  n
    have hN := sc__law_plain.nd
    exact ⟨f, fd, ["value"], fn_rule (k := n + 2) F sc__law_plain rfl (by decide) (by simp) fun cdv A outer s H E hr =>
  (dss_cons (ds_if (dt_cmp op_isA ok_is (de_var 0 (pv 0)) (de_non)) (dss_one (ds_ret (de_str))) dss_nil)
  (dss_cons (ds_if (dt_cmp op_isA ok_is (de_var 0 (pv 0)) (de_bl)) (dss_one (ds_ret (de_str))) dss_nil)
  (dss_cons (ds_if (dt_cmp op_isA ok_is (de_var 0 (pv 0)) (de_bl)) (dss_one (ds_ret (de_str))) dss_nil)
  (dss_cons (ds_if (dt_tru (de_isi rfl mg.b_isinstance bt_isinstance (de_var 0 (pv 0)) rfl mg.b_int bt_int)) (dss_one (ds_ret (de_cb ok_strI (pe_callTy call_str_int rfl mg.b_str bt_str (da_cons (de_var 0 (pv 0)) da_nil))))) dss_nil)
  (dss_cons (ds_if (dt_tru (de_isi rfl mg.b_isinstance bt_isinstance (de_var 0 (pv 0)) rfl mg.b_tuple bt_tuple)) (dss_one (ds_ret (de_op op_addA ok_add (de_op op_addA ok_add (de_str) (de_bm ok_join (pe_bm PySem.F.plainAttrs_str PySem.F.slot_str_join PySem.F.type_str_join mt_join (de_str) (da_cons (de_fz (de_lcV [("one", 1)] rfl hN (blkOk_by (N := ["value", "one"]) (sc := defScope (top 18)) (by decide +kernel)) rfl (by decide) (di_seq (de_var 0 (pv 0))) (fun _ _ _ _ _ => (dg_name (pg_name hN rfl (Or.inl rfl)))) (fun _ _ _ _ _ => dts_nil) (fun _ _ _ _ _ => (de_call g__law_plain (hr.mono (by omega)) takes0 (da_cons (de_var 1 (pv 1)) da_nil))))) da_nil)))) (de_str)))) dss_nil)
  (dss_one (ds_ret (de_op op_addA ok_add (de_opST op_addA ok_add (det_replT (det_replT (det_replC (de_var 0 (pv 0)))))) (de_str))))))))), mf, F.kp, F.binds fun _ _ _ _ _ _ us hl => match us, hl with | [_], _ => rfl, rfl⟩
/-! _law_text_at -/
def G__law_text_at : SM :=
  (sSeq (sAsg (xD (.str "")) (gNm 2))
  (sSeq (sFor (iRg1 (xCons (x2 opAdd (xN opLen (xCons (xVar 0) xNil)) (xD (.int 1))) xNil)) (gNm 3) (sSeq (sIf (xT (x2 opGe (xVar 1) (xN opLen (xCons (xVar 0) xNil)))) (sRet (xLstF (xCons (xN opLen (xCons (xVar 0) xNil)) (xCons (x1 opNeg (xD (.int 1))) xNil)))) sNx)
  (sSeq (sAsg (x2 opIx (xVar 0) (xVar 1)) (gNm 4))
  (sSeq (sIf (xT (x2 opEq (xVar 4) (xD (.str "\"")))) (sRet (xLstF (xCons (xVar 2) (xCons (x2 opAdd (xVar 1) (xD (.int 1))) xNil)))) sNx)
  (sIf (xT (x2 opEq (xVar 4) (xD (.str "\\")))) (sSeq (sIf (xT (x2 opGe (x2 opAdd (xVar 1) (xD (.int 1))) (xN opLen (xCons (xVar 0) xNil)))) (sRet (xLstF (xCons (xN opLen (xCons (xVar 0) xNil)) (xCons (x1 opNeg (xD (.int 1))) xNil)))) sNx)
  (sSeq (sIf (xT (x2 (opIn true) (x2 opIx (xVar 0) (x2 opAdd (xVar 1) (xD (.int 1)))) (xD (.str "\\\"n")))) (sRet (xLstF (xCons (x2 opAdd (xVar 1) (xD (.int 1))) (xCons (x1 opNeg (xD (.int 1))) xNil)))) sNx)
  (sSeq (sAsg (x2 opAdd (xVar 2) (x2 (opDgetD [("n", .str "\n")]) (x2 opIx (xVar 0) (x2 opAdd (xVar 1) (xD (.int 1)))) (x2 opIx (xVar 0) (x2 opAdd (xVar 1) (xD (.int 1)))))) (gNm 2))
  (sAsg (x2 opAdd (xVar 1) (xD (.int 2))) (gNm 1))))) (sIf (xOr (xT (x2 opLtS (xVar 4) (xD (.str " ")))) (xOr (xT (x2 opGtS (xVar 4) (xD (.str "~")))) (xT (x2 opEq (xN opOrd (xCons (xVar 4) xNil)) (xD (.int 37)))))) (sRet (xLstF (xCons (xVar 1) (xCons (x1 opNeg (xD (.int 1))) xNil)))) (sSeq (sAsg (x2 opAdd (xVar 2) (xVar 4)) (gNm 2))
  (sAsg (x2 opAdd (xVar 1) (xD (.int 1))) (gNm 1)))))))))
  (sRet (xLstF (xCons (xN opLen (xCons (xVar 0) xNil)) (xCons (x1 opNeg (xD (.int 1))) xNil))))))
def F__law_text_at : FD := runF none 5 2 G__law_text_at
theorem sc__law_text_at : FnScope ["text", "at", "found", "turn", "sign"] ["text", "at"] (defScope (top 19)) := ⟨rfl, rfl, rfl, by decide +kernel, rfl, by decide +kernel, by decide +kernel⟩
theorem ok__law_text_at (mg : Mg K mgf) (F : Fun K "_law_text_at" "_law_text_at" (top 19) f fd) (mf : mgf "_law_text_at" = some (.ref f))  : FnD P w K mgf base "_law_text_at" 3 none 2 F__law_text_at := by
  have hN := sc__law_text_at.nd
  exact ⟨f, fd, ["text", "at"], fn_rule F sc__law_text_at rfl (by decide) (by simp) fun cdv A outer s H E hr =>
  (dss_cons (ds_set (ps_set hN rfl (Or.inl rfl) (de_str)))
  (dss_cons (ds_for (passes_of rfl) rfl (di_rng1 rfl mg.b_range (da_cons (de_op op_addA ok_add (de_cb ok_len (pe_callB call_len rfl mg.b_len bt_len (da_cons (de_var 0 (pv 0)) da_nil))) (de_int)) da_nil)) (dg_name (pg_name hN rfl (Or.inl rfl))) (dss_cons (ds_if (dt_cmp op_ge (ok_cmp _) (de_var 1 (pv 1)) (de_cb ok_len (pe_callB call_len rfl mg.b_len bt_len (da_cons (de_var 0 (pv 0)) da_nil)))) (dss_one (ds_ret (de_lstF (da_cons (de_cb ok_len (pe_callB call_len rfl mg.b_len bt_len (da_cons (de_var 0 (pv 0)) da_nil))) (da_cons (de_un un_neg ok_neg (de_int)) da_nil))))) dss_nil)
  (dss_cons (ds_set (ps_set hN rfl (Or.inl rfl) (de_ix ix_seq ok_ix (de_var 0 (pv 0)) (de_var 1 (pv 1)) (fun _ _ => rfl))))
  (dss_cons (ds_if (dt_cmp (op_eqA hr.units) ok_eq (de_var 4 (pv 4)) (de_str)) (dss_one (ds_ret (de_lstF (da_cons (de_var 2 (pv 2)) (da_cons (de_op op_addA ok_add (de_var 1 (pv 1)) (de_int)) da_nil))))) dss_nil)
  (dss_one (ds_if (dt_cmp (op_eqA hr.units) ok_eq (de_var 4 (pv 4)) (de_str)) (dss_cons (ds_if (dt_cmp op_ge (ok_cmp _) (de_op op_addA ok_add (de_var 1 (pv 1)) (de_int)) (de_cb ok_len (pe_callB call_len rfl mg.b_len bt_len (da_cons (de_var 0 (pv 0)) da_nil)))) (dss_one (ds_ret (de_lstF (da_cons (de_cb ok_len (pe_callB call_len rfl mg.b_len bt_len (da_cons (de_var 0 (pv 0)) da_nil))) (da_cons (de_un un_neg ok_neg (de_int)) da_nil))))) dss_nil)
  (dss_cons (ds_if (dt_cmp (op_notInA (un65 hr)) ok_in (de_ix ix_seq ok_ix (de_var 0 (pv 0)) (de_op op_addA ok_add (de_var 1 (pv 1)) (de_int)) (fun _ _ => rfl)) (de_str)) (dss_one (ds_ret (de_lstF (da_cons (de_op op_addA ok_add (de_var 1 (pv 1)) (de_int)) (da_cons (de_un un_neg ok_neg (de_int)) da_nil))))) dss_nil)
  (dss_cons (ds_set (ps_set hN rfl (Or.inl rfl) (de_op op_addA ok_add (de_var 2 (pv 2)) (de_dgetD (un65 hr) (pps_cons pe_str pe_str pps_nil) (de_ix ix_seq ok_ix (de_var 0 (pv 0)) (de_op op_addA ok_add (de_var 1 (pv 1)) (de_int)) (fun _ _ => rfl)) (de_ix ix_seq ok_ix (de_var 0 (pv 0)) (de_op op_addA ok_add (de_var 1 (pv 1)) (de_int)) (fun _ _ => rfl))))))
  (dss_one (ds_set (ps_set hN rfl (Or.inl rfl) (de_op op_addA ok_add (de_var 1 (pv 1)) (de_int)))))))) (dss_one (ds_if (dt_bo (dw_or (dt_cmp op_lt_str (ok_TT _) (de_var 4 (pv 4)) (de_str)) (dw_or (dt_cmp op_gt_str (ok_TT _) (de_var 4 (pv 4)) (de_str)) (dw_or1 (dt_cmp (op_eqA hr.units) ok_eq (de_cb ok_ord (pe_callB call_ord rfl mg.b_ord bt_ord (da_cons (de_var 4 (pv 4)) da_nil))) (de_int)))))) (dss_one (ds_ret (de_lstF (da_cons (de_var 1 (pv 1)) (da_cons (de_un un_neg ok_neg (de_int)) da_nil))))) (dss_cons (ds_set (ps_set hN rfl (Or.inl rfl) (de_op op_addA ok_add (de_var 2 (pv 2)) (de_var 4 (pv 4)))))
  (dss_one (ds_set (ps_set hN rfl (Or.inl rfl) (de_op op_addA ok_add (de_var 1 (pv 1)) (de_int))))))))))))))
  (dss_one (ds_ret (de_lstF (da_cons (de_cb ok_len (pe_callB call_len rfl mg.b_len bt_len (da_cons (de_var 0 (pv 0)) da_nil))) (da_cons (de_un un_neg ok_neg (de_int)) da_nil))))))), mf, F.kp, F.binds fun _ _ _ _ _ _ us hl => match us, hl with | [_, _], _ => rfl, rfl⟩
/-! _law_digits_at -/
def G__law_digits_at : SM :=
  (sSeq (sAsg (x2 opAdd (xVar 1) (xN opInt (xCons (x2 opEq (x2 opIx (xVar 0) (xVar 1)) (xD (.str "-"))) xNil))) (gNm 2))
  (sSeq (sIf (xT (x2 opGe (xVar 2) (xN opLen (xCons (xVar 0) xNil)))) (sRet (xLstF (xCons (xN opLen (xCons (xVar 0) xNil)) (xCons (x1 opNeg (xD (.int 1))) xNil)))) sNx)
  (sSeq (sIf (xT (x2 (opIn true) (x2 opIx (xVar 0) (xVar 2)) (xD (.str "0123456789")))) (sRet (xLstF (xCons (xVar 2) (xCons (x1 opNeg (xD (.int 1))) xNil)))) sNx)
  (sSeq (sIf (xT (x2 opEq (x2 opIx (xVar 0) (xVar 2)) (xD (.str "0")))) (sRet (xIf (xT (x2 opGt (xVar 2) (xVar 1))) (xLstF (xCons (xVar 2) (xCons (x1 opNeg (xD (.int 1))) xNil))) (xLstF (xCons (xD (.int 0)) (xCons (x2 opAdd (xVar 2) (xD (.int 1))) xNil))))) sNx)
  (sSeq (sAsg (xVar 2) (gNm 3))
  (sSeq (sFor (iRg1 (xCons (xN opLen (xCons (xVar 0) xNil)) xNil)) (gNm 4) (sIf (xAnd (xT (x2 opLt (xVar 3) (xN opLen (xCons (xVar 0) xNil)))) (xT (x2 (opIn false) (x2 opIx (xVar 0) (xVar 3)) (xD (.str "0123456789"))))) (sSeq (sIf (xT (x2 opEq (x2 opSub (xVar 3) (xVar 2)) (xD (.int 2000)))) (sRet (xLstF (xCons (xVar 3) (xCons (x1 opNeg (xD (.int 1))) xNil)))) sNx)
  (sAsg (x2 opAdd (xVar 3) (xD (.int 1))) (gNm 3))) sNx))
  (sRet (xLstF (xCons (xN opIntB (xCons (xSl opSlA (xVar 0) (xPart (xVar 1)) (xPart (xVar 3))) xNil)) (xCons (xVar 3) xNil))))))))))
def F__law_digits_at : FD := runF none 5 2 G__law_digits_at
theorem sc__law_digits_at : FnScope ["text", "at", "start", "end", "turn"] ["text", "at"] (defScope (top 20)) := ⟨rfl, rfl, rfl, by decide +kernel, rfl, by decide +kernel, by decide +kernel⟩
theorem ok__law_digits_at (mg : Mg K mgf) (F : Fun K "_law_digits_at" "_law_digits_at" (top 20) f fd) (mf : mgf "_law_digits_at" = some (.ref f))  : FnD P w K mgf base "_law_digits_at" 3 none 2 F__law_digits_at := by
  have hN := sc__law_digits_at.nd
  exact ⟨f, fd, ["text", "at"], fn_rule F sc__law_digits_at rfl (by decide) (by simp) fun cdv A outer s H E hr =>
  (dss_cons (ds_set (ps_set hN rfl (Or.inl rfl) (de_op op_addA ok_add (de_var 1 (pv 1)) (de_cb ok_int (pe_callTy call_int1 rfl mg.b_int bt_int (da_cons (de_cmp (op_eqA hr.units) ok_eq (de_ix ix_seq ok_ix (de_var 0 (pv 0)) (de_var 1 (pv 1)) (fun _ _ => rfl)) (de_str)) da_nil))))))
  (dss_cons (ds_if (dt_cmp op_ge (ok_cmp _) (de_var 2 (pv 2)) (de_cb ok_len (pe_callB call_len rfl mg.b_len bt_len (da_cons (de_var 0 (pv 0)) da_nil)))) (dss_one (ds_ret (de_lstF (da_cons (de_cb ok_len (pe_callB call_len rfl mg.b_len bt_len (da_cons (de_var 0 (pv 0)) da_nil))) (da_cons (de_un un_neg ok_neg (de_int)) da_nil))))) dss_nil)
  (dss_cons (ds_if (dt_cmp (op_notInA (un65 hr)) ok_in (de_ix ix_seq ok_ix (de_var 0 (pv 0)) (de_var 2 (pv 2)) (fun _ _ => rfl)) (de_str)) (dss_one (ds_ret (de_lstF (da_cons (de_var 2 (pv 2)) (da_cons (de_un un_neg ok_neg (de_int)) da_nil))))) dss_nil)
  (dss_cons (ds_if (dt_cmp (op_eqA hr.units) ok_eq (de_ix ix_seq ok_ix (de_var 0 (pv 0)) (de_var 2 (pv 2)) (fun _ _ => rfl)) (de_str)) (dss_one (ds_ret (de_if (dt_cmp op_gt (ok_cmp _) (de_var 2 (pv 2)) (de_var 1 (pv 1))) (de_lstF (da_cons (de_var 2 (pv 2)) (da_cons (de_un un_neg ok_neg (de_int)) da_nil))) (de_lstF (da_cons (de_int) (da_cons (de_op op_addA ok_add (de_var 2 (pv 2)) (de_int)) da_nil)))))) dss_nil)
  (dss_cons (ds_set (ps_set hN rfl (Or.inl rfl) (de_var 2 (pv 2))))
  (dss_cons (ds_for (passes_of rfl) rfl (di_rng1 rfl mg.b_range (da_cons (de_cb ok_len (pe_callB call_len rfl mg.b_len bt_len (da_cons (de_var 0 (pv 0)) da_nil))) da_nil)) (dg_name (pg_name hN rfl (Or.inl rfl))) (dss_one (ds_if (dt_bo (dw_and (dt_cmp op_lt (ok_cmp _) (de_var 3 (pv 3)) (de_cb ok_len (pe_callB call_len rfl mg.b_len bt_len (da_cons (de_var 0 (pv 0)) da_nil)))) (dw_and1 (dt_cmp (op_inA (un65 hr)) ok_in (de_ix ix_seq ok_ix (de_var 0 (pv 0)) (de_var 3 (pv 3)) (fun _ _ => rfl)) (de_str))))) (dss_cons (ds_if (dt_cmp (op_eqA hr.units) ok_eq (de_op op_sub ok_sub (de_var 3 (pv 3)) (de_var 2 (pv 2))) (de_int)) (dss_one (ds_ret (de_lstF (da_cons (de_var 3 (pv 3)) (da_cons (de_un un_neg ok_neg (de_int)) da_nil))))) dss_nil)
  (dss_one (ds_set (ps_set hN rfl (Or.inl rfl) (de_op op_addA ok_add (de_var 3 (pv 3)) (de_int)))))) dss_nil)))
  (dss_one (ds_ret (de_lstF (da_cons (de_cb ok_intB (pe_callTy (call_int_textB mg.idl) rfl mg.b_int bt_int (da_cons (de_slice sl_all ok_slA (de_var 0 (pv 0)) (dp_some (de_var 1 (pv 1))) (dp_some (de_var 3 (pv 3)))) da_nil))) (da_cons (de_var 3 (pv 3)) da_nil))))))))))), mf, F.kp, F.binds fun _ _ _ _ _ _ us hl => match us, hl with | [_, _], _ => rfl, rfl⟩
/-! _law_value_at -/
def G__law_value_at (self : FD) : SM :=
  (sSeq (sIf (xT (x2 opGe (xVar 1) (xN opLen (xCons (xVar 0) xNil)))) (sRet (xLstF (xCons (xN opLen (xCons (xVar 0) xNil)) (xCons (x1 opNeg (xD (.int 1))) xNil)))) sNx)
  (sSeq (sAsg (x2 opIx (xVar 0) (xVar 1)) (gNm 3))
  (sSeq (sIf (xT (x2 (opIn false) (xVar 3) (xD (.str "TFN")))) (sRet (xLstF (xCons (x1 (opDget [("T", .bl true), ("F", .bl false), ("N", .non)]) (xVar 3)) (xCons (x2 opAdd (xVar 1) (xD (.int 1))) xNil)))) sNx)
  (sSeq (sIf (xT (x2 opEq (xVar 3) (xD (.str "\"")))) (sRet (xCallN 2 none F__law_text_at (xCons (xVar 0) (xCons (x2 opAdd (xVar 1) (xD (.int 1))) xNil)))) sNx)
  (sSeq (sIf (xT (x2 (opIn false) (xVar 3) (xD (.str "-0123456789")))) (sRet (xCallN 2 none F__law_digits_at (xCons (xVar 0) (xCons (xVar 1) xNil)))) sNx)
  (sSeq (sIf (xOr (xT (x2 opNe (xVar 3) (xD (.str "(")))) (xT (x2 opEq (xVar 2) (xD (.int 40))))) (sRet (xLstF (xCons (xVar 1) (xCons (x1 opNeg (xD (.int 1))) xNil)))) sNx)
  (sSeq (sAsg (xTup xNil) (gNm 4))
  (sSeq (sAsg (x2 opAdd (xVar 1) (xD (.int 1))) (gNm 1))
  (sSeq (sIf (xAnd (xT (x2 opLt (xVar 1) (xN opLen (xCons (xVar 0) xNil)))) (xT (x2 opEq (x2 opIx (xVar 0) (xVar 1)) (xD (.str ")"))))) (sRet (xLstF (xCons (xTup xNil) (xCons (x2 opAdd (xVar 1) (xD (.int 1))) xNil)))) sNx)
  (sSeq (sFor (iRg1 (xCons (x2 opAdd (xN opLen (xCons (xVar 0) xNil)) (xD (.int 1))) xNil)) (gNm 5) (sSeq (sAsg (xCallN 3 none self (xCons (xVar 0) (xCons (xVar 1) (xCons (x2 opAdd (xVar 2) (xD (.int 1))) xNil)))) (gLs [(gNm 6), (gNm 7)]))
  (sSeq (sIf (xT (x2 opEq (xVar 7) (x1 opNeg (xD (.int 1))))) (sRet (xLstF (xCons (xVar 6) (xCons (x1 opNeg (xD (.int 1))) xNil)))) sNx)
  (sSeq (sAsg (x2 opAdd (xVar 4) (xTup (xCons (xVar 6) xNil))) (gNm 4))
  (sSeq (sIf (xT (x2 opGe (xVar 7) (xN opLen (xCons (xVar 0) xNil)))) (sRet (xLstF (xCons (xN opLen (xCons (xVar 0) xNil)) (xCons (x1 opNeg (xD (.int 1))) xNil)))) sNx)
  (sSeq (sIf (xT (x2 opEq (x2 opIx (xVar 0) (xVar 7)) (xD (.str ")")))) (sRet (xLstF (xCons (xVar 4) (xCons (x2 opAdd (xVar 7) (xD (.int 1))) xNil)))) sNx)
  (sSeq (sIf (xT (x2 opNe (x2 opIx (xVar 0) (xVar 7)) (xD (.str " ")))) (sRet (xLstF (xCons (xVar 7) (xCons (x1 opNeg (xD (.int 1))) xNil)))) sNx)
  (sAsg (x2 opAdd (xVar 7) (xD (.int 1))) (gNm 1)))))))))
  (sRet (xLstF (xCons (xN opLen (xCons (xVar 0) xNil)) (xCons (x1 opNeg (xD (.int 1))) xNil))))))))))))))
def F__law_value_at : Nat → FD
  | 0 => fun _ => .bad
  | n + 1 => runF none 8 3 (G__law_value_at (F__law_value_at n))
theorem sc__law_value_at : FnScope ["text", "at", "deep", "sign", "found", "turn", "value", "end"] ["text", "at", "deep"] (defScope (top 21)) := ⟨rfl, rfl, rfl, by decide +kernel, rfl, by decide +kernel, by decide +kernel⟩
theorem ok__law_value_at (mg : Mg K mgf) (F : Fun K "_law_value_at" "_law_value_at" (top 21) f fd) (mf : mgf "_law_value_at" = some (.ref f)) (g__law_text_at : FnD P w K mgf base "_law_text_at" 3 none 2 F__law_text_at) (g__law_digits_at : FnD P w K mgf base "_law_digits_at" 3 none 2 F__law_digits_at) : ∀ n : Nat, FnD P w K mgf base "_law_value_at" (n + 3) none 3 (F__law_value_at n)
  | 0 => FnD.none F sc__law_value_at mf (F.binds fun _ _ _ _ _ _ us hl => match us, hl with | [_, _, _], _ => rfl) rfl
  | n + 1 => by
    have g__law_value_at := ok__law_value_at mg F mf g__law_text_at g__law_digits_at n
    have hN := sc__law_value_at.nd
    exact ⟨f, fd, ["text", "at", "deep"], fn_rule (k := n + 3) F sc__law_value_at rfl (by decide) (by simp) fun cdv A outer s H E hr =>
  (dss_cons (ds_if (dt_cmp op_ge (ok_cmp _) (de_var 1 (pv 1)) (de_cb ok_len (pe_callB call_len rfl mg.b_len bt_len (da_cons (de_var 0 (pv 0)) da_nil)))) (dss_one (ds_ret (de_lstF (da_cons (de_cb ok_len (pe_callB call_len rfl mg.b_len bt_len (da_cons (de_var 0 (pv 0)) da_nil))) (da_cons (de_un un_neg ok_neg (de_int)) da_nil))))) dss_nil)
  (dss_cons (ds_set (ps_set hN rfl (Or.inl rfl) (de_ix ix_seq ok_ix (de_var 0 (pv 0)) (de_var 1 (pv 1)) (fun _ _ => rfl))))
  (dss_cons (ds_if (dt_cmp (op_inA (un65 hr)) ok_in (de_var 3 (pv 3)) (de_str)) (dss_one (ds_ret (de_lstF (da_cons (de_dget (un65 hr) (pps_cons pe_str pe_bl (pps_cons pe_str pe_bl (pps_cons pe_str pe_non pps_nil))) (de_var 3 (pv 3))) (da_cons (de_op op_addA ok_add (de_var 1 (pv 1)) (de_int)) da_nil))))) dss_nil)
  (dss_cons (ds_if (dt_cmp (op_eqA hr.units) ok_eq (de_var 3 (pv 3)) (de_str)) (dss_one (ds_ret (de_call g__law_text_at (hr.mono (by omega)) (takes_of rfl rfl rfl rfl) (da_cons (de_var 0 (pv 0)) (da_cons (de_op op_addA ok_add (de_var 1 (pv 1)) (de_int)) da_nil))))) dss_nil)
  (dss_cons (ds_if (dt_cmp (op_inA (un65 hr)) ok_in (de_var 3 (pv 3)) (de_str)) (dss_one (ds_ret (de_call g__law_digits_at (hr.mono (by omega)) (takes_of rfl rfl rfl rfl) (da_cons (de_var 0 (pv 0)) (da_cons (de_var 1 (pv 1)) da_nil))))) dss_nil)
  (dss_cons (ds_if (dt_bo (dw_or (dt_cmp (op_neA hr.units) ok_ne (de_var 3 (pv 3)) (de_str)) (dw_or1 (dt_cmp (op_eqA hr.units) ok_eq (de_var 2 (pv 2)) (de_int))))) (dss_one (ds_ret (de_lstF (da_cons (de_var 1 (pv 1)) (da_cons (de_un un_neg ok_neg (de_int)) da_nil))))) dss_nil)
  (dss_cons (ds_set (ps_set hN rfl (Or.inl rfl) (de_tup da_nil)))
  (dss_cons (ds_set (ps_set hN rfl (Or.inl rfl) (de_op op_addA ok_add (de_var 1 (pv 1)) (de_int))))
  (dss_cons (ds_if (dt_bo (dw_and (dt_cmp op_lt (ok_cmp _) (de_var 1 (pv 1)) (de_cb ok_len (pe_callB call_len rfl mg.b_len bt_len (da_cons (de_var 0 (pv 0)) da_nil)))) (dw_and1 (dt_cmp (op_eqA hr.units) ok_eq (de_ix ix_seq ok_ix (de_var 0 (pv 0)) (de_var 1 (pv 1)) (fun _ _ => rfl)) (de_str))))) (dss_one (ds_ret (de_lstF (da_cons (de_tup da_nil) (da_cons (de_op op_addA ok_add (de_var 1 (pv 1)) (de_int)) da_nil))))) dss_nil)
  (dss_cons (ds_for (passes_of rfl) rfl (di_rng1 rfl mg.b_range (da_cons (de_op op_addA ok_add (de_cb ok_len (pe_callB call_len rfl mg.b_len bt_len (da_cons (de_var 0 (pv 0)) da_nil))) (de_int)) da_nil)) (dg_name (pg_name hN rfl (Or.inl rfl))) (dss_cons (ds_asg (de_call g__law_value_at (hr.mono (by omega)) (takes_of rfl rfl rfl rfl) (da_cons (de_var 0 (pv 0)) (da_cons (de_var 1 (pv 1)) (da_cons (de_op op_addA ok_add (de_var 2 (pv 2)) (de_int)) da_nil)))) (dg_lst rfl (dgs_cons (dg_name (pg_name hN rfl (Or.inl rfl))) (dgs_cons (dg_name (pg_name hN rfl (Or.inl rfl))) dgs_nil))))
  (dss_cons (ds_if (dt_cmp (op_eqA hr.units) ok_eq (de_var 7 (pv 7)) (de_un un_neg ok_neg (de_int))) (dss_one (ds_ret (de_lstF (da_cons (de_var 6 (pv 6)) (da_cons (de_un un_neg ok_neg (de_int)) da_nil))))) dss_nil)
  (dss_cons (ds_set (ps_set hN rfl (Or.inl rfl) (de_op op_addA ok_add (de_var 4 (pv 4)) (de_tup (da_cons (de_var 6 (pv 6)) da_nil)))))
  (dss_cons (ds_if (dt_cmp op_ge (ok_cmp _) (de_var 7 (pv 7)) (de_cb ok_len (pe_callB call_len rfl mg.b_len bt_len (da_cons (de_var 0 (pv 0)) da_nil)))) (dss_one (ds_ret (de_lstF (da_cons (de_cb ok_len (pe_callB call_len rfl mg.b_len bt_len (da_cons (de_var 0 (pv 0)) da_nil))) (da_cons (de_un un_neg ok_neg (de_int)) da_nil))))) dss_nil)
  (dss_cons (ds_if (dt_cmp (op_eqA hr.units) ok_eq (de_ix ix_seq ok_ix (de_var 0 (pv 0)) (de_var 7 (pv 7)) (fun _ _ => rfl)) (de_str)) (dss_one (ds_ret (de_lstF (da_cons (de_var 4 (pv 4)) (da_cons (de_op op_addA ok_add (de_var 7 (pv 7)) (de_int)) da_nil))))) dss_nil)
  (dss_cons (ds_if (dt_cmp (op_neA hr.units) ok_ne (de_ix ix_seq ok_ix (de_var 0 (pv 0)) (de_var 7 (pv 7)) (fun _ _ => rfl)) (de_str)) (dss_one (ds_ret (de_lstF (da_cons (de_var 7 (pv 7)) (da_cons (de_un un_neg ok_neg (de_int)) da_nil))))) dss_nil)
  (dss_one (ds_set (ps_set hN rfl (Or.inl rfl) (de_op op_addA ok_add (de_var 7 (pv 7)) (de_int))))))))))))
  (dss_one (ds_ret (de_lstF (da_cons (de_cb ok_len (pe_callB call_len rfl mg.b_len bt_len (da_cons (de_var 0 (pv 0)) da_nil))) (da_cons (de_un un_neg ok_neg (de_int)) da_nil))))))))))))))), mf, F.kp, F.binds fun _ _ _ _ _ _ us hl => match us, hl with | [_, _, _], _ => rfl, rfl⟩
/-! _law_read -/
def G__law_read : SM :=
  (sSeq (sAsg (xCallN 3 none (F__law_value_at 64) (xCons (xVar 0) (xCons (xD (.int 0)) (xCons (xD (.int 0)) xNil)))) (gLs [(gNm 1), (gNm 2)]))
  (sSeq (sIf (xT (x2 opEq (xVar 2) (x1 opNeg (xD (.int 1))))) (sRet (xTup (xCons (xD (.str "bad")) (xCons (xVar 1) xNil)))) sNx)
  (sRet (xIf (xT (x2 opEq (xVar 2) (xN opLen (xCons (xVar 0) xNil)))) (xTup (xCons (xD (.str "good")) (xCons (xVar 1) xNil))) (xTup (xCons (xD (.str "bad")) (xCons (xVar 2) xNil)))))))
def F__law_read : FD := runF none 3 1 G__law_read
theorem sc__law_read : FnScope ["text", "value", "end"] ["text"] (defScope (top 22)) := ⟨rfl, rfl, rfl, by decide +kernel, rfl, by decide +kernel, by decide +kernel⟩
theorem ok__law_read (mg : Mg K mgf) (F : Fun K "_law_read" "_law_read" (top 22) f fd) (mf : mgf "_law_read" = some (.ref f)) (g__law_value_at : FnD P w K mgf base "_law_value_at" 67 none 3 (F__law_value_at 64)) : FnD P w K mgf base "_law_read" 68 none 1 F__law_read := by
  have hN := sc__law_read.nd
  exact ⟨f, fd, ["text"], fn_rule F sc__law_read rfl (by decide) (by simp) fun cdv A outer s H E hr =>
  (dss_cons (ds_asg (de_call g__law_value_at (hr.mono (by omega)) (takes_of rfl rfl rfl rfl) (da_cons (de_var 0 (pv 0)) (da_cons (de_int) (da_cons (de_int) da_nil)))) (dg_lst rfl (dgs_cons (dg_name (pg_name hN rfl (Or.inl rfl))) (dgs_cons (dg_name (pg_name hN rfl (Or.inl rfl))) dgs_nil))))
  (dss_cons (ds_if (dt_cmp (op_eqA hr.units) ok_eq (de_var 2 (pv 2)) (de_un un_neg ok_neg (de_int))) (dss_one (ds_ret (de_tup (da_cons (de_str) (da_cons (de_var 1 (pv 1)) da_nil))))) dss_nil)
  (dss_one (ds_ret (de_if (dt_cmp (op_eqA hr.units) ok_eq (de_var 2 (pv 2)) (de_cb ok_len (pe_callB call_len rfl mg.b_len bt_len (da_cons (de_var 0 (pv 0)) da_nil)))) (de_tup (da_cons (de_str) (da_cons (de_var 1 (pv 1)) da_nil))) (de_tup (da_cons (de_str) (da_cons (de_var 2 (pv 2)) da_nil)))))))), mf, F.kp, F.binds fun _ _ _ _ _ _ us hl => match us, hl with | [_], _ => rfl, rfl⟩
/-! _law_draw -/
abbrev G__law_draw := Com.G__law_draw
abbrev F__law_draw := Com.F__law_draw
theorem sc__law_draw : FnScope ["box", "many", "at"] ["box", "many"] (defScope (top 16)) := ⟨rfl, rfl, rfl, by decide +kernel, rfl, by decide +kernel, by decide +kernel⟩
theorem ok__law_draw (mg : Mg K mgf) (F : Fun K "_law_draw" "_law_draw" (top 16) f fd) (mf : mgf "_law_draw" = some (.ref f))  : FnD P w K mgf base "_law_draw" 3 (some 0) 2 F__law_draw := by
  have hN := sc__law_draw.nd
  exact ⟨f, fd, ["box", "many"], fn_rule F sc__law_draw rfl (by decide) (by simp) fun cdv A outer s H E hr =>
  (dss_cons (ds_set (ps_set hN rfl (Or.inl rfl) (de_ix ix_seq ok_ix (de_var 0 (pv 0)) (de_int) (fun _ _ => rfl))))
  (dss_cons (ds_asg (de_op op_addA ok_add (de_var 2 (pv 2)) (de_int)) (dg_ix mu_setL.fz (pg_sub (pv 0) (de_int) set_list)))
  (dss_cons (ds_if (dt_cmp op_lt (ok_cmp _) (de_var 2 (pv 2)) (de_cb ok_len (pe_callB call_len rfl mg.b_len bt_len (da_cons (de_ix ix_seq ok_ix (de_var 0 (pv 0)) (de_int) (fun _ _ => rfl)) da_nil)))) (dss_one (ds_ret (de_op op_mod ok_mod (de_cb ok_int (pe_callTy call_int1 rfl mg.b_int bt_int (da_cons (de_ix ix_seq ok_ix (de_ix ix_seq ok_ix (de_var 0 (pv 0)) (de_int) (fun _ _ => rfl)) (de_var 2 (pv 2)) (fun _ _ => rfl)) da_nil))) (de_var 1 (pv 1))))) dss_nil)
  (dss_one (ds_ret (de_op op_mod ok_mod (de_cb ok_int (pe_callTy call_int1 rfl mg.b_int bt_int (da_cons (de_op op_mulA ok_mul (de_var 2 (pv 2)) (de_int)) da_nil))) (de_var 1 (pv 1)))))))), mf, F.kp, F.binds fun _ _ _ _ _ _ us hl => match us, hl with | [_, _], _ => rfl, rfl⟩
/-! _law_value -/
def G__law_value (self : FD) : SM :=
  (sSeq (sAsg (xCallN 2 (some 0) F__law_draw (xCons (xVar 0) (xCons (xD (.int 6)) xNil))) (gNm 2))
  (sSeq (sIf (xAnd (xT (x2 opLt (xVar 2) (xD (.int 3)))) (xT (x2 opGt (xVar 1) (xD (.int 0))))) (sRet (xN opTuple (xCons (xFz (xLc [3] (iRg1 (xCons (xCallN 2 (some 0) F__law_draw (xCons (xVar 0) (xCons (xD (.int 4)) xNil))) xNil)) (gNm 3) xYes (xCallN 2 (some 0) self (xCons (xVar 0) (xCons (x2 opSub (xVar 1) (xD (.int 1))) xNil))))) xNil))) sNx)
  (sRet (x2 opIx (xLstF (xCons (xD .non) (xCons (xD (.bl true)) (xCons (xD (.bl false)) (xCons (xD (.int 0)) (xCons (x1 opNeg (xD (.int 7))) (xCons (xD (.int 120)) (xCons (xD (.str "")) (xCons (xD (.str "a\"b")) (xCons (xD (.str "x\ny")) (xCons (xD (.str "\\")) (xCons (xD (.str " (")) xNil)))))))))))) (x2 opMod (xN opInt (xCons (xCallN 2 (some 0) F__law_draw (xCons (xVar 0) (xCons (xD (.int 900)) xNil))) xNil)) (xD (.int 11)))))))
def F__law_value : Nat → FD
  | 0 => fun _ => .bad
  | n + 1 => runF (some 0) 4 2 (G__law_value (F__law_value n))
theorem sc__law_value : FnScope ["box", "deep", "kind", "k"] ["box", "deep"] (defScope (top 24)) := ⟨rfl, rfl, rfl, by decide +kernel, rfl, by decide +kernel, by decide +kernel⟩
theorem ok__law_value (mg : Mg K mgf) (F : Fun K "_law_value" "_law_value" (top 24) f fd) (mf : mgf "_law_value" = some (.ref f)) (g__law_draw : FnD P w K mgf base "_law_draw" 3 (some 0) 2 F__law_draw) : ∀ n : Nat, FnD P w K mgf base "_law_value" (n + 3) (some 0) 2 (F__law_value n)
  | 0 => FnD.none F sc__law_value mf (F.binds fun _ _ _ _ _ _ us hl => match us, hl with | [_, _], _ => rfl) rfl
  | n + 1 => by
    have g__law_value := ok__law_value mg F mf g__law_draw n
    have hN := sc__law_value.nd
    exact ⟨f, fd, ["box", "deep"], fn_rule (k := n + 3) F sc__law_value rfl (by decide) (by simp) fun cdv A outer s H E hr =>
  (dss_cons (ds_set (ps_set hN rfl (Or.inl rfl) (de_call g__law_draw (hr.mono (by omega)) (takes_of rfl rfl rfl rfl) (da_cons (de_var 0 (pv 0)) (da_cons (de_int) da_nil)))))
  (dss_cons (ds_if (dt_bo (dw_and (dt_cmp op_lt (ok_cmp _) (de_var 2 (pv 2)) (de_int)) (dw_and1 (dt_cmp op_gt (ok_cmp _) (de_var 1 (pv 1)) (de_int))))) (dss_one (ds_ret (de_cb ok_tuple (pe_callTy call_tuple_of rfl mg.b_tuple bt_tuple (da_cons (de_fz (de_lcV [("k", 3)] rfl hN (blkOk_by (N := ["box", "deep", "kind", "k"]) (sc := defScope (top 24)) (by decide +kernel)) rfl (by decide) (di_rng1 rfl mg.b_range (da_cons (de_call g__law_draw (hr.mono (by omega)) (takes_of rfl rfl rfl rfl) (da_cons (de_var 0 (pv 0)) (da_cons (de_int) da_nil))) da_nil)) (fun _ _ _ _ _ => (dg_name (pg_name hN rfl (Or.inl rfl)))) (fun _ _ _ _ _ => dts_nil) (fun _ _ _ _ _ => (de_call g__law_value (hr.mono (by omega)) takes0 (da_cons (de_var 0 (pv 0)) (da_cons (de_op op_sub ok_sub (de_var 1 (pv 1)) (de_int)) da_nil)))))) da_nil))))) dss_nil)
  (dss_one (ds_ret (de_ix ix_seq ok_ix (de_lstF (da_cons (de_non) (da_cons (de_bl) (da_cons (de_bl) (da_cons (de_int) (da_cons (de_un un_neg ok_neg (de_int)) (da_cons (de_int) (da_cons (de_str) (da_cons (de_str) (da_cons (de_str) (da_cons (de_str) (da_cons (de_str) da_nil)))))))))))) (de_op op_mod ok_mod (de_cb ok_int (pe_callTy call_int1 rfl mg.b_int bt_int (da_cons (de_call g__law_draw (hr.mono (by omega)) (takes_of rfl rfl rfl rfl) (da_cons (de_var 0 (pv 0)) (da_cons (de_int) da_nil))) da_nil))) (de_int)) (fun _ _ => rfl)))))), mf, F.kp, F.binds fun _ _ _ _ _ _ us hl => match us, hl with | [_, _], _ => rfl, rfl⟩
/-! _law_same -/
def G__law_same (self : FD) : SM :=
  (sSeq (sIf (xTru (x1 (opIsi "tuple") (xVar 1))) (sSeq (sIf (xOr (xNot (xTru (x1 (opIsi "tuple") (xVar 0)))) (xT (x2 opNe (xN opLen (xCons (xVar 0) xNil)) (xN opLen (xCons (xVar 1) xNil))))) (sRet (xD (.bl false))) sNx)
  (sSeq (sFor (iRg1 (xCons (xN opLen (xCons (xVar 1) xNil)) xNil)) (gNm 2) (sIf (xNot (xTru (xCallN 2 none self (xCons (x2 opIx (xVar 0) (xVar 2)) (xCons (x2 opIx (xVar 1) (xVar 2)) xNil))))) (sRet (xD (.bl false))) sNx))
  (sRet (xD (.bl true))))) sNx)
  (sSeq (sIf (xT (x2 (opIs false) (xVar 1) (xD .non))) (sRet (x2 (opIs false) (xVar 0) (xD .non))) sNx)
  (sSeq (sIf (xT (x2 (opIs false) (xVar 1) (xD (.bl true)))) (sRet (x2 (opIs false) (xVar 0) (xD (.bl true)))) sNx)
  (sSeq (sIf (xT (x2 (opIs false) (xVar 1) (xD (.bl false)))) (sRet (x2 (opIs false) (xVar 0) (xD (.bl false)))) sNx)
  (sSeq (sIf (xTru (x1 (opIsi "int") (xVar 1))) (sRet (xAndV (x1 (opIsi "int") (xVar 0)) (xAndV (xNotV (x1 (opIsi "bool") (xVar 0))) (x2 opEq (xVar 0) (xVar 1))))) sNx)
  (sRet (xAndV (x1 (opIsi "str") (xVar 0)) (x2 opEq (xVar 0) (xVar 1)))))))))
def F__law_same : Nat → FD
  | 0 => fun _ => .bad
  | n + 1 => runF none 3 2 (G__law_same (F__law_same n))
theorem sc__law_same : FnScope ["actual", "due", "k"] ["actual", "due"] (defScope (top 17)) := ⟨rfl, rfl, rfl, by decide +kernel, rfl, by decide +kernel, by decide +kernel⟩
theorem ok__law_same (mg : Mg K mgf) (F : Fun K "_law_same" "_law_same" (top 17) f fd) (mf : mgf "_law_same" = some (.ref f))  : ∀ n : Nat, FnD P w K mgf base "_law_same" (n + 2) none 2 (F__law_same n)
  | 0 => FnD.none F sc__law_same mf (F.binds fun _ _ _ _ _ _ us hl => match us, hl with | [_, _], _ => rfl) rfl
  | n + 1 => by
    have g__law_same := ok__law_same mg F mf  n
    have hN := sc__law_same.nd
    exact ⟨f, fd, ["actual", "due"], fn_rule (k := n + 2) F sc__law_same rfl (by decide) (by simp) fun cdv A outer s H E hr =>
  (dss_cons (ds_if (dt_tru (de_isi rfl mg.b_isinstance bt_isinstance (de_var 1 (pv 1)) rfl mg.b_tuple bt_tuple)) (dss_cons (ds_if (dt_bo (dw_or (dt_not (dt_tru (de_isi rfl mg.b_isinstance bt_isinstance (de_var 0 (pv 0)) rfl mg.b_tuple bt_tuple))) (dw_or1 (dt_cmp (op_neA hr.units) ok_ne (de_cb ok_len (pe_callB call_len rfl mg.b_len bt_len (da_cons (de_var 0 (pv 0)) da_nil))) (de_cb ok_len (pe_callB call_len rfl mg.b_len bt_len (da_cons (de_var 1 (pv 1)) da_nil))))))) (dss_one (ds_ret (de_bl))) dss_nil)
  (dss_cons (ds_for (passes_of rfl) rfl (di_rng1 rfl mg.b_range (da_cons (de_cb ok_len (pe_callB call_len rfl mg.b_len bt_len (da_cons (de_var 1 (pv 1)) da_nil))) da_nil)) (dg_name (pg_name hN rfl (Or.inl rfl))) (dss_one (ds_if (dt_not (dt_tru (de_call g__law_same (hr.mono (by omega)) (takes_of rfl rfl rfl rfl) (da_cons (de_ix ix_seq ok_ix (de_var 0 (pv 0)) (de_var 2 (pv 2)) (fun _ _ => rfl)) (da_cons (de_ix ix_seq ok_ix (de_var 1 (pv 1)) (de_var 2 (pv 2)) (fun _ _ => rfl)) da_nil))))) (dss_one (ds_ret (de_bl))) dss_nil)))
  (dss_one (ds_ret (de_bl))))) dss_nil)
  (dss_cons (ds_if (dt_cmp op_isA ok_is (de_var 1 (pv 1)) (de_non)) (dss_one (ds_ret (de_cmp op_isA ok_is (de_var 0 (pv 0)) (de_non)))) dss_nil)
  (dss_cons (ds_if (dt_cmp op_isA ok_is (de_var 1 (pv 1)) (de_bl)) (dss_one (ds_ret (de_cmp op_isA ok_is (de_var 0 (pv 0)) (de_bl)))) dss_nil)
  (dss_cons (ds_if (dt_cmp op_isA ok_is (de_var 1 (pv 1)) (de_bl)) (dss_one (ds_ret (de_cmp op_isA ok_is (de_var 0 (pv 0)) (de_bl)))) dss_nil)
  (dss_cons (ds_if (dt_tru (de_isi rfl mg.b_isinstance bt_isinstance (de_var 1 (pv 1)) rfl mg.b_int bt_int)) (dss_one (ds_ret (de_and (de_isi rfl mg.b_isinstance bt_isinstance (de_var 0 (pv 0)) rfl mg.b_int bt_int) (de_and (de_not (de_isi rfl mg.b_isinstance bt_isinstance (de_var 0 (pv 0)) rfl mg.b_bool bt_bool)) (de_one (de_cmp (op_eqA hr.units) ok_eq (de_var 0 (pv 0)) (de_var 1 (pv 1)))))))) dss_nil)
  (dss_one (ds_ret (de_and (de_isi rfl mg.b_isinstance bt_isinstance (de_var 0 (pv 0)) rfl mg.b_str bt_str) (de_one (de_cmp (op_eqA hr.units) ok_eq (de_var 0 (pv 0)) (de_var 1 (pv 1)))))))))))), mf, F.kp, F.binds fun _ _ _ _ _ _ us hl => match us, hl with | [_, _], _ => rfl, rfl⟩
/-! integer_at -/
def G_integer_at : SM :=
  (sSeq (sAsg (xIf (xT (x2 opEq (xSl opSlA (xVar 0) (xPart (xVar 1)) (xPart (x2 opAdd (xVar 1) (xD (.int 1))))) (xD (.str "-")))) (x2 opAdd (xVar 1) (xD (.int 1))) (xVar 1)) (gNm 2))
  (sSeq (sAsg (xSl opSlA (xVar 0) (xPart (xVar 2)) (xPart (x2 opAdd (xVar 2) (xD (.int 1))))) (gNm 3))
  (sSeq (sIf (xOr (xT (x2 opEq (xVar 3) (xD (.str "")))) (xOr (xT (x2 (opIn true) (xVar 3) (xD C_FIGURES))) (xAnd (xT (x2 opEq (xVar 3) (xD (.str "0")))) (xT (x2 opGt (xVar 2) (xVar 1)))))) (sRaise "BadPlain" ["place"] (xCons (xVar 2) xNil)) sNx)
  (sSeq (sAsg (x2 opAdd (xVar 2) (xD (.int 1))) (gNm 4))
  (sSeq (sWhile (xAnd (xT (x2 opNe (xSl opSlA (xVar 0) (xPart (xVar 4)) (xPart (x2 opAdd (xVar 4) (xD (.int 1))))) (xD (.str "")))) (xT (x2 (opIn false) (xSl opSlA (xVar 0) (xPart (xVar 4)) (xPart (x2 opAdd (xVar 4) (xD (.int 1))))) (xD C_FIGURES)))) (sSeq (sIf (xOr (xT (x2 opEq (xVar 3) (xD (.str "0")))) (xT (x2 opEq (x2 opSub (xVar 4) (xVar 2)) (xD C_MOST_FIGURES)))) (sRaise "BadPlain" ["place"] (xCons (xVar 4) xNil)) sNx)
  (sAug 4 opAddI (xD (.int 1)))))
  (sRet (xTup (xCons (xN opIntB (xCons (xSl opSlA (xVar 0) (xPart (xVar 1)) (xPart (xVar 4))) xNil)) (xCons (xVar 4) xNil)))))))))
def F_integer_at : FD := runF none 5 2 G_integer_at
theorem sc_integer_at : FnScope ["text", "place", "begin", "sign", "end"] ["text", "place"] (defScope (top 10)) := ⟨rfl, rfl, rfl, by decide +kernel, rfl, by decide +kernel, by decide +kernel⟩
theorem ok_integer_at (mg : Mg K mgf) (F : Fun K "integer_at" "integer_at" (top 10) f fd) (mf : mgf "integer_at" = some (.ref f)) (x_BadPlain : XCl P w K mgf base "BadPlain" ["place"] 1)  : FnD P w K mgf base "integer_at" 3 none 2 F_integer_at := by
  have hN := sc_integer_at.nd
  exact ⟨f, fd, ["text", "place"], fn_rule F sc_integer_at rfl (by decide) (by simp) fun cdv A outer s H E hr =>
  (dss_cons (ds_set (ps_set hN rfl (Or.inl rfl) (de_if (dt_cmp (op_eqA hr.units) ok_eq (de_slice sl_all ok_slA (de_var 0 (pv 0)) (dp_some (de_var 1 (pv 1))) (dp_some (de_op op_addA ok_add (de_var 1 (pv 1)) (de_int)))) (de_str)) (de_op op_addA ok_add (de_var 1 (pv 1)) (de_int)) (de_var 1 (pv 1)))))
  (dss_cons (ds_set (ps_set hN rfl (Or.inl rfl) (de_slice sl_all ok_slA (de_var 0 (pv 0)) (dp_some (de_var 2 (pv 2))) (dp_some (de_op op_addA ok_add (de_var 2 (pv 2)) (de_int))))))
  (dss_cons (ds_if (dt_bo (dw_or (dt_cmp (op_eqA hr.units) ok_eq (de_var 3 (pv 3)) (de_str)) (dw_or (dt_cmp (op_notInA (un65 hr)) ok_in (de_var 3 (pv 3)) (de_g mg.c_FIGURES)) (dw_or1 (dt_bo (dw_and (dt_cmp (op_eqA hr.units) ok_eq (de_var 3 (pv 3)) (de_str)) (dw_and1 (dt_cmp op_gt (ok_cmp _) (de_var 2 (pv 2)) (de_var 1 (pv 1)))))))))) (dss_one (ds_raise rfl (takes_of rfl rfl rfl rfl) x_BadPlain (hr.mono (by omega)) (da_cons (de_var 2 (pv 2)) da_nil))) dss_nil)
  (dss_cons (ds_set (ps_set hN rfl (Or.inl rfl) (de_op op_addA ok_add (de_var 2 (pv 2)) (de_int))))
  (dss_cons (ds_while (passes_of rfl) (dt_bo (dw_and (dt_cmp (op_neA hr.units) ok_ne (de_slice sl_all ok_slA (de_var 0 (pv 0)) (dp_some (de_var 4 (pv 4))) (dp_some (de_op op_addA ok_add (de_var 4 (pv 4)) (de_int)))) (de_str)) (dw_and1 (dt_cmp (op_inA (un65 hr)) ok_in (de_slice sl_all ok_slA (de_var 0 (pv 0)) (dp_some (de_var 4 (pv 4))) (dp_some (de_op op_addA ok_add (de_var 4 (pv 4)) (de_int)))) (de_g mg.c_FIGURES))))) (dss_cons (ds_if (dt_bo (dw_or (dt_cmp (op_eqA hr.units) ok_eq (de_var 3 (pv 3)) (de_str)) (dw_or1 (dt_cmp (op_eqA hr.units) ok_eq (de_op op_sub ok_sub (de_var 4 (pv 4)) (de_var 2 (pv 2))) (de_g mg.c_MOST_FIGURES))))) (dss_one (ds_raise rfl (takes_of rfl rfl rfl rfl) x_BadPlain (hr.mono (by omega)) (da_cons (de_var 4 (pv 4)) da_nil))) dss_nil)
  (dss_one (ds_aug ipk_add (ps_aug hN rfl (Or.inl rfl) (de_int) ip_add)))))
  (dss_one (ds_ret (de_tup (da_cons (de_cb ok_intB (pe_callTy (call_int_textB mg.idl) rfl mg.b_int bt_int (da_cons (de_slice sl_all ok_slA (de_var 0 (pv 0)) (dp_some (de_var 1 (pv 1))) (dp_some (de_var 4 (pv 4)))) da_nil))) (da_cons (de_var 4 (pv 4)) da_nil)))))))))), mf, F.kp, F.binds fun _ _ _ _ _ _ us hl => match us, hl with | [_, _], _ => rfl, rfl⟩
/-! text_at -/
def G_text_at : SM :=
  (sSeq (sAsg (xLstF xNil) (gNm 2))
  (sWhile (xTru (xD (.bl true))) (sSeq (sAsg (xM opFind2 (xTy "str" (xVar 0)) (xCons (xD (.str "\"")) (xCons (xVar 1) xNil))) (gNm 3))
  (sSeq (sAsg (xIf (xT (x2 opGe (xVar 3) (xD (.int 0)))) (xVar 3) (xN opLen (xCons (xVar 0) xNil))) (gNm 4))
  (sSeq (sAsg (xM opFind3 (xTy "str" (xVar 0)) (xCons (xD (.str "\\")) (xCons (xVar 1) (xCons (xVar 4) xNil)))) (gNm 5))
  (sSeq (sIf (xT (x2 opGe (xVar 5) (xD (.int 0)))) (sAsg (xVar 5) (gNm 4)) sNx)
  (sSeq (sAsg (xM opFind3 (xTy "str" (xVar 0)) (xCons (xD (.str "\n")) (xCons (xVar 1) (xCons (xVar 4) xNil)))) (gNm 6))
  (sSeq (sIf (xT (x2 opGe (xVar 6) (xD (.int 0)))) (sRaise "BadPlain" ["place"] (xCons (xVar 6) xNil)) sNx)
  (sSeq (sExpr (xMut "list" 2 (muF muAppend) (xCons (xSl opSlA (xVar 0) (xPart (xVar 1)) (xPart (xVar 4))) xNil)))
  (sSeq (sIf (xT (x2 opEq (xVar 4) (xVar 3))) (sRet (xTup (xCons (xM opJoin (xTy "str" (xD (.str ""))) (xCons (xVar 2) xNil)) (xCons (x2 opAdd (xVar 4) (xD (.int 1))) xNil)))) sNx)
  (sSeq (sIf (xT (x2 opNe (xVar 4) (xVar 5))) (sRaise "BadPlain" ["place"] (xCons (xVar 4) xNil)) sNx)
  (sSeq (sAsg (xSl opSlA (xVar 0) (xPart (x2 opAdd (xVar 4) (xD (.int 1)))) (xPart (x2 opAdd (xVar 4) (xD (.int 2))))) (gNm 7))
  (sSeq (sIf (xOr (xT (x2 (opIn true) (xVar 7) (xTup (xCons (xD (.str "\"")) (xCons (xD (.str "\\")) (xCons (xD (.str "n")) xNil)))))) (xT (x2 opEq (xVar 7) (xD (.str ""))))) (sRaise "BadPlain" ["place"] (xCons (x2 opAdd (xVar 4) (xD (.int 1))) xNil)) sNx)
  (sSeq (sExpr (xMut "list" 2 (muF muAppend) (xCons (xIf (xT (x2 opEq (xVar 7) (xD (.str "n")))) (xD (.str "\n")) (xVar 7)) xNil)))
  (sAsg (x2 opAdd (xVar 4) (xD (.int 2))) (gNm 1))))))))))))))))
def F_text_at : FD := runF none 8 2 G_text_at
theorem sc_text_at : FnScope ["text", "place", "parts", "quote", "end", "slash", "feed", "behind"] ["text", "place"] (defScope (top 11)) := ⟨rfl, rfl, rfl, by decide +kernel, rfl, by decide +kernel, by decide +kernel⟩
theorem ok_text_at (mg : Mg K mgf) (F : Fun K "text_at" "text_at" (top 11) f fd) (mf : mgf "text_at" = some (.ref f)) (x_BadPlain : XCl P w K mgf base "BadPlain" ["place"] 1)  : FnD P w K mgf base "text_at" 3 none 2 F_text_at := by
  have hN := sc_text_at.nd
  exact ⟨f, fd, ["text", "place"], fn_rule F sc_text_at rfl (by decide) (by simp) fun cdv A outer s H E hr =>
  (dss_cons (ds_set (ps_set hN rfl (Or.inl rfl) (de_lstF da_nil)))
  (dss_one (ds_while (passes_of rfl) (dt_tru (de_bl)) (dss_cons (ds_set (ps_set hN rfl (Or.inl rfl) (de_bm ok_find3 (pe_bm PySem.F.plainAttrs_str PySem.F.slot_str_find PySem.F.type_str_find mt_find3 (de_var 0 (pv 0)) (da_cons (de_str) (da_cons (de_var 1 (pv 1)) da_nil))))))
  (dss_cons (ds_set (ps_set hN rfl (Or.inl rfl) (de_if (dt_cmp op_ge (ok_cmp _) (de_var 3 (pv 3)) (de_int)) (de_var 3 (pv 3)) (de_cb ok_len (pe_callB call_len rfl mg.b_len bt_len (da_cons (de_var 0 (pv 0)) da_nil))))))
  (dss_cons (ds_set (ps_set hN rfl (Or.inl rfl) (de_bm ok_find4 (pe_bm PySem.F.plainAttrs_str PySem.F.slot_str_find PySem.F.type_str_find mt_find4 (de_var 0 (pv 0)) (da_cons (de_str) (da_cons (de_var 1 (pv 1)) (da_cons (de_var 4 (pv 4)) da_nil)))))))
  (dss_cons (ds_if (dt_cmp op_ge (ok_cmp _) (de_var 5 (pv 5)) (de_int)) (dss_one (ds_set (ps_set hN rfl (Or.inl rfl) (de_var 5 (pv 5))))) dss_nil)
  (dss_cons (ds_set (ps_set hN rfl (Or.inl rfl) (de_bm ok_find4 (pe_bm PySem.F.plainAttrs_str PySem.F.slot_str_find PySem.F.type_str_find mt_find4 (de_var 0 (pv 0)) (da_cons (de_str) (da_cons (de_var 1 (pv 1)) (da_cons (de_var 4 (pv 4)) da_nil)))))))
  (dss_cons (ds_if (dt_cmp op_ge (ok_cmp _) (de_var 6 (pv 6)) (de_int)) (dss_one (ds_raise rfl (takes_of rfl rfl rfl rfl) x_BadPlain (hr.mono (by omega)) (da_cons (de_var 6 (pv 6)) da_nil))) dss_nil)
  (dss_cons (ds_expr (de_mut mu_append.fz (pe_bm PySem.F.plainAttrs_list PySem.F.slot_list_append PySem.F.type_list_append mt_append (pv 2) (da_cons (de_slice sl_all ok_slA (de_var 0 (pv 0)) (dp_some (de_var 1 (pv 1))) (dp_some (de_var 4 (pv 4)))) da_nil))))
  (dss_cons (ds_if (dt_cmp (op_eqA hr.units) ok_eq (de_var 4 (pv 4)) (de_var 3 (pv 3))) (dss_one (ds_ret (de_tup (da_cons (de_bm ok_join (pe_bm PySem.F.plainAttrs_str PySem.F.slot_str_join PySem.F.type_str_join mt_join (de_str) (da_cons (de_var 2 (pv 2)) da_nil))) (da_cons (de_op op_addA ok_add (de_var 4 (pv 4)) (de_int)) da_nil))))) dss_nil)
  (dss_cons (ds_if (dt_cmp (op_neA hr.units) ok_ne (de_var 4 (pv 4)) (de_var 5 (pv 5))) (dss_one (ds_raise rfl (takes_of rfl rfl rfl rfl) x_BadPlain (hr.mono (by omega)) (da_cons (de_var 4 (pv 4)) da_nil))) dss_nil)
  (dss_cons (ds_set (ps_set hN rfl (Or.inl rfl) (de_slice sl_all ok_slA (de_var 0 (pv 0)) (dp_some (de_op op_addA ok_add (de_var 4 (pv 4)) (de_int))) (dp_some (de_op op_addA ok_add (de_var 4 (pv 4)) (de_int))))))
  (dss_cons (ds_if (dt_bo (dw_or (dt_cmp (op_notInA (un65 hr)) ok_in (de_var 7 (pv 7)) (de_tup (da_cons (de_str) (da_cons (de_str) (da_cons (de_str) da_nil))))) (dw_or1 (dt_cmp (op_eqA hr.units) ok_eq (de_var 7 (pv 7)) (de_str))))) (dss_one (ds_raise rfl (takes_of rfl rfl rfl rfl) x_BadPlain (hr.mono (by omega)) (da_cons (de_op op_addA ok_add (de_var 4 (pv 4)) (de_int)) da_nil))) dss_nil)
  (dss_cons (ds_expr (de_mut mu_append.fz (pe_bm PySem.F.plainAttrs_list PySem.F.slot_list_append PySem.F.type_list_append mt_append (pv 2) (da_cons (de_if (dt_cmp (op_eqA hr.units) ok_eq (de_var 7 (pv 7)) (de_str)) (de_str) (de_var 7 (pv 7))) da_nil))))
  (dss_one (ds_set (ps_set hN rfl (Or.inl rfl) (de_op op_addA ok_add (de_var 4 (pv 4)) (de_int)))))))))))))))))))), mf, F.kp, F.binds fun _ _ _ _ _ _ us hl => match us, hl with | [_, _], _ => rfl, rfl⟩
/-! value_at, tuple_at -/
def G_value_at (self_value_at : FD) (self_tuple_at : FD) : SM :=
  (sSeq (sAsg (xSl opSlA (xVar 0) (xPart (xVar 1)) (xPart (x2 opAdd (xVar 1) (xD (.int 1))))) (gNm 3))
  (sSeq (sIf (xT (x2 opEq (xVar 3) (xD (.str "N")))) (sRet (xTup (xCons (xD .non) (xCons (x2 opAdd (xVar 1) (xD (.int 1))) xNil)))) sNx)
  (sSeq (sIf (xT (x2 opEq (xVar 3) (xD (.str "T")))) (sRet (xTup (xCons (xD (.bl true)) (xCons (x2 opAdd (xVar 1) (xD (.int 1))) xNil)))) sNx)
  (sSeq (sIf (xT (x2 opEq (xVar 3) (xD (.str "F")))) (sRet (xTup (xCons (xD (.bl false)) (xCons (x2 opAdd (xVar 1) (xD (.int 1))) xNil)))) sNx)
  (sSeq (sIf (xT (x2 opEq (xVar 3) (xD (.str "\"")))) (sRet (xCallN 2 none F_text_at (xCons (xVar 0) (xCons (x2 opAdd (xVar 1) (xD (.int 1))) xNil)))) sNx)
  (sSeq (sIf (xT (x2 opEq (xVar 3) (xD (.str "(")))) (sSeq (sIf (xT (x2 opEq (xVar 2) (xD C_MOST_BRACKETS))) (sRaise "BadPlain" ["place"] (xCons (xVar 1) xNil)) sNx)
  (sRet (xCallN 3 none self_tuple_at (xCons (xVar 0) (xCons (x2 opAdd (xVar 1) (xD (.int 1))) (xCons (x2 opAdd (xVar 2) (xD (.int 1))) xNil)))))) sNx)
  (sRet (xCallN 2 none F_integer_at (xCons (xVar 0) (xCons (xVar 1) xNil))))))))))
def G_tuple_at (self_value_at : FD) (self_tuple_at : FD) : SM :=
  (sSeq (sIf (xT (x2 opEq (xSl opSlA (xVar 0) (xPart (xVar 1)) (xPart (x2 opAdd (xVar 1) (xD (.int 1))))) (xD (.str ")")))) (sRet (xTup (xCons (xTup xNil) (xCons (x2 opAdd (xVar 1) (xD (.int 1))) xNil)))) sNx)
  (sSeq (sAsg (xLstF xNil) (gNm 3))
  (sWhile (xTru (xD (.bl true))) (sSeq (sAsg (xCallN 3 none self_value_at (xCons (xVar 0) (xCons (xVar 1) (xCons (xVar 2) xNil)))) (gTu [(gNm 4), (gNm 1)]))
  (sSeq (sExpr (xMut "list" 3 (muF muAppend) (xCons (xVar 4) xNil)))
  (sSeq (sAsg (xSl opSlA (xVar 0) (xPart (xVar 1)) (xPart (x2 opAdd (xVar 1) (xD (.int 1))))) (gNm 5))
  (sSeq (sIf (xT (x2 opEq (xVar 5) (xD (.str ")")))) (sRet (xTup (xCons (xN opTuple (xCons (xVar 3) xNil)) (xCons (x2 opAdd (xVar 1) (xD (.int 1))) xNil)))) sNx)
  (sSeq (sIf (xT (x2 opNe (xVar 5) (xD (.str " ")))) (sRaise "BadPlain" ["place"] (xCons (xVar 1) xNil)) sNx)
  (sAug 1 opAddI (xD (.int 1)))))))))))
mutual
def F_value_at : Nat → FD
  | 0 => fun _ => .bad
  | n + 1 => runF none 4 3 (G_value_at (F_value_at n) (F_tuple_at n))
def F_tuple_at : Nat → FD
  | 0 => fun _ => .bad
  | n + 1 => runF none 6 3 (G_tuple_at (F_value_at n) (F_tuple_at n))
end
theorem sc_value_at : FnScope ["text", "place", "within", "sign"] ["text", "place", "within"] (defScope (top 9)) := ⟨rfl, rfl, rfl, by decide +kernel, rfl, by decide +kernel, by decide +kernel⟩
theorem sc_tuple_at : FnScope ["text", "place", "within", "members", "member", "sign"] ["text", "place", "within"] (defScope (top 12)) := ⟨rfl, rfl, rfl, by decide +kernel, rfl, by decide +kernel, by decide +kernel⟩
theorem ok_grp_value_at (mg : Mg K mgf) {f_value_at : Addr} {fd_value_at : FuncData} (U_value_at : Fun K "value_at" "value_at" (top 9) f_value_at fd_value_at) (m_value_at : mgf "value_at" = some (.ref f_value_at)) {f_tuple_at : Addr} {fd_tuple_at : FuncData} (U_tuple_at : Fun K "tuple_at" "tuple_at" (top 12) f_tuple_at fd_tuple_at) (m_tuple_at : mgf "tuple_at" = some (.ref f_tuple_at)) (x_BadPlain : XCl P w K mgf base "BadPlain" ["place"] 1) (g_integer_at : FnD P w K mgf base "integer_at" 3 none 2 F_integer_at) (g_text_at : FnD P w K mgf base "text_at" 3 none 2 F_text_at) : ∀ n : Nat, FnD P w K mgf base "value_at" (n + 3) none 3 (F_value_at n) ∧ FnD P w K mgf base "tuple_at" (n + 3) none 3 (F_tuple_at n)
  | 0 => ⟨FnD.none U_value_at sc_value_at m_value_at (U_value_at.binds fun _ _ _ _ _ _ us hl => match us, hl with | [_, _, _], _ => rfl) rfl, FnD.none U_tuple_at sc_tuple_at m_tuple_at (U_tuple_at.binds fun _ _ _ _ _ _ us hl => match us, hl with | [_, _, _], _ => rfl) rfl⟩
  | n + 1 => by
    obtain ⟨g_value_at, g_tuple_at⟩ := ok_grp_value_at mg U_value_at m_value_at U_tuple_at m_tuple_at x_BadPlain g_integer_at g_text_at n
    refine ⟨?q_value_at, ?q_tuple_at⟩
    case q_value_at =>
      have hN := sc_value_at.nd
      exact ⟨f_value_at, fd_value_at, ["text", "place", "within"], fn_rule (k := n + 3) U_value_at sc_value_at rfl (by decide) (by simp) fun cdv A outer s H E hr =>
  (dss_cons (ds_set (ps_set hN rfl (Or.inl rfl) (de_slice sl_all ok_slA (de_var 0 (pv 0)) (dp_some (de_var 1 (pv 1))) (dp_some (de_op op_addA ok_add (de_var 1 (pv 1)) (de_int))))))
  (dss_cons (ds_if (dt_cmp (op_eqA hr.units) ok_eq (de_var 3 (pv 3)) (de_str)) (dss_one (ds_ret (de_tup (da_cons (de_non) (da_cons (de_op op_addA ok_add (de_var 1 (pv 1)) (de_int)) da_nil))))) dss_nil)
  (dss_cons (ds_if (dt_cmp (op_eqA hr.units) ok_eq (de_var 3 (pv 3)) (de_str)) (dss_one (ds_ret (de_tup (da_cons (de_bl) (da_cons (de_op op_addA ok_add (de_var 1 (pv 1)) (de_int)) da_nil))))) dss_nil)
  (dss_cons (ds_if (dt_cmp (op_eqA hr.units) ok_eq (de_var 3 (pv 3)) (de_str)) (dss_one (ds_ret (de_tup (da_cons (de_bl) (da_cons (de_op op_addA ok_add (de_var 1 (pv 1)) (de_int)) da_nil))))) dss_nil)
  (dss_cons (ds_if (dt_cmp (op_eqA hr.units) ok_eq (de_var 3 (pv 3)) (de_str)) (dss_one (ds_ret (de_call g_text_at (hr.mono (by omega)) (takes_of rfl rfl rfl rfl) (da_cons (de_var 0 (pv 0)) (da_cons (de_op op_addA ok_add (de_var 1 (pv 1)) (de_int)) da_nil))))) dss_nil)
  (dss_cons (ds_if (dt_cmp (op_eqA hr.units) ok_eq (de_var 3 (pv 3)) (de_str)) (dss_cons (ds_if (dt_cmp (op_eqA hr.units) ok_eq (de_var 2 (pv 2)) (de_g mg.c_MOST_BRACKETS)) (dss_one (ds_raise rfl (takes_of rfl rfl rfl rfl) x_BadPlain (hr.mono (by omega)) (da_cons (de_var 1 (pv 1)) da_nil))) dss_nil)
  (dss_one (ds_ret (de_call g_tuple_at (hr.mono (by omega)) (takes_of rfl rfl rfl rfl) (da_cons (de_var 0 (pv 0)) (da_cons (de_op op_addA ok_add (de_var 1 (pv 1)) (de_int)) (da_cons (de_op op_addA ok_add (de_var 2 (pv 2)) (de_int)) da_nil))))))) dss_nil)
  (dss_one (ds_ret (de_call g_integer_at (hr.mono (by omega)) (takes_of rfl rfl rfl rfl) (da_cons (de_var 0 (pv 0)) (da_cons (de_var 1 (pv 1)) da_nil))))))))))), m_value_at, U_value_at.kp, U_value_at.binds fun _ _ _ _ _ _ us hl => match us, hl with | [_, _, _], _ => rfl, rfl⟩
    case q_tuple_at =>
      have hN := sc_tuple_at.nd
      exact ⟨f_tuple_at, fd_tuple_at, ["text", "place", "within"], fn_rule (k := n + 3) U_tuple_at sc_tuple_at rfl (by decide) (by simp) fun cdv A outer s H E hr =>
  (dss_cons (ds_if (dt_cmp (op_eqA hr.units) ok_eq (de_slice sl_all ok_slA (de_var 0 (pv 0)) (dp_some (de_var 1 (pv 1))) (dp_some (de_op op_addA ok_add (de_var 1 (pv 1)) (de_int)))) (de_str)) (dss_one (ds_ret (de_tup (da_cons (de_tup da_nil) (da_cons (de_op op_addA ok_add (de_var 1 (pv 1)) (de_int)) da_nil))))) dss_nil)
  (dss_cons (ds_set (ps_set hN rfl (Or.inl rfl) (de_lstF da_nil)))
  (dss_one (ds_while (passes_of rfl) (dt_tru (de_bl)) (dss_cons (ds_asg (de_call g_value_at (hr.mono (by omega)) (takes_of rfl rfl rfl rfl) (da_cons (de_var 0 (pv 0)) (da_cons (de_var 1 (pv 1)) (da_cons (de_var 2 (pv 2)) da_nil)))) (dg_tup rfl (dgs_cons (dg_name (pg_name hN rfl (Or.inl rfl))) (dgs_cons (dg_name (pg_name hN rfl (Or.inl rfl))) dgs_nil))))
  (dss_cons (ds_expr (de_mut mu_append.fz (pe_bm PySem.F.plainAttrs_list PySem.F.slot_list_append PySem.F.type_list_append mt_append (pv 3) (da_cons (de_var 4 (pv 4)) da_nil))))
  (dss_cons (ds_set (ps_set hN rfl (Or.inl rfl) (de_slice sl_all ok_slA (de_var 0 (pv 0)) (dp_some (de_var 1 (pv 1))) (dp_some (de_op op_addA ok_add (de_var 1 (pv 1)) (de_int))))))
  (dss_cons (ds_if (dt_cmp (op_eqA hr.units) ok_eq (de_var 5 (pv 5)) (de_str)) (dss_one (ds_ret (de_tup (da_cons (de_cb ok_tuple (pe_callTy call_tuple_of rfl mg.b_tuple bt_tuple (da_cons (de_var 3 (pv 3)) da_nil))) (da_cons (de_op op_addA ok_add (de_var 1 (pv 1)) (de_int)) da_nil))))) dss_nil)
  (dss_cons (ds_if (dt_cmp (op_neA hr.units) ok_ne (de_var 5 (pv 5)) (de_str)) (dss_one (ds_raise rfl (takes_of rfl rfl rfl rfl) x_BadPlain (hr.mono (by omega)) (da_cons (de_var 1 (pv 1)) da_nil))) dss_nil)
  (dss_one (ds_aug ipk_add (ps_aug hN rfl (Or.inl rfl) (de_int) ip_add)))))))))))), m_tuple_at, U_tuple_at.kp, U_tuple_at.binds fun _ _ _ _ _ _ us hl => match us, hl with | [_, _, _], _ => rfl, rfl⟩
/-! read_plain -/
def G_read_plain : SM :=
  (sSeq (sAsg (xCallN 3 none (F_value_at 128) (xCons (xVar 0) (xCons (xD (.int 0)) (xCons (xD (.int 0)) xNil)))) (gTu [(gNm 1), (gNm 2)]))
  (sSeq (sIf (xT (x2 opLt (xVar 2) (xN opLen (xCons (xVar 0) xNil)))) (sRaise "BadPlain" ["place"] (xCons (xVar 2) xNil)) sNx)
  (sRet (xVar 1))))
def F_read_plain : FD := runF none 3 1 G_read_plain
theorem sc_read_plain : FnScope ["text", "value", "place"] ["text"] (defScope (top 8)) := ⟨rfl, rfl, rfl, by decide +kernel, rfl, by decide +kernel, by decide +kernel⟩
theorem ok_read_plain (mg : Mg K mgf) (F : Fun K "read_plain" "read_plain" (top 8) f fd) (mf : mgf "read_plain" = some (.ref f)) (x_BadPlain : XCl P w K mgf base "BadPlain" ["place"] 1) (g_value_at : FnD P w K mgf base "value_at" 131 none 3 (F_value_at 128)) : FnD P w K mgf base "read_plain" 132 none 1 F_read_plain := by
  have hN := sc_read_plain.nd
  exact ⟨f, fd, ["text"], fn_rule F sc_read_plain rfl (by decide) (by simp) fun cdv A outer s H E hr =>
  (dss_cons (ds_asg (de_call g_value_at (hr.mono (by omega)) (takes_of rfl rfl rfl rfl) (da_cons (de_var 0 (pv 0)) (da_cons (de_int) (da_cons (de_int) da_nil)))) (dg_tup rfl (dgs_cons (dg_name (pg_name hN rfl (Or.inl rfl))) (dgs_cons (dg_name (pg_name hN rfl (Or.inl rfl))) dgs_nil))))
  (dss_cons (ds_if (dt_cmp op_lt (ok_cmp _) (de_var 2 (pv 2)) (de_cb ok_len (pe_callB call_len rfl mg.b_len bt_len (da_cons (de_var 0 (pv 0)) da_nil)))) (dss_one (ds_raise rfl (takes_of rfl rfl rfl rfl) x_BadPlain (hr.mono (by omega)) (da_cons (de_var 2 (pv 2)) da_nil))) dss_nil)
  (dss_one (ds_ret (de_var 1 (pv 1)))))), mf, F.kp, F.binds fun _ _ _ _ _ _ us hl => match us, hl with | [_], _ => rfl, rfl⟩
/-! _law_told -/
def G__law_told : SM :=
  (sTryX "BadPlain" 1 (fun fs => (List.lookup (PySem.Str.ofString "place") fs).map fun d => [.str "bad", d]) (sRet (xTup (xCons (xD (.str "good")) (xCons (xCallN 1 none F_read_plain (xCons (xVar 0) xNil)) xNil)))))
def F__law_told : FD := runF none 2 1 G__law_told
theorem sc__law_told : FnScope ["text", "e"] ["text"] (defScope (top 23)) := ⟨rfl, rfl, rfl, by decide +kernel, rfl, by decide +kernel, by decide +kernel⟩
theorem ok__law_told (mg : Mg K mgf) (F : Fun K "_law_told" "_law_told" (top 23) f fd) (mf : mgf "_law_told" = some (.ref f)) (tx_BadPlain : TryF K mgf "BadPlain" C_BadPlain) (m_TileError : mgf "TileError" = some (.ref C_TileError)) (ki_BadPlain_TileError : PySem.W.kitOne K (.ref C_BadPlain) (.ref C_TileError) = some true) (ki_BadPlain_ValueError : PySem.W.kitOne K (.ref C_BadPlain) (.type "ValueError") = some true) (m_BadText : mgf "BadText" = some (.ref C_BadText)) (ki_BadPlain_BadText : PySem.W.kitOne K (.ref C_BadPlain) (.ref C_BadText) = some false) (no_BadPlain_place : PySem.W.findIn K (.ref C_BadPlain) "place" = some none) (g_read_plain : FnD P w K mgf base "read_plain" 132 none 1 F_read_plain) : FnD P w K mgf base "_law_told" 133 none 1 F__law_told := by
  have hN := sc__law_told.nd
  exact ⟨f, fd, ["text"], fn_rule F sc__law_told rfl (by decide) (by simp) fun cdv A outer s H E hr =>
  (dss_one (ds_tryX rfl rfl hN rfl rfl (takes_of rfl rfl rfl rfl) rfl (by decide) tx_BadPlain.m tx_BadPlain.m tx_BadPlain.ex follows_cf rfl (fun W' pn xe tk' => (dss_one (ds_ret (de_tup (da_cons (de_str) (da_cons (de_call g_read_plain (hr.mono (by omega)) tk' (da_cons (de_var 0 (pv 0)) da_nil)) da_nil)))))) (fun a oe cls d pn hz hf => (ss_if (st_bo (sw_or (st_not (st_is tx_BadPlain.x hz hf rfl mg.b_isinstance bt_isinstance (pv 1) (pe_ref rfl m_TileError) ref_is ki_BadPlain_TileError)) (sw_or (st_not (st_is tx_BadPlain.x hz hf rfl mg.b_isinstance bt_isinstance (pv 1) (pe_bltn (v := .ty "ValueError") rfl mg.b_ValueError bt_ValueError rfl (by decide) (by decide)) ty_is ki_BadPlain_ValueError)) (sw_or1 (st_is tx_BadPlain.x hz hf rfl mg.b_isinstance bt_isinstance (pv 1) (pe_ref rfl m_BadText) ref_is ki_BadPlain_BadText))))) (ss_ret (sa_cons (sx_c pe_str) (sa_cons (sx_f tx_BadPlain.x.xf no_BadPlain_place hz hf (pv 1)) sa_nil))))))), mf, F.kp, F.binds fun _ _ _ _ _ _ us hl => match us, hl with | [_], _ => rfl, rfl⟩
/-! law -/
def G_law : SM :=
  (sSeq (sAsg (xLstF (xCons (xCallN 3 none F__law_digits (xCons (xVar 0) (xCons (xD (.int 0)) (xCons (xD (.int 63)) xNil)))) (xCons (xD (.int 0)) xNil))) (gNm 1))
  (sSeq (sFor (iRg1 (xCons (xD (.int 6)) xNil)) (gNm 2) (sSeq (sAsg (xCallN 1 none (F__law_plain 64) (xCons (xCallN 2 (some 0) (F__law_value 64) (xCons (xVar 1) (xCons (xD (.int 3)) xNil))) xNil)) (gNm 3))
  (sSeq (sAsg (x2 opMod (xN opInt (xCons (xCallN 2 (some 0) F__law_draw (xCons (xVar 1) (xCons (xD (.int 900)) xNil))) xNil)) (x2 opAdd (xN opLen (xCons (xVar 3) xNil)) (xD (.int 1)))) (gNm 4))
  (sSeq (sAsg (x2 opIx (xD (.str "()\" TFN-0195\\n;x~")) (x2 opMod (xN opInt (xCons (xCallN 2 (some 0) F__law_draw (xCons (xVar 1) (xCons (xD (.int 900)) xNil))) xNil)) (xD (.int 17)))) (gNm 5))
  (sSeq (sAsg (xLstF (xCons (xSl opSlA (xVar 3) xNoPart (xPart (xVar 4))) (xCons (x2 opAdd (xSl opSlA (xVar 3) xNoPart (xPart (xVar 4))) (xSl opSlA (xVar 3) (xPart (x2 opAdd (xVar 4) (xD (.int 1)))) xNoPart)) (xCons (x2 opAdd (x2 opAdd (xSl opSlA (xVar 3) xNoPart (xPart (xVar 4))) (xVar 5)) (xSl opSlA (xVar 3) (xPart (xVar 4)) xNoPart)) (xCons (x2 opAdd (x2 opAdd (xSl opSlA (xVar 3) xNoPart (xPart (xVar 4))) (xVar 5)) (xSl opSlA (xVar 3) (xPart (x2 opAdd (xVar 4) (xD (.int 1)))) xNoPart)) (xCons (x2 opAdd (xVar 3) (xVar 5)) xNil)))))) (gNm 6))
  (sSeq (sAsg (xLstF (xCons (x2 opRepS (xD (.str "1")) (xD (.int 2001))) (xCons (x2 opAdd (xD (.str "-")) (x2 opRepS (xD (.str "9")) (xD (.int 2001)))) (xCons (x2 opAdd (x2 opRepS (xD (.str "(")) (xD (.int 41))) (x2 opRepS (xD (.str ")")) (xD (.int 41)))) (xCons (x2 opAdd (x2 opRepS (xD (.str "(")) (xD (.int 40))) (x2 opRepS (xD (.str ")")) (xD (.int 40)))) (xCons (xD (.str "(1  2)")) (xCons (xD (.str "(1 )")) (xCons (xD (.str "( 1)")) (xCons (xD (.str "01")) (xCons (xD (.str "-0")) (xCons (xD (.str "--1")) (xCons (xD (.str "T T")) (xCons (xD (.str "\"a")) (xCons (x2 opRepS (xD (.str "1")) (xD (.int 2000))) (xCons (x2 opAdd (xD (.str "-")) (x2 opRepS (xD (.str "9")) (xD (.int 2000)))) xNil))))))))))))))) (gNm 7))
  (sSeq (sAsg (x2 opAdd (xVar 6) (xLstF (xCons (x2 opIx (xVar 7) (x2 opAdd (xD (.int 4)) (x2 opMod (xN opInt (xCons (xCallN 2 (some 0) F__law_draw (xCons (xVar 1) (xCons (xD (.int 900)) xNil))) xNil)) (xD (.int 8))))) xNil))) (gNm 6))
  (sSeq (sIf (xT (x2 opEq (xVar 2) (xD (.int 0)))) (sAsg (x2 opIx (xVar 7) (x2 opMod (xN opInt (xCons (xCallN 2 (some 0) F__law_draw (xCons (xVar 1) (xCons (xD (.int 900)) xNil))) xNil)) (xD (.int 14)))) (gIx 6 (xD (.int 5)) (muF muSetL))) sNx)
  (sSeq (sAsg (x2 opIx (xVar 6) (xCallN 2 (some 0) F__law_draw (xCons (xVar 1) (xCons (xD (.int 6)) xNil)))) (gNm 3))
  (sSeq (sAsg (xCallN 1 none F__law_read (xCons (xVar 3) xNil)) (gNm 8))
  (sIf (xNot (xTru (xCallN 2 none (F__law_same 64) (xCons (xCallN 1 none F__law_told (xCons (xVar 3) xNil)) (xCons (xVar 8) xNil))))) (sRet (xD (.bl false))) sNx)))))))))))
  (sRet (xD (.bl true)))))
def F_law : FD := runF none 9 1 G_law
theorem sc_law : FnScope ["script", "box", "turn", "text", "at", "sign", "changed", "great", "due"] ["script"] (defScope (top 25)) := ⟨rfl, rfl, rfl, by decide +kernel, rfl, by decide +kernel, by decide +kernel⟩
theorem ok_law (mg : Mg K mgf) (F : Fun K "law" "law" (top 25) f fd) (g__law_digits : FnD P w K mgf base "_law_digits" 4 none 3 F__law_digits) (g__law_plain : FnD P w K mgf base "_law_plain" 66 none 1 (F__law_plain 64)) (g__law_read : FnD P w K mgf base "_law_read" 68 none 1 F__law_read) (g__law_value : FnD P w K mgf base "_law_value" 67 (some 0) 2 (F__law_value 64)) (g__law_draw : FnD P w K mgf base "_law_draw" 3 (some 0) 2 F__law_draw) (g__law_same : FnD P w K mgf base "_law_same" 66 none 2 (F__law_same 64)) (g__law_told : FnD P w K mgf base "_law_told" 133 none 1 F__law_told) : FnOk P w K mgf base (L2.CX P w) 134 f fd ["script"] (spF K mgf none 1 F_law) := by
  have hN := sc_law.nd
  exact fn_rule F sc_law rfl (by decide) (by simp) fun cdv A outer s H E hr =>
  (dss_cons (ds_set (ps_set hN rfl (Or.inl rfl) (de_lstF (da_cons (de_call g__law_digits (hr.mono (by omega)) (takes_of rfl rfl rfl rfl) (da_cons (de_var 0 (pv 0)) (da_cons (de_int) (da_cons (de_int) da_nil)))) (da_cons (de_int) da_nil)))))
  (dss_cons (ds_for (passes_of rfl) rfl (di_rng1 rfl mg.b_range (da_cons (de_int) da_nil)) (dg_name (pg_name hN rfl (Or.inl rfl))) (dss_cons (ds_set (ps_set hN rfl (Or.inl rfl) (de_call g__law_plain (hr.mono (by omega)) (takes_of rfl rfl rfl rfl) (da_cons (de_call g__law_value (hr.mono (by omega)) (takes_of rfl rfl rfl rfl) (da_cons (de_var 1 (pv 1)) (da_cons (de_int) da_nil))) da_nil))))
  (dss_cons (ds_set (ps_set hN rfl (Or.inl rfl) (de_op op_mod ok_mod (de_cb ok_int (pe_callTy call_int1 rfl mg.b_int bt_int (da_cons (de_call g__law_draw (hr.mono (by omega)) (takes_of rfl rfl rfl rfl) (da_cons (de_var 1 (pv 1)) (da_cons (de_int) da_nil))) da_nil))) (de_op op_addA ok_add (de_cb ok_len (pe_callB call_len rfl mg.b_len bt_len (da_cons (de_var 3 (pv 3)) da_nil))) (de_int)))))
  (dss_cons (ds_set (ps_set hN rfl (Or.inl rfl) (de_ix ix_seq ok_ix (de_str) (de_op op_mod ok_mod (de_cb ok_int (pe_callTy call_int1 rfl mg.b_int bt_int (da_cons (de_call g__law_draw (hr.mono (by omega)) (takes_of rfl rfl rfl rfl) (da_cons (de_var 1 (pv 1)) (da_cons (de_int) da_nil))) da_nil))) (de_int)) (fun _ _ => rfl))))
  (dss_cons (ds_set (ps_set hN rfl (Or.inl rfl) (de_lstF (da_cons (de_slice sl_all ok_slA (de_var 3 (pv 3)) dp_none (dp_some (de_var 4 (pv 4)))) (da_cons (de_op op_addA ok_add (de_slice sl_all ok_slA (de_var 3 (pv 3)) dp_none (dp_some (de_var 4 (pv 4)))) (de_slice sl_all ok_slA (de_var 3 (pv 3)) (dp_some (de_op op_addA ok_add (de_var 4 (pv 4)) (de_int))) dp_none)) (da_cons (de_op op_addA ok_add (de_op op_addA ok_add (de_slice sl_all ok_slA (de_var 3 (pv 3)) dp_none (dp_some (de_var 4 (pv 4)))) (de_var 5 (pv 5))) (de_slice sl_all ok_slA (de_var 3 (pv 3)) (dp_some (de_var 4 (pv 4))) dp_none)) (da_cons (de_op op_addA ok_add (de_op op_addA ok_add (de_slice sl_all ok_slA (de_var 3 (pv 3)) dp_none (dp_some (de_var 4 (pv 4)))) (de_var 5 (pv 5))) (de_slice sl_all ok_slA (de_var 3 (pv 3)) (dp_some (de_op op_addA ok_add (de_var 4 (pv 4)) (de_int))) dp_none)) (da_cons (de_op op_addA ok_add (de_var 3 (pv 3)) (de_var 5 (pv 5))) da_nil))))))))
  (dss_cons (ds_set (ps_set hN rfl (Or.inl rfl) (de_lstF (da_cons (de_op op_repS ok_repS (de_str) (de_int)) (da_cons (de_op op_addA ok_add (de_str) (de_op op_repS ok_repS (de_str) (de_int))) (da_cons (de_op op_addA ok_add (de_op op_repS ok_repS (de_str) (de_int)) (de_op op_repS ok_repS (de_str) (de_int))) (da_cons (de_op op_addA ok_add (de_op op_repS ok_repS (de_str) (de_int)) (de_op op_repS ok_repS (de_str) (de_int))) (da_cons (de_str) (da_cons (de_str) (da_cons (de_str) (da_cons (de_str) (da_cons (de_str) (da_cons (de_str) (da_cons (de_str) (da_cons (de_str) (da_cons (de_op op_repS ok_repS (de_str) (de_int)) (da_cons (de_op op_addA ok_add (de_str) (de_op op_repS ok_repS (de_str) (de_int))) da_nil)))))))))))))))))
  (dss_cons (ds_set (ps_set hN rfl (Or.inl rfl) (de_op op_addA ok_add (de_var 6 (pv 6)) (de_lstF (da_cons (de_ix ix_seq ok_ix (de_var 7 (pv 7)) (de_op op_addA ok_add (de_int) (de_op op_mod ok_mod (de_cb ok_int (pe_callTy call_int1 rfl mg.b_int bt_int (da_cons (de_call g__law_draw (hr.mono (by omega)) (takes_of rfl rfl rfl rfl) (da_cons (de_var 1 (pv 1)) (da_cons (de_int) da_nil))) da_nil))) (de_int))) (fun _ _ => rfl)) da_nil)))))
  (dss_cons (ds_if (dt_cmp (op_eqA hr.units) ok_eq (de_var 2 (pv 2)) (de_int)) (dss_one (ds_asg (de_ix ix_seq ok_ix (de_var 7 (pv 7)) (de_op op_mod ok_mod (de_cb ok_int (pe_callTy call_int1 rfl mg.b_int bt_int (da_cons (de_call g__law_draw (hr.mono (by omega)) (takes_of rfl rfl rfl rfl) (da_cons (de_var 1 (pv 1)) (da_cons (de_int) da_nil))) da_nil))) (de_int)) (fun _ _ => rfl)) (dg_ix mu_setL.fz (pg_sub (pv 6) (de_int) set_list)))) dss_nil)
  (dss_cons (ds_set (ps_set hN rfl (Or.inl rfl) (de_ix ix_seq ok_ix (de_var 6 (pv 6)) (de_call g__law_draw (hr.mono (by omega)) (takes_of rfl rfl rfl rfl) (da_cons (de_var 1 (pv 1)) (da_cons (de_int) da_nil))) (fun _ _ => rfl))))
  (dss_cons (ds_set (ps_set hN rfl (Or.inl rfl) (de_call g__law_read (hr.mono (by omega)) (takes_of rfl rfl rfl rfl) (da_cons (de_var 3 (pv 3)) da_nil))))
  (dss_one (ds_if (dt_not (dt_tru (de_call g__law_same (hr.mono (by omega)) (takes_of rfl rfl rfl rfl) (da_cons (de_call g__law_told (hr.mono (by omega)) (takes_of rfl rfl rfl rfl) (da_cons (de_var 3 (pv 3)) da_nil)) (da_cons (de_var 8 (pv 8)) da_nil))))) (dss_one (ds_ret (de_bl))) dss_nil))))))))))))
  (dss_one (ds_ret (de_bl)))))
end
theorem all_mk {l : PySem.W.OpenLaw} {w : World} {K : PySem.W.Frag} {h : Heap} {mgf : Str → Option Value} {fa f__law_cell f__law_digits f__law_plain f__law_text_at f__law_digits_at f__law_value_at f__law_read f__law_draw f__law_value f__law_same f_integer_at f_text_at f_value_at f_tuple_at f_read_plain f__law_told f_law : Addr} (X : K.In h) (Gn : h.Ns mainGlobals mgf) (hfa : mgf "law" = some (.ref fa))
    {C_BadPlain : Addr} {cdx_BadPlain : ClassData} {C_BadText : Addr} {cdx_BadText : ClassData} {C_TileError : Addr} {cdx_TileError : ClassData} {f_BadPlain cc_BadPlain cda_BadPlain : Addr} {nm_BadPlain qx_BadPlain nmi_BadPlain qui_BadPlain fil_BadPlain : Str} {N_BadPlain : Addr} {bs_BadPlain bm_BadPlain sub_BadPlain : List Value} {sn_BadPlain : List Str} {ab_BadPlain : Bool} {col_BadPlain : Option Bool} {dd_BadPlain odi_BadPlain ani_BadPlain cld_BadPlain cdd_BadPlain : Option Addr} {k0_BadPlain k1_BadPlain k2_BadPlain k3_BadPlain k5_BadPlain : Option Value} {oci_BadPlain kVi_BadPlain doi_BadPlain pmi_BadPlain cti_BadPlain cl0_BadPlain ccl_BadPlain : Value} {osl_BadPlain csl_BadPlain ccs_BadPlain : Array (Option Value)} {vs_BadPlain : Array Value} {tf_BadPlain : Tok}
    {od__law_cell an__law_cell od__law_digits an__law_digits od__law_plain an__law_plain od__law_text_at an__law_text_at od__law_digits_at an__law_digits_at od__law_value_at an__law_value_at od__law_read an__law_read od__law_draw an__law_draw od__law_value an__law_value od__law_same an__law_same od_integer_at an_integer_at od_text_at an_text_at od_value_at an_value_at od_tuple_at an_tuple_at od_read_plain an_read_plain od__law_told an__law_told od_law an_law : Option Addr} {sl__law_cell sl__law_digits sl__law_plain sl__law_text_at sl__law_digits_at sl__law_value_at sl__law_read sl__law_draw sl__law_value sl__law_same sl_integer_at sl_text_at sl_value_at sl_tuple_at sl_read_plain sl__law_told sl_law : Array (Option Value)}
    {oc__law_cell kV__law_cell dc__law_cell pm__law_cell cd__law_cell ct__law_cell oc__law_digits kV__law_digits dc__law_digits pm__law_digits cd__law_digits ct__law_digits oc__law_plain kV__law_plain dc__law_plain pm__law_plain cd__law_plain ct__law_plain oc__law_text_at kV__law_text_at dc__law_text_at pm__law_text_at cd__law_text_at ct__law_text_at oc__law_digits_at kV__law_digits_at dc__law_digits_at pm__law_digits_at cd__law_digits_at ct__law_digits_at oc__law_value_at kV__law_value_at dc__law_value_at pm__law_value_at cd__law_value_at ct__law_value_at oc__law_read kV__law_read dc__law_read pm__law_read cd__law_read ct__law_read oc__law_draw kV__law_draw dc__law_draw pm__law_draw cd__law_draw ct__law_draw oc__law_value kV__law_value dc__law_value pm__law_value cd__law_value ct__law_value oc__law_same kV__law_same dc__law_same pm__law_same cd__law_same ct__law_same oc_integer_at kV_integer_at dc_integer_at pm_integer_at cd_integer_at ct_integer_at oc_text_at kV_text_at dc_text_at pm_text_at cd_text_at ct_text_at oc_value_at kV_value_at dc_value_at pm_value_at cd_value_at ct_value_at oc_tuple_at kV_tuple_at dc_tuple_at pm_tuple_at cd_tuple_at ct_tuple_at oc_read_plain kV_read_plain dc_read_plain pm_read_plain cd_read_plain ct_read_plain oc__law_told kV__law_told dc__law_told pm__law_told cd__law_told ct__law_told oc_law kV_law dc_law pm_law cd_law ct_law : Value}
    {tk_FIGURES tk_MOST_BRACKETS tk_MOST_FIGURES : Tok}
    (a__law_cell : PySem.W.nsIn K mainGlobals "_law_cell" = some (some (.ref f__law_cell))) (l__law_cell : K.lookup f__law_cell = some ⟨oc__law_cell, od__law_cell, .func (PySem.W.fnOf "_law_cell" "_law_cell" (defArgs (top 14)) (defBody (top 14)) (defScope (top 14)) .none kV__law_cell dc__law_cell pm__law_cell an__law_cell cd__law_cell ct__law_cell), sl__law_cell⟩) (c__law_cell : PySem.W.codeIn K cd__law_cell "_law_cell" = true) (k__law_cell : PySem.W.keepIn K (.ref f__law_cell) = true)
    (a__law_digits : PySem.W.nsIn K mainGlobals "_law_digits" = some (some (.ref f__law_digits))) (l__law_digits : K.lookup f__law_digits = some ⟨oc__law_digits, od__law_digits, .func (PySem.W.fnOf "_law_digits" "_law_digits" (defArgs (top 15)) (defBody (top 15)) (defScope (top 15)) .none kV__law_digits dc__law_digits pm__law_digits an__law_digits cd__law_digits ct__law_digits), sl__law_digits⟩) (c__law_digits : PySem.W.codeIn K cd__law_digits "_law_digits" = true) (k__law_digits : PySem.W.keepIn K (.ref f__law_digits) = true)
    (a__law_plain : PySem.W.nsIn K mainGlobals "_law_plain" = some (some (.ref f__law_plain))) (l__law_plain : K.lookup f__law_plain = some ⟨oc__law_plain, od__law_plain, .func (PySem.W.fnOf "_law_plain" "_law_plain" (defArgs (top 18)) (defBody (top 18)) (defScope (top 18)) .none kV__law_plain dc__law_plain pm__law_plain an__law_plain cd__law_plain ct__law_plain), sl__law_plain⟩) (c__law_plain : PySem.W.codeIn K cd__law_plain "_law_plain" = true) (k__law_plain : PySem.W.keepIn K (.ref f__law_plain) = true)
    (a__law_text_at : PySem.W.nsIn K mainGlobals "_law_text_at" = some (some (.ref f__law_text_at))) (l__law_text_at : K.lookup f__law_text_at = some ⟨oc__law_text_at, od__law_text_at, .func (PySem.W.fnOf "_law_text_at" "_law_text_at" (defArgs (top 19)) (defBody (top 19)) (defScope (top 19)) .none kV__law_text_at dc__law_text_at pm__law_text_at an__law_text_at cd__law_text_at ct__law_text_at), sl__law_text_at⟩) (c__law_text_at : PySem.W.codeIn K cd__law_text_at "_law_text_at" = true) (k__law_text_at : PySem.W.keepIn K (.ref f__law_text_at) = true)
    (a__law_digits_at : PySem.W.nsIn K mainGlobals "_law_digits_at" = some (some (.ref f__law_digits_at))) (l__law_digits_at : K.lookup f__law_digits_at = some ⟨oc__law_digits_at, od__law_digits_at, .func (PySem.W.fnOf "_law_digits_at" "_law_digits_at" (defArgs (top 20)) (defBody (top 20)) (defScope (top 20)) .none kV__law_digits_at dc__law_digits_at pm__law_digits_at an__law_digits_at cd__law_digits_at ct__law_digits_at), sl__law_digits_at⟩) (c__law_digits_at : PySem.W.codeIn K cd__law_digits_at "_law_digits_at" = true) (k__law_digits_at : PySem.W.keepIn K (.ref f__law_digits_at) = true)
    (a__law_value_at : PySem.W.nsIn K mainGlobals "_law_value_at" = some (some (.ref f__law_value_at))) (l__law_value_at : K.lookup f__law_value_at = some ⟨oc__law_value_at, od__law_value_at, .func (PySem.W.fnOf "_law_value_at" "_law_value_at" (defArgs (top 21)) (defBody (top 21)) (defScope (top 21)) .none kV__law_value_at dc__law_value_at pm__law_value_at an__law_value_at cd__law_value_at ct__law_value_at), sl__law_value_at⟩) (c__law_value_at : PySem.W.codeIn K cd__law_value_at "_law_value_at" = true) (k__law_value_at : PySem.W.keepIn K (.ref f__law_value_at) = true)
    (a__law_read : PySem.W.nsIn K mainGlobals "_law_read" = some (some (.ref f__law_read))) (l__law_read : K.lookup f__law_read = some ⟨oc__law_read, od__law_read, .func (PySem.W.fnOf "_law_read" "_law_read" (defArgs (top 22)) (defBody (top 22)) (defScope (top 22)) .none kV__law_read dc__law_read pm__law_read an__law_read cd__law_read ct__law_read), sl__law_read⟩) (c__law_read : PySem.W.codeIn K cd__law_read "_law_read" = true) (k__law_read : PySem.W.keepIn K (.ref f__law_read) = true)
    (a__law_draw : PySem.W.nsIn K mainGlobals "_law_draw" = some (some (.ref f__law_draw))) (l__law_draw : K.lookup f__law_draw = some ⟨oc__law_draw, od__law_draw, .func (PySem.W.fnOf "_law_draw" "_law_draw" (defArgs (top 16)) (defBody (top 16)) (defScope (top 16)) .none kV__law_draw dc__law_draw pm__law_draw an__law_draw cd__law_draw ct__law_draw), sl__law_draw⟩) (c__law_draw : PySem.W.codeIn K cd__law_draw "_law_draw" = true) (k__law_draw : PySem.W.keepIn K (.ref f__law_draw) = true)
    (a__law_value : PySem.W.nsIn K mainGlobals "_law_value" = some (some (.ref f__law_value))) (l__law_value : K.lookup f__law_value = some ⟨oc__law_value, od__law_value, .func (PySem.W.fnOf "_law_value" "_law_value" (defArgs (top 24)) (defBody (top 24)) (defScope (top 24)) .none kV__law_value dc__law_value pm__law_value an__law_value cd__law_value ct__law_value), sl__law_value⟩) (c__law_value : PySem.W.codeIn K cd__law_value "_law_value" = true) (k__law_value : PySem.W.keepIn K (.ref f__law_value) = true)
    (a__law_same : PySem.W.nsIn K mainGlobals "_law_same" = some (some (.ref f__law_same))) (l__law_same : K.lookup f__law_same = some ⟨oc__law_same, od__law_same, .func (PySem.W.fnOf "_law_same" "_law_same" (defArgs (top 17)) (defBody (top 17)) (defScope (top 17)) .none kV__law_same dc__law_same pm__law_same an__law_same cd__law_same ct__law_same), sl__law_same⟩) (c__law_same : PySem.W.codeIn K cd__law_same "_law_same" = true) (k__law_same : PySem.W.keepIn K (.ref f__law_same) = true)
    (a_integer_at : PySem.W.nsIn K mainGlobals "integer_at" = some (some (.ref f_integer_at))) (l_integer_at : K.lookup f_integer_at = some ⟨oc_integer_at, od_integer_at, .func (PySem.W.fnOf "integer_at" "integer_at" (defArgs (top 10)) (defBody (top 10)) (defScope (top 10)) .none kV_integer_at dc_integer_at pm_integer_at an_integer_at cd_integer_at ct_integer_at), sl_integer_at⟩) (c_integer_at : PySem.W.codeIn K cd_integer_at "integer_at" = true) (k_integer_at : PySem.W.keepIn K (.ref f_integer_at) = true)
    (a_text_at : PySem.W.nsIn K mainGlobals "text_at" = some (some (.ref f_text_at))) (l_text_at : K.lookup f_text_at = some ⟨oc_text_at, od_text_at, .func (PySem.W.fnOf "text_at" "text_at" (defArgs (top 11)) (defBody (top 11)) (defScope (top 11)) .none kV_text_at dc_text_at pm_text_at an_text_at cd_text_at ct_text_at), sl_text_at⟩) (c_text_at : PySem.W.codeIn K cd_text_at "text_at" = true) (k_text_at : PySem.W.keepIn K (.ref f_text_at) = true)
    (a_value_at : PySem.W.nsIn K mainGlobals "value_at" = some (some (.ref f_value_at))) (l_value_at : K.lookup f_value_at = some ⟨oc_value_at, od_value_at, .func (PySem.W.fnOf "value_at" "value_at" (defArgs (top 9)) (defBody (top 9)) (defScope (top 9)) .none kV_value_at dc_value_at pm_value_at an_value_at cd_value_at ct_value_at), sl_value_at⟩) (c_value_at : PySem.W.codeIn K cd_value_at "value_at" = true) (k_value_at : PySem.W.keepIn K (.ref f_value_at) = true)
    (a_tuple_at : PySem.W.nsIn K mainGlobals "tuple_at" = some (some (.ref f_tuple_at))) (l_tuple_at : K.lookup f_tuple_at = some ⟨oc_tuple_at, od_tuple_at, .func (PySem.W.fnOf "tuple_at" "tuple_at" (defArgs (top 12)) (defBody (top 12)) (defScope (top 12)) .none kV_tuple_at dc_tuple_at pm_tuple_at an_tuple_at cd_tuple_at ct_tuple_at), sl_tuple_at⟩) (c_tuple_at : PySem.W.codeIn K cd_tuple_at "tuple_at" = true) (k_tuple_at : PySem.W.keepIn K (.ref f_tuple_at) = true)
    (a_read_plain : PySem.W.nsIn K mainGlobals "read_plain" = some (some (.ref f_read_plain))) (l_read_plain : K.lookup f_read_plain = some ⟨oc_read_plain, od_read_plain, .func (PySem.W.fnOf "read_plain" "read_plain" (defArgs (top 8)) (defBody (top 8)) (defScope (top 8)) .none kV_read_plain dc_read_plain pm_read_plain an_read_plain cd_read_plain ct_read_plain), sl_read_plain⟩) (c_read_plain : PySem.W.codeIn K cd_read_plain "read_plain" = true) (k_read_plain : PySem.W.keepIn K (.ref f_read_plain) = true)
    (a__law_told : PySem.W.nsIn K mainGlobals "_law_told" = some (some (.ref f__law_told))) (l__law_told : K.lookup f__law_told = some ⟨oc__law_told, od__law_told, .func (PySem.W.fnOf "_law_told" "_law_told" (defArgs (top 23)) (defBody (top 23)) (defScope (top 23)) .none kV__law_told dc__law_told pm__law_told an__law_told cd__law_told ct__law_told), sl__law_told⟩) (c__law_told : PySem.W.codeIn K cd__law_told "_law_told" = true) (k__law_told : PySem.W.keepIn K (.ref f__law_told) = true)
    (a_law : PySem.W.nsIn K mainGlobals "law" = some (some (.ref f_law))) (l_law : K.lookup f_law = some ⟨oc_law, od_law, .func (PySem.W.fnOf "law" "law" (defArgs (top 25)) (defBody (top 25)) (defScope (top 25)) .none kV_law dc_law pm_law an_law cd_law ct_law), sl_law⟩) (c_law : PySem.W.codeIn K cd_law "law" = true) (k_law : PySem.W.keepIn K (.ref f_law) = true)
    (z_ValueError : PySem.W.nsIn K mainGlobals "ValueError" = some none)
    (z_bool : PySem.W.nsIn K mainGlobals "bool" = some none)
    (z_int : PySem.W.nsIn K mainGlobals "int" = some none)
    (z_isinstance : PySem.W.nsIn K mainGlobals "isinstance" = some none)
    (z_len : PySem.W.nsIn K mainGlobals "len" = some none)
    (z_ord : PySem.W.nsIn K mainGlobals "ord" = some none)
    (z_range : PySem.W.nsIn K mainGlobals "range" = some none)
    (z_str : PySem.W.nsIn K mainGlobals "str" = some none)
    (z_tuple : PySem.W.nsIn K mainGlobals "tuple" = some none)
    (x_FIGURES : PySem.W.nsIn K mainGlobals "FIGURES" = some (some (.str "0123456789" tk_FIGURES)))
    (x_MOST_BRACKETS : PySem.W.nsIn K mainGlobals "MOST_BRACKETS" = some (some (.int 40 tk_MOST_BRACKETS)))
    (x_MOST_FIGURES : PySem.W.nsIn K mainGlobals "MOST_FIGURES" = some (some (.int 2000 tk_MOST_FIGURES)))
    (z_idl : PySem.W.nsIn K cStatics "sys.int_max_str_digits" = some none)
    (a_BadPlain : PySem.W.nsIn K mainGlobals "BadPlain" = some (some (.ref C_BadPlain)))
    (ty_BadPlain : PySem.W.typeIn K (.ref C_BadPlain) = some (.type "type"))
    (cl_BadPlain : PySem.W.clsIn K C_BadPlain = some cdx_BadPlain)
    (a_BadText : PySem.W.nsIn K mainGlobals "BadText" = some (some (.ref C_BadText)))
    (ty_BadText : PySem.W.typeIn K (.ref C_BadText) = some (.type "type"))
    (cl_BadText : PySem.W.clsIn K C_BadText = some cdx_BadText)
    (a_TileError : PySem.W.nsIn K mainGlobals "TileError" = some (some (.ref C_TileError)))
    (ty_TileError : PySem.W.typeIn K (.ref C_TileError) = some (.type "type"))
    (cl_TileError : PySem.W.clsIn K C_TileError = some cdx_TileError)
    (ex_BadPlain : PySem.W.subIn K (.ref C_BadPlain) (.type "BaseException") = some true)
    (no_BadPlain_place : PySem.W.findIn K (.ref C_BadPlain) "place" = some none)
    (lk_BadPlain : K.lookup C_BadPlain = some (excClassObj nm_BadPlain qx_BadPlain C_BadPlain N_BadPlain bs_BadPlain bm_BadPlain true sn_BadPlain sub_BadPlain ab_BadPlain col_BadPlain dd_BadPlain k0_BadPlain k1_BadPlain k2_BadPlain k3_BadPlain k5_BadPlain "ValueError.__new__"))
    (rv_BadPlain : PySem.HandSPX.refsVE bm_BadPlain = true)
    (sa_BadPlain : PySem.W.findIn K (.ref C_BadPlain) "__setattr__" = some (some (.builtin "object.__setattr__")))
    (kp_BadPlain : PySem.W.keepIn K (.ref C_BadPlain) = true)
    (in_BadPlain : PySem.W.findIn K (.ref C_BadPlain) "__init__" = some (some (.ref f_BadPlain)))
    (ti_BadPlain : PySem.W.typeIn K (.ref f_BadPlain) = some (.type "function"))
    (li_BadPlain : K.lookup f_BadPlain = some ⟨oci_BadPlain, odi_BadPlain, .func (PySem.W.ksFn nmi_BadPlain qui_BadPlain (defArgs ini_BadPlain) (defBody ini_BadPlain) (defScope ini_BadPlain) .none kVi_BadPlain doi_BadPlain pmi_BadPlain ani_BadPlain (.ref cda_BadPlain) cti_BadPlain cc_BadPlain), osl_BadPlain⟩)
    (ci_BadPlain : PySem.W.codeIn K (.ref cda_BadPlain) qui_BadPlain = true)
    (ce_BadPlain : K.lookup cc_BadPlain = some ⟨cl0_BadPlain, cld_BadPlain, .cell (some (.ref C_BadPlain)), csl_BadPlain⟩)
    (mr_BadPlain : PySem.W.mroIn K C_BadPlain (.ref C_BadPlain) = some true)
    (up_BadPlain : PySem.W.ks_superIn K C_BadPlain C_BadPlain "__init__" = some (some (.builtin "ValueError.__init__")))
    (sv_BadPlain : PySem.W.subIn K (.ref C_BadPlain) (.type "ValueError") = some true)
    (kd_BadPlain : K.lookup cda_BadPlain = some ⟨ccl_BadPlain, cdd_BadPlain, .fields vs_BadPlain, ccs_BadPlain⟩)
    (v2_BadPlain : vs_BadPlain[2]? = some (.str fil_BadPlain tf_BadPlain))
    (fi_BadPlain : ((l.prog.main.file : Str) == fil_BadPlain) = true)
    (z_3p : PySem.W.nsIn K cStatics "thirdparty.any" = some none)
    (z_super : PySem.W.nsIn K mainGlobals "super" = some none)
    (ts_super : (l.prog.main.scope.names.lookup ("super" : Str)).isSome = false)
    (ga_BadPlain : PySem.W.findIn K (.ref C_BadPlain) "__getattribute__" = some (some (.builtin "BaseException.__getattribute__")))
    (gg_BadPlain : PySem.W.findIn K (.ref C_BadPlain) "__getattr__" = some none)
    (hd_BadPlain : PySem.W.hasDictIn K C_BadPlain = true)
    (hc_BadPlain : PySem.W.findIn K (.ref C_BadPlain) "__class__" = some (some (.builtin "object.__class__")))
    (mo_BadPlain : PySem.W.mroIn K C_BadPlain (.type "object") = some true)
    (ss_BadPlain : PySem.W.subIn K (.ref C_BadPlain) (.ref C_BadPlain) = some true)
    (hn_cls : PySem.W.specialIn K (.builtin "object.__class__") "__get__" = some (some (.builtin "getset_descriptor.__get__")))
    (ht_cls : PySem.W.takesIn K (.builtin "object.__class__") = some true)
    (ne_BadPlain_BadText : (Value.ref C_BadPlain == Value.ref C_BadText) = false)
    (su_BadPlain_BadText : PySem.W.subIn K (.ref C_BadPlain) (.ref C_BadText) = some false)
    (ne_BadPlain_TileError : (Value.ref C_BadPlain == Value.ref C_TileError) = false)
    (su_BadPlain_TileError : PySem.W.subIn K (.ref C_BadPlain) (.ref C_TileError) = some true)
    (su_BadPlain_ValueError : PySem.W.subIn K (.ref C_BadPlain) (.type "ValueError") = some true)
    : ∃ fd : FuncData, (∀ (s : Shared) (v : Value), BindsTo s fd ⟨[v], []⟩ [("script", v)]) ∧ ∀ base : Heap, K.In base → base.Ns mainGlobals mgf → FnOk l.prog w K mgf base (L2.CX l.prog w) 134 fa fd ["script"] (spF K mgf none 1 F_law) := by
  have e := hfa.symm.trans (PySem.W.mg_of X Gn a_law)
  cases e
  have mg : Mg K mgf := ⟨z_idl, PySem.W.mg_none_of X Gn z_ValueError, PySem.W.mg_none_of X Gn z_bool, PySem.W.mg_none_of X Gn z_int, PySem.W.mg_none_of X Gn z_isinstance, PySem.W.mg_none_of X Gn z_len, PySem.W.mg_none_of X Gn z_ord, PySem.W.mg_none_of X Gn z_range, PySem.W.mg_none_of X Gn z_str, PySem.W.mg_none_of X Gn z_tuple, ⟨.str "0123456789", _, PySem.W.mg_of X Gn x_FIGURES, ⟨_, rfl⟩, fun _ _ => rfl⟩, ⟨.int 40, _, PySem.W.mg_of X Gn x_MOST_BRACKETS, ⟨_, rfl⟩, fun _ _ => rfl⟩, ⟨.int 2000, _, PySem.W.mg_of X Gn x_MOST_FIGURES, ⟨_, rfl⟩, fun _ _ => rfl⟩⟩
  have U__law_cell := fun_mk (st := top 14) l__law_cell c__law_cell k__law_cell
  have U__law_digits := fun_mk (st := top 15) l__law_digits c__law_digits k__law_digits
  have U__law_plain := fun_mk (st := top 18) l__law_plain c__law_plain k__law_plain
  have U__law_text_at := fun_mk (st := top 19) l__law_text_at c__law_text_at k__law_text_at
  have U__law_digits_at := fun_mk (st := top 20) l__law_digits_at c__law_digits_at k__law_digits_at
  have U__law_value_at := fun_mk (st := top 21) l__law_value_at c__law_value_at k__law_value_at
  have U__law_read := fun_mk (st := top 22) l__law_read c__law_read k__law_read
  have U__law_draw := fun_mk (st := top 16) l__law_draw c__law_draw k__law_draw
  have U__law_value := fun_mk (st := top 24) l__law_value c__law_value k__law_value
  have U__law_same := fun_mk (st := top 17) l__law_same c__law_same k__law_same
  have U_integer_at := fun_mk (st := top 10) l_integer_at c_integer_at k_integer_at
  have U_text_at := fun_mk (st := top 11) l_text_at c_text_at k_text_at
  have U_value_at := fun_mk (st := top 9) l_value_at c_value_at k_value_at
  have U_tuple_at := fun_mk (st := top 12) l_tuple_at c_tuple_at k_tuple_at
  have U_read_plain := fun_mk (st := top 8) l_read_plain c_read_plain k_read_plain
  have U__law_told := fun_mk (st := top 23) l__law_told c__law_told k__law_told
  have U_law := fun_mk (st := top 25) l_law c_law k_law
  refine ⟨PySem.W.fnOf "law" "law" (defArgs (top 25)) (defBody (top 25)) (defScope (top 25)) .none kV_law dc_law pm_law an_law cd_law ct_law, fun s v => .of_eq rfl, fun base _ _ => ?_⟩
  have H1 : FnOk l.prog w K mgf base (L2.CX l.prog w) 134 fa (PySem.W.fnOf "law" "law" (defArgs (top 25)) (defBody (top 25)) (defScope (top 25)) .none kV_law dc_law pm_law an_law cd_law ct_law) ["script"] (spF K mgf none 1 F_law) := by
    have m_BadPlain := PySem.W.mg_of X Gn a_BadPlain
    have m_BadText := PySem.W.mg_of X Gn a_BadText
    have m_TileError := PySem.W.mg_of X Gn a_TileError
    have ox_BadPlain : OexC K C_BadPlain := ⟨⟨_, _, _, _, _, _, _, _, _, _, _, _, _, _, _, lk_BadPlain, rv_BadPlain⟩, sa_BadPlain, ex_BadPlain, ty_BadPlain, kp_BadPlain⟩
    have sp_BadPlain : SupC l.prog K mgf C_BadPlain f_BadPlain cc_BadPlain cda_BadPlain := ⟨ox_BadPlain, ⟨_, cl_BadPlain⟩, mr_BadPlain, ⟨_, _, _, ce_BadPlain⟩, up_BadPlain, sv_BadPlain, z_3p, PySem.W.mg_none_of X Gn z_super, ⟨_, _, _, _, _, _, kd_BadPlain, v2_BadPlain, fi_BadPlain⟩, ts_super⟩
    have x_BadPlain : XCl l.prog w K mgf base "BadPlain" ["place"] 1 := ⟨C_BadPlain, f_BadPlain, _, _, ox_BadPlain, in_BadPlain, ti_BadPlain, initF (k := 0) sp_BadPlain no_BadPlain_place li_BadPlain ci_BadPlain (NdefX.nscope_by (by decide +kernel)) (by decide +kernel) rfl rfl (pl := _) (fun _ => rfl) (fun _ => rfl) (fun _ => rfl) (by decide) (by decide), Binds.all fun us hl => match us, hl with | [_, _], _ => rfl, m_BadPlain⟩
    have tx_BadPlain : TryF K mgf "BadPlain" C_BadPlain := ⟨m_BadPlain, PySem.W.exm_ref ex_BadPlain hd_BadPlain ty_BadPlain ss_BadPlain, ⟨by rw [cl_BadPlain]; rfl, ⟨ga_BadPlain, gg_BadPlain, ex_BadPlain, hd_BadPlain⟩, hc_BadPlain, hn_cls, ht_cls, mo_BadPlain⟩⟩
    have ki_BadPlain_BadText : PySem.W.kitOne K (.ref C_BadPlain) (.ref C_BadText) = some false := kit_ref ne_BadPlain_BadText (by rw [cl_BadText]; rfl) ty_BadText su_BadPlain_BadText
    have ki_BadPlain_TileError : PySem.W.kitOne K (.ref C_BadPlain) (.ref C_TileError) = some true := kit_ref ne_BadPlain_TileError (by rw [cl_TileError]; rfl) ty_TileError su_BadPlain_TileError
    have ki_BadPlain_ValueError : PySem.W.kitOne K (.ref C_BadPlain) (.type "ValueError") = some true := kit_type (by decide +kernel) su_BadPlain_ValueError
    have d__law_cell := ok__law_cell (P := l.prog) (w := w) (base := base) mg U__law_cell (PySem.W.mg_of X Gn a__law_cell) 
    have d__law_digits := ok__law_digits (P := l.prog) (w := w) (base := base) mg U__law_digits (PySem.W.mg_of X Gn a__law_digits)  d__law_cell
    have d__law_plain : FnD l.prog w K mgf base "_law_plain" 66 none 1 (F__law_plain 64) := FnD.mono (by decide) <| ok__law_plain (P := l.prog) (w := w) (base := base) mg U__law_plain (PySem.W.mg_of X Gn a__law_plain)  64
    have d__law_text_at := ok__law_text_at (P := l.prog) (w := w) (base := base) mg U__law_text_at (PySem.W.mg_of X Gn a__law_text_at) 
    have d__law_digits_at := ok__law_digits_at (P := l.prog) (w := w) (base := base) mg U__law_digits_at (PySem.W.mg_of X Gn a__law_digits_at) 
    have d__law_value_at : FnD l.prog w K mgf base "_law_value_at" 67 none 3 (F__law_value_at 64) := FnD.mono (by decide) <| ok__law_value_at (P := l.prog) (w := w) (base := base) mg U__law_value_at (PySem.W.mg_of X Gn a__law_value_at)  d__law_text_at d__law_digits_at 64
    have d__law_read := ok__law_read (P := l.prog) (w := w) (base := base) mg U__law_read (PySem.W.mg_of X Gn a__law_read)  d__law_value_at
    have d__law_draw := ok__law_draw (P := l.prog) (w := w) (base := base) mg U__law_draw (PySem.W.mg_of X Gn a__law_draw) 
    have d__law_value : FnD l.prog w K mgf base "_law_value" 67 (some 0) 2 (F__law_value 64) := FnD.mono (by decide) <| ok__law_value (P := l.prog) (w := w) (base := base) mg U__law_value (PySem.W.mg_of X Gn a__law_value)  d__law_draw 64
    have d__law_same : FnD l.prog w K mgf base "_law_same" 66 none 2 (F__law_same 64) := FnD.mono (by decide) <| ok__law_same (P := l.prog) (w := w) (base := base) mg U__law_same (PySem.W.mg_of X Gn a__law_same)  64
    have d_integer_at := ok_integer_at (P := l.prog) (w := w) (base := base) mg U_integer_at (PySem.W.mg_of X Gn a_integer_at) x_BadPlain 
    have d_text_at := ok_text_at (P := l.prog) (w := w) (base := base) mg U_text_at (PySem.W.mg_of X Gn a_text_at) x_BadPlain 
    have D_value_at := ok_grp_value_at (P := l.prog) (w := w) (base := base) mg U_value_at (PySem.W.mg_of X Gn a_value_at) U_tuple_at (PySem.W.mg_of X Gn a_tuple_at) x_BadPlain d_integer_at d_text_at 128
    obtain ⟨e_value_at, e_tuple_at⟩ := D_value_at
    have d_value_at : FnD l.prog w K mgf base "value_at" 131 none 3 (F_value_at 128) := FnD.mono (by decide) e_value_at
    have d_tuple_at : FnD l.prog w K mgf base "tuple_at" 131 none 3 (F_tuple_at 128) := FnD.mono (by decide) e_tuple_at
    have d_read_plain := ok_read_plain (P := l.prog) (w := w) (base := base) mg U_read_plain (PySem.W.mg_of X Gn a_read_plain) x_BadPlain  d_value_at
    have d__law_told := ok__law_told (P := l.prog) (w := w) (base := base) mg U__law_told (PySem.W.mg_of X Gn a__law_told) tx_BadPlain m_TileError ki_BadPlain_TileError ki_BadPlain_ValueError m_BadText ki_BadPlain_BadText no_BadPlain_place  d_read_plain
    exact ok_law (P := l.prog) (w := w) (base := base) mg U_law  d__law_digits d__law_plain d__law_read d__law_value d__law_draw d__law_same d__law_told
  exact H1
end K22

namespace K22
open PySem PySem.Spec L2 Lay Com TL T21 T22
local macro_rules | `(tactic| walk_at "WP") => `(tactic| (repeat (first | with_reducible refine ws_seq ?_ | with_reducible refine ws_asg ?_ | with_reducible refine ws_if ?_ | with_reducible refine ws_ret ?_ | with_reducible refine ws_expr ?_ | with_reducible refine ws_par ?_ | with_reducible refine ws_nx ?_ | with_reducible refine ws_raise ?_ | with_reducible refine o_TT ?_ | with_reducible refine ws_bk ?_ | with_reducible refine ws_ct ?_ | with_reducible refine ws_retN ?_ | with_reducible refine ws_st_nil ?_ | with_reducible refine ws_st_cons ?_ | with_reducible refine w_D ?_ | with_reducible refine w_x2 ?_ | with_reducible refine w_x1 ?_ | with_reducible refine w_notV ?_ | with_reducible refine w_Nil ?_ | with_reducible refine w_Cons ?_ | with_reducible refine w_N ?_ | with_reducible refine w_M ?_ | with_reducible refine w_Ty ?_ | with_reducible refine w_Tup ?_ | with_reducible refine w_LstF ?_ | with_reducible refine w_Fz ?_ | with_reducible refine w_T ?_ | with_reducible refine w_Tru ?_ | with_reducible refine w_And ?_ | with_reducible refine w_Or ?_ | with_reducible refine w_Not ?_ | with_reducible refine w_If ?_ | with_reducible refine w_OrV ?_ | with_reducible refine w_AndV ?_ | with_reducible refine w_Js_nil ?_ | with_reducible refine w_Js_cons ?_ | with_reducible refine w_Call ?_ | with_reducible refine w_Mut ?_ | with_reducible refine w_Yes ?_ | with_reducible refine w_gIx ?_ | with_reducible refine w_gS_nil ?_ | with_reducible refine w_gS_cons ?_ | with_reducible refine w_Sq ?_ | with_reducible refine w_Rg1 ?_ | with_reducible refine w_Rg2 ?_ | with_reducible refine w_NoPart ?_ | with_reducible refine w_Part ?_ | with_reducible refine w_Sl ?_ | with_reducible refine ws_aug ?_ | with_reducible refine o_addI ?_ | with_reducible refine o_find2 ?_ | with_reducible refine o_find3 ?_ | with_reducible refine o_add ?_ | with_reducible refine o_sub ?_ | with_reducible refine o_lt ?_ | with_reducible refine o_le ?_ | with_reducible refine o_gt ?_ | with_reducible refine o_ge ?_ | with_reducible refine o_eqI ?_ | with_reducible refine o_neI ?_ | with_reducible refine o_int ?_ | with_reducible refine o_intB ?_ | with_reducible refine o_gcd ?_ | with_reducible refine o_lenT ?_ | with_reducible refine o_lenL ?_ | with_reducible refine o_lenK ?_ | with_reducible refine o_lenO ?_ | with_reducible refine o_isN ?_ | with_reducible refine o_isB ?_ | with_reducible refine o_isnN ?_ | with_reducible refine o_isnB ?_ | with_reducible refine o_neg ?_ | with_reducible refine o_eqS ?_ | with_reducible refine o_neS ?_ | refine w_var rfl ?_ | refine w_gLs rfl ?_ | refine w_gS_cons ?_ | refine w_gS_nil ?_ | refine ws_st_cons ?_ | refine ws_st_nil ?_ | refine w_Js_cons ?_ | refine w_Js_nil ?_ | refine w_gNm rfl ?_ | refine w_gJ rfl (by assumption) ?_ | refine w_gTu rfl ?_ | refine o_isi (by decide) ?_ | refine o_mul (by first | exact cMul_r (by omega) (by omega) | exact cMul_l (by omega) (by omega)) ?_ | refine o_mul (by assumption) ?_ | refine o_mod (by omega) ?_ | refine o_fdivS (by omega) (by omega) ?_ | refine o_absN ?_ | refine ⟨⟨by omega, by omega⟩, ?_⟩ | refine ⟨⟨⟨by omega, by omega⟩, by omega, by omega⟩, ?_⟩ | refine ⟨@rfl _ _, ?_⟩ | refine ⟨⟨@rfl _ _, @rfl _ _⟩, ?_⟩ | refine ⟨_, rfl, ?_⟩ | refine ⟨⟨Nat.le_of_ble_eq_true rfl, fun _ h => nomatch h⟩, ?_⟩ | refine ⟨Nat.le_of_ble_eq_true rfl, ?_⟩ | refine br_true ?_ | refine br_false ?_ | refine w_back rfl ?_ | refine wo rfl ?_)))
local macro_rules | `(tactic| walk_at "WQ") => `(tactic| (repeat (first | with_reducible refine ws_seq ?_ | with_reducible refine ws_asg ?_ | with_reducible refine ws_ret ?_ | with_reducible refine ws_expr ?_ | with_reducible refine ws_par ?_ | with_reducible refine ws_nx ?_ | with_reducible refine ws_raise ?_ | with_reducible refine o_TT ?_ | with_reducible refine ws_bk ?_ | with_reducible refine ws_ct ?_ | with_reducible refine ws_retN ?_ | with_reducible refine ws_st_nil ?_ | with_reducible refine ws_st_cons ?_ | with_reducible refine w_D ?_ | with_reducible refine w_x2 ?_ | with_reducible refine w_x1 ?_ | with_reducible refine w_notV ?_ | with_reducible refine w_Nil ?_ | with_reducible refine w_Cons ?_ | with_reducible refine w_N ?_ | with_reducible refine w_M ?_ | with_reducible refine w_Ty ?_ | with_reducible refine w_Tup ?_ | with_reducible refine w_LstF ?_ | with_reducible refine w_Fz ?_ | with_reducible refine w_T ?_ | with_reducible refine w_Tru ?_ | with_reducible refine w_And ?_ | with_reducible refine w_Or ?_ | with_reducible refine w_Not ?_ | with_reducible refine w_If ?_ | with_reducible refine w_OrV ?_ | with_reducible refine w_AndV ?_ | with_reducible refine w_Js_nil ?_ | with_reducible refine w_Js_cons ?_ | with_reducible refine w_Call ?_ | with_reducible refine w_Mut ?_ | with_reducible refine w_Yes ?_ | with_reducible refine w_gIx ?_ | with_reducible refine w_gS_nil ?_ | with_reducible refine w_gS_cons ?_ | with_reducible refine w_Sq ?_ | with_reducible refine w_Rg1 ?_ | with_reducible refine w_Rg2 ?_ | with_reducible refine w_NoPart ?_ | with_reducible refine w_Part ?_ | with_reducible refine w_Sl ?_ | with_reducible refine ws_aug ?_ | with_reducible refine o_addI ?_ | with_reducible refine o_find2 ?_ | with_reducible refine o_find3 ?_ | with_reducible refine o_add ?_ | with_reducible refine o_sub ?_ | with_reducible refine o_lt ?_ | with_reducible refine o_le ?_ | with_reducible refine o_gt ?_ | with_reducible refine o_ge ?_ | with_reducible refine o_eqI ?_ | with_reducible refine o_neI ?_ | with_reducible refine o_int ?_ | with_reducible refine o_intB ?_ | with_reducible refine o_gcd ?_ | with_reducible refine o_lenT ?_ | with_reducible refine o_lenL ?_ | with_reducible refine o_lenK ?_ | with_reducible refine o_lenO ?_ | with_reducible refine o_isN ?_ | with_reducible refine o_isB ?_ | with_reducible refine o_isnN ?_ | with_reducible refine o_isnB ?_ | with_reducible refine o_neg ?_ | with_reducible refine o_eqS ?_ | with_reducible refine o_neS ?_ | refine w_var rfl ?_ | refine w_gLs rfl ?_ | refine w_gS_cons ?_ | refine w_gS_nil ?_ | refine ws_st_cons ?_ | refine ws_st_nil ?_ | refine w_Js_cons ?_ | refine w_Js_nil ?_ | refine w_gNm rfl ?_ | refine w_gJ rfl (by assumption) ?_ | refine w_gTu rfl ?_ | refine o_isi (by decide) ?_ | refine o_mul (by first | exact cMul_r (by omega) (by omega) | exact cMul_l (by omega) (by omega)) ?_ | refine o_mul (by assumption) ?_ | refine o_mod (by omega) ?_ | refine o_fdivS (by omega) (by omega) ?_ | refine o_absN ?_ | refine ⟨⟨by omega, by omega⟩, ?_⟩ | refine ⟨⟨⟨by omega, by omega⟩, by omega, by omega⟩, ?_⟩ | refine ⟨@rfl _ _, ?_⟩ | refine ⟨⟨@rfl _ _, @rfl _ _⟩, ?_⟩ | refine ⟨_, rfl, ?_⟩ | refine ⟨⟨Nat.le_of_ble_eq_true rfl, fun _ h => nomatch h⟩, ?_⟩ | refine ⟨Nat.le_of_ble_eq_true rfl, ?_⟩ | refine br_true ?_ | refine br_false ?_ | refine w_back rfl ?_ | refine wo rfl ?_)))
local macro_rules | `(tactic| walk_at "WI") => `(tactic| (repeat (first | with_reducible refine ws_seq ?_ | with_reducible refine ws_asg ?_ | with_reducible refine ws_if ?_ | with_reducible refine ws_ret ?_ | with_reducible refine ws_expr ?_ | with_reducible refine ws_par ?_ | with_reducible refine ws_nx ?_ | with_reducible refine ws_raise ?_ | with_reducible refine o_TT ?_ | with_reducible refine ws_bk ?_ | with_reducible refine ws_ct ?_ | with_reducible refine ws_retN ?_ | with_reducible refine ws_st_nil ?_ | with_reducible refine ws_st_cons ?_ | with_reducible refine w_D ?_ | with_reducible refine w_x2 ?_ | with_reducible refine w_x1 ?_ | with_reducible refine w_notV ?_ | with_reducible refine w_Nil ?_ | with_reducible refine w_Cons ?_ | with_reducible refine w_N ?_ | with_reducible refine w_M ?_ | with_reducible refine w_Ty ?_ | with_reducible refine w_Tup ?_ | with_reducible refine w_LstF ?_ | with_reducible refine w_Fz ?_ | with_reducible refine w_T ?_ | with_reducible refine w_Tru ?_ | with_reducible refine w_And ?_ | with_reducible refine w_Or ?_ | with_reducible refine w_Not ?_ | with_reducible refine w_OrV ?_ | with_reducible refine w_AndV ?_ | with_reducible refine w_Js_nil ?_ | with_reducible refine w_Js_cons ?_ | with_reducible refine w_Call ?_ | with_reducible refine w_Mut ?_ | with_reducible refine w_Yes ?_ | with_reducible refine w_gIx ?_ | with_reducible refine w_gS_nil ?_ | with_reducible refine w_gS_cons ?_ | with_reducible refine w_Sq ?_ | with_reducible refine w_Rg1 ?_ | with_reducible refine w_Rg2 ?_ | with_reducible refine w_NoPart ?_ | with_reducible refine w_Part ?_ | with_reducible refine w_Sl ?_ | with_reducible refine ws_aug ?_ | with_reducible refine o_addI ?_ | with_reducible refine o_find2 ?_ | with_reducible refine o_find3 ?_ | with_reducible refine o_add ?_ | with_reducible refine o_sub ?_ | with_reducible refine o_lt ?_ | with_reducible refine o_le ?_ | with_reducible refine o_gt ?_ | with_reducible refine o_ge ?_ | with_reducible refine o_eqI ?_ | with_reducible refine o_neI ?_ | with_reducible refine o_int ?_ | with_reducible refine o_intB ?_ | with_reducible refine o_gcd ?_ | with_reducible refine o_lenT ?_ | with_reducible refine o_lenL ?_ | with_reducible refine o_lenK ?_ | with_reducible refine o_lenO ?_ | with_reducible refine o_isN ?_ | with_reducible refine o_isB ?_ | with_reducible refine o_isnN ?_ | with_reducible refine o_isnB ?_ | with_reducible refine o_neg ?_ | with_reducible refine o_eqS ?_ | with_reducible refine o_neS ?_ | refine w_var rfl ?_ | refine w_gLs rfl ?_ | refine w_gS_cons ?_ | refine w_gS_nil ?_ | refine ws_st_cons ?_ | refine ws_st_nil ?_ | refine w_Js_cons ?_ | refine w_Js_nil ?_ | refine w_gNm rfl ?_ | refine w_gJ rfl (by assumption) ?_ | refine w_gTu rfl ?_ | refine o_isi (by decide) ?_ | refine o_mul (by first | exact cMul_r (by omega) (by omega) | exact cMul_l (by omega) (by omega)) ?_ | refine o_mul (by assumption) ?_ | refine o_mod (by omega) ?_ | refine o_fdivS (by omega) (by omega) ?_ | refine o_absN ?_ | refine ⟨⟨by omega, by omega⟩, ?_⟩ | refine ⟨⟨⟨by omega, by omega⟩, by omega, by omega⟩, ?_⟩ | refine ⟨@rfl _ _, ?_⟩ | refine ⟨⟨@rfl _ _, @rfl _ _⟩, ?_⟩ | refine ⟨_, rfl, ?_⟩ | refine ⟨⟨Nat.le_of_ble_eq_true rfl, fun _ h => nomatch h⟩, ?_⟩ | refine ⟨Nat.le_of_ble_eq_true rfl, ?_⟩ | refine br_true ?_ | refine br_false ?_ | refine w_back rfl ?_ | refine wo rfl ?_)))
local macro_rules | `(tactic| walk_at "NE") => `(tactic| (dsimp only [List.set_cons_succ, List.set_cons_zero, frz]))
local macro_rules | `(tactic| walk_at "FIN") => `(tactic| (first | rfl | exact ⟨rfl, rfl⟩ | exact trivial | exact ⟨trivial, rfl⟩ | exact ⟨trivial, trivial⟩ | exact ⟨rfl, trivial⟩))
/-- what the program's readers answer -/
def bp (q : Nat) : Exn := ⟨"BadPlain", [("place", .int (q : Int))]⟩
def QX (R : PR) (r out : OT) : Prop := ∃ d p S, R = .ok d p S ∧ r = .fz (.tup [d, .int (p : Int)]) ∧ out = .fz .non
def EX (R : PR) (x : Exn) (out : OT) : Prop := ∃ q, R = .bad q ∧ x = bp q ∧ out = .fz .non
theorem scal_pos {q : Nat} (h : q ≤ 1000000) : Lay.scal (.int (q : Int)) = true := by
  unfold Lay.scal
  refine decide_eq_true ?_
  have : ((q : Int)).natAbs = q := Int.natAbs_natCast q
  rw [this]
  exact Nat.lt_of_lt_of_le (PySem.Flt.log2_lt_of (n := q) (k := 20) (by decide) (by omega)) (by decide)
theorem s92 : Str.ofString "\\" = ⟨#[92]⟩ := by decide +kernel
theorem s34 : Str.ofString "\"" = ⟨#[34]⟩ := by decide +kernel
theorem s10 : Str.ofString "\n" = ⟨#[10]⟩ := by decide +kernel
theorem joinL_nil : ∀ ps : List (List Nat), joinL [] ps = ps.flatten
  | [] => rfl
  | [p] => by simp [joinL]
  | p :: q :: r => by
    have ih := joinL_nil (q :: r)
    show p ++ ([] ++ joinL [] (q :: r)) = _
    rw [ih]
    simp
theorem join_flat (ys : List Str) : tl (Txt.join (Str.ofString "") ys) = (ys.map tl).flatten := by
  rw [join_eq, tl_join, show tl (Str.ofString "") = [] by decide +kernel, joinL_nil]
theorem flat_len (ys : List Str) : (ys.map (·.length)).sum = ((ys.map tl).flatten).length := by
  induction ys with
  | nil => rfl
  | cons y r ih => rw [List.map_cons, List.sum_cons, ih, List.map_cons, List.flatten_cons, List.length_append, len_tl]
def StrL (ys : List Str) : OT := .lst ((ys.map Dat.str).map .fz)
theorem strl_app (ys : List Str) (s : Str) : OT.lst ((ys.map Dat.str).map .fz ++ [.fz (.str s)]) = StrL (ys ++ [s]) := by simp [StrL]
def pln (k : Nat) : Prop := k ≠ 92 ∧ k ≠ 34
theorem part_of : ∀ l : List Nat, (∀ k ∈ l, pln k) ∨ ∃ p c q, l = p ++ c :: q ∧ (∀ k ∈ p, pln k) ∧ (c = 92 ∨ c = 34)
  | [] => .inl fun k h => nomatch h
  | a :: l => by
    by_cases h : a = 92 ∨ a = 34
    · exact .inr ⟨[], a, l, rfl, (fun k h => nomatch h), h⟩
    · have ha : pln a := ⟨fun z => h (.inl z), fun z => h (.inr z)⟩
      rcases part_of l with g | ⟨p, c, q, rfl, g1, g2⟩
      · left
        intro k hk
        rcases List.mem_cons.mp hk with rfl | hk
        · exact ha
        · exact g k hk
      · right
        refine ⟨a :: p, c, q, rfl, ?_, g2⟩
        intro k hk
        rcases List.mem_cons.mp hk with rfl | hk
        · exact ha
        · exact g1 k hk
theorem first_of {c : Nat} : ∀ {l : List Nat}, c ∈ l → ∃ p q, l = p ++ c :: q ∧ c ∉ p
  | a :: l, h => by
    by_cases e : a = c
    · subst e
      exact ⟨[], l, rfl, List.not_mem_nil⟩
    · rcases List.mem_cons.mp h with z | z
      · exact absurd z.symm e
      · obtain ⟨p, q, rfl, g⟩ := first_of z
        exact ⟨a :: p, q, rfl, fun z => by rcases List.mem_cons.mp z with z | z; exact e z.symm; exact g z⟩
theorem textP_step {c : Nat} (h : pln c) (S : List Nat) (p : Nat) (a : List Nat) : textP (c :: S) p a = textP S (p + 1) (a ++ [c]) := by
  cases S with
  | nil =>
    show (if c = 34 then _ else _) = _
    rw [if_neg h.2]
    rfl
  | cons d S =>
    show (if c = 34 then _ else _) = _
    rw [if_neg h.2, if_neg h.1]
theorem textP_run : ∀ (P S : List Nat) (p : Nat) (a : List Nat), (∀ c ∈ P, pln c) → textP (P ++ S) p a = textP S (p + P.length) (a ++ P)
  | [], S, p, a, _ => by simp
  | c :: P, S, p, a, h => by
    rw [List.cons_append, textP_step (h c List.mem_cons_self), textP_run P S _ _ fun x hx => h x (List.mem_cons_of_mem _ hx)]
    rw [List.length_cons, show p + 1 + P.length = p + (P.length + 1) by omega]
    simp
theorem textP_quote (S : List Nat) (p : Nat) (a : List Nat) : textP (34 :: S) p a = .ok (.str ⟨a.toArray⟩) (p + 1) S := by
  cases S <;> rfl
theorem textP_esc (d : Nat) (S : List Nat) (p : Nat) (a : List Nat) : textP (92 :: d :: S) p a = if d = 92 ∨ d = 34 ∨ d = 110 then textP S (p + 2) (a ++ [un d]) else .bad (p + 1) := rfl
theorem textP_end (p : Nat) (a : List Nat) : textP [92] p a = .bad (p + 1) := rfl
def TI (t : Str) (R : PR) (N n : Nat) (ρ : Lay.Env) : Prop := ∃ (p : Nat) (S : List Nat) (ys : List Str) (s3 s4 s5 s6 s7 : Sl), At t p S ∧ textP S p ((ys.map tl).flatten) = R ∧ S.length = n ∧ ((ys.map tl).flatten).length + n ≤ N ∧ ys.length + 2 * n ≤ 2 * N ∧ Jk s3 ∧ Jk s4 ∧ Jk s5 ∧ Jk s6 ∧ Jk s7 ∧
  ρ = [.vl (.fz (.str t)), .vl (.fz (.int (p : Int))), .vl (StrL ys), s3, s4, s5, s6, s7]
theorem flat_snoc (ys : List Str) (s : Str) : ((ys ++ [s]).map tl).flatten = (ys.map tl).flatten ++ tl s := by simp
theorem in3 : ∀ d < 128, inO (.fz (.str ⟨#[d]⟩)) (.fz (.tup [.str "\"", .str "\\", .str "n"])) = some (decide (d = 92 ∨ d = 34 ∨ d = 110)) := by decide +kernel
theorem inF : ∀ d < 128, inO (.fz (.str ⟨#[d]⟩)) (.fz (.str "0123456789")) = some (fig d) := by decide +kernel
theorem s110 : Str.ofString "n" = ⟨#[110]⟩ := by decide +kernel
theorem eq_one {d k : Nat} {s : String} (hs : Str.ofString s = ⟨#[k]⟩) : ((⟨#[d]⟩ : Str) = Str.ofString s) ↔ d = k := by
  rw [hs]
  constructor
  · intro h
    have := congrArg tl h
    simpa [tl] using this
  · rintro rfl; rfl
theorem ne_empty {d : Nat} : ¬ ((⟨#[d]⟩ : Str) = Str.ofString "") := by
  intro h
  have := congrArg tl h
  have e : tl (Str.ofString "") = [] := by decide +kernel
  rw [e] at this
  cases this
theorem nil_empty : (⟨([] : List Nat).toArray⟩ : Str) = Str.ofString "" := by decide +kernel
/-- the texts of this law: signs, and how many -/
structure OkT (t : Str) : Prop where
  sg : ∀ c ∈ tl t, 32 ≤ c ∧ c ≤ 126 ∧ c ≠ 37
  len : t.length ≤ 5000
theorem At.mem {t : Str} {p : Nat} {S : List Nat} (h : At t p S) : ∀ c ∈ S, c ∈ tl t := by
  obtain ⟨A, e, _⟩ := h
  intro c hc
  rw [e]
  exact List.mem_append_right _ hc
theorem At.cut2 {t : Str} {p : Nat} {c : Nat} {S : List Nat} (h : At t p (c :: S)) : cutS t (some ((p : Int) + 1)) (some ((p : Int) + 2)) = ⟨(S.take 1).toArray⟩ := by
  have := h.next.cut
  rw [show ((p + 1 : Nat) : Int) = (p : Int) + 1 by omega] at this
  rw [← this]
  congr 2
theorem text_spec {t : Str} {p : Nat} {S : List Nat} (ok : OkT t) (h : At t p S) :
    Wf F_text_at [.fz (.str t), .fz (.int (p : Int))] (QX (textP S p [])) (EX (textP S p [])) := by
  have hl := ok.len
  have tn := h.len
  refine Wf.run ?_
  show Ws G_text_at [.vl _, .vl _, .un, .un, .un, .un, .un, .un] _
  unfold G_text_at
  walk_at "WP"
  walk_at "NE"
  refine ws_while (TI t (textP S p []) S.length) S.length (by omega) ⟨p, S, [], _, _, _, _, _, h, rfl, rfl, by simp, by simp, jk_un, jk_un, jk_un, jk_un, jk_un, rfl⟩ ?_
  rintro n ρ ⟨p', S', ys, s3, s4, s5, s6, s7, at', e, g1, g2, g3, j3, j4, j5, j6, j7, rfl⟩
  have tn' := at'.len
  have no10 : ∀ P ⊆ S', (10 : Nat) ∉ P := fun P hP z => by
    have := ok.sg 10 (At.mem at' 10 (hP z))
    omega
  walk_at "WP"
  rw [s34, find3_in]
  rcases part_of S' with hp | ⟨P, c, Q, rfl, hp, hc⟩
  · -- no quote, no slash
    obtain ⟨A, ea, rfl⟩ := id at'
    have q1 : Txt.findIn t ⟨#[34]⟩ (A.length : Int) (t.length : Int) = -1 := by
      rw [tn']
      exact find_miss (R := []) (by rw [ea]; simp) fun z => (hp 34 z).2 rfl
    have q2 : Txt.findIn t ⟨#[92]⟩ (A.length : Int) (t.length : Int) = -1 := by
      rw [tn']
      exact find_miss (R := []) (by rw [ea]; simp) fun z => (hp 92 z).1 rfl
    have q3 : Txt.findIn t ⟨#[10]⟩ (A.length : Int) (t.length : Int) = -1 := by
      rw [tn']
      exact find_miss (R := []) (by rw [ea]; simp) (no10 S' (fun _ h => h))
    have q4 : cutS t (some (A.length : Int)) (some (t.length : Int)) = ⟨S'.toArray⟩ := by
      rw [tn']
      exact At.seg (S := []) (by rw [List.append_nil]; exact at')
    rw [q1]
    refine br_dec (fun h => absurd h (by decide)) (fun _ => ?_)
    walk_at "WP"
    refine o_lenS (by show _ ≤ 16777216; omega) ?_
    walk_at "WP"
    walk_at "NE"
    rw [s92, q2]
    refine br_dec (fun h => absurd h (by decide)) (fun h => ?_)
    walk_at "WP"
    walk_at "NE"
    rw [s10, q3]
    refine br_dec (fun h => absurd h (by decide)) (fun h => ?_)
    walk_at "WP"
    refine o_slS (by show _ ≤ 16777216; omega) ?_
    rw [q4]
    walk_at "WP"
    refine o_app ?_ ?_
    · rw [List.length_map, List.length_map]; show ys.length < 16777216; omega
    walk_at "WP"
    walk_at "NE"
    refine o_exc1 (scal_pos (by omega)) ?_
    refine wo rfl ?_
    refine ⟨t.length, ?_, rfl, rfl⟩
    rw [← e, tn']
    have := textP_run S' [] A.length ((ys.map tl).flatten) hp
    rw [List.append_nil] at this
    rw [this]
    rfl
  · rcases hc with rfl | rfl
    · -- a slash first
      obtain ⟨A, ea, rfl⟩ := id at'
      have atS := At.app at'
      have lenQ := atS.len
      rw [List.length_append, List.length_cons] at tn'
      obtain ⟨e1, q1, he1⟩ : ∃ e1 : Nat, (∃ i : Int, Txt.findIn t ⟨#[34]⟩ (A.length : Int) (t.length : Int) = i ∧ ((i = -1 ∧ e1 = t.length) ∨ (i = (e1 : Int) ∧ 0 ≤ i))) ∧ A.length + P.length < e1 ∧ e1 ≤ t.length := by
        by_cases hq : 34 ∈ Q
        · obtain ⟨P2, R2, rfl, hp2⟩ := first_of hq
          have tn2 : t.length = A.length + (P.length + (P2.length + (R2.length + 1) + 1)) := by rw [tn']; simp
          refine ⟨A.length + (P ++ 92 :: P2).length, ⟨_, find_hit (p := P ++ 92 :: P2) (R := R2) (by rw [ea]; simp) (fun z => ?_) (by rw [List.length_append, List.length_cons]; omega) (Nat.le_refl _), .inr ⟨rfl, by omega⟩⟩, by rw [List.length_append, List.length_cons]; omega, by rw [List.length_append, List.length_cons]; omega⟩
          rcases List.mem_append.mp z with z | z
          · exact (hp 34 z).2 rfl
          · rcases List.mem_cons.mp z with z | z
            · cases z
            · exact hp2 z
        · refine ⟨t.length, ⟨-1, ?_, .inl ⟨rfl, rfl⟩⟩, by omega, Nat.le_refl _⟩
          have e2 : t.length = A.length + (P ++ 92 :: Q).length := by rw [List.length_append, List.length_cons]; omega
          rw [e2]
          refine find_miss (R := []) (by rw [ea]; simp) fun z => ?_
          rcases List.mem_append.mp z with z | z
          · exact (hp 34 z).2 rfl
          · rcases List.mem_cons.mp z with z | z
            · cases z
            · exact hq z
      obtain ⟨i, q1, hi⟩ := q1
      obtain ⟨hlt, hle⟩ := he1
      have q2 : Txt.findIn t ⟨#[92]⟩ (A.length : Int) (e1 : Int) = ((A.length + P.length : Nat) : Int) := find_hit (p := P) (R := Q) ea (fun z => (hp 92 z).1 rfl) hlt hle
      have q3 : Txt.findIn t ⟨#[10]⟩ (A.length : Int) ((A.length + P.length : Nat) : Int) = -1 := find_miss (p := P) (R := 92 :: Q) ea (no10 P fun x hx => List.mem_append_left _ hx)
      have q4 : cutS t (some (A.length : Int)) (some ((A.length + P.length : Nat) : Int)) = ⟨P.toArray⟩ := At.seg at'
      have q5 := At.cut2 atS
      rcases hi with ⟨rfl, rfl⟩ | ⟨rfl, hi0⟩
      · rw [q1]
        refine br_dec (fun h => absurd h (by decide)) (fun _ => ?_)
        walk_at "WP"
        refine o_lenS (by show _ ≤ 16777216; omega) ?_
        walk_at "WP"
        walk_at "NE"
        rw [s92, q2]
        refine br_dec (fun _ => ?_) (fun h => absurd (show (0 : Int) ≤ ((A.length + P.length : Nat) : Int) by omega) h)
        walk_at "WP"
        walk_at "NE"
        rw [s10, q3]
        refine br_dec (fun h => absurd h (by decide)) (fun h => ?_)
        walk_at "WP"
        refine o_slS (by show _ ≤ 16777216; omega) ?_
        rw [q4]
        walk_at "WP"
        refine o_app ?_ ?_
        · rw [List.length_map, List.length_map]; show ys.length < 16777216; omega
        walk_at "WP"
        walk_at "NE"
        skip
        refine br_not (br_dec (fun h => ?_) (fun h => absurd rfl h))
        simp only [strl_app]
        walk_at "WP"
        refine o_slS (by show _ ≤ 16777216; omega) ?_
        rw [q5]
        cases Q with
        | nil =>
          rw [show (List.take 1 ([] : List Nat)).toArray = #[] from rfl] 
          walk_at "WP"
          refine o_in (show inO (.fz (.str ⟨#[]⟩)) (.fz (.tup [.str "\"", .str "\\", .str "n"])) = some false from by decide +kernel) ?_
          walk_at "WP"
          refine o_exc1 (scal_pos (q := A.length + P.length + 1) (by omega)) ?_
          refine wo rfl ?_
          refine ⟨A.length + P.length + 1, ?_, rfl, rfl⟩
          rw [← e, textP_run P _ _ _ hp]
          rfl
        | cons d Q =>
          have dk := ok.sg d (At.mem at' d (by simp))
          have tn2 : t.length = A.length + (P.length + (Q.length + 2)) := by rw [tn', List.length_cons]
          rw [show (List.take 1 (d :: Q)).toArray = #[d] from rfl]
          have fin : ∀ (s : Str) (s3 s4 s5 s6 s7 : Sl), tl s = [un d] → (d = 92 ∨ d = 34 ∨ d = 110) → Jk s3 → Jk s4 → Jk s5 → Jk s6 → Jk s7 → ∃ m, m < n ∧ TI t (textP S p []) S.length m
              [.vl (.fz (.str t)), .vl (.fz (.int (((A.length + P.length : Nat) : Int) + 2))), .vl (StrL (ys ++ [⟨P.toArray⟩] ++ [s])), s3, s4, s5, s6, s7] := by
            intro s s3 s4 s5 s6 s7 hs hd j3 j4 j5 j6 j7
            have n1 : (P ++ 92 :: d :: Q).length = P.length + Q.length + 2 := by simp; omega
            refine ⟨Q.length, by omega, A.length + P.length + 2, Q, ys ++ [⟨P.toArray⟩] ++ [s], s3, s4, s5, s6, s7, atS.next.next, ?_, rfl, ?_, ?_, j3, j4, j5, j6, j7, rfl⟩
            · rw [flat_snoc, flat_snoc, hs, tl_mk, ← e, textP_run P _ _ _ hp, textP_esc, if_pos hd]
            · rw [flat_snoc, flat_snoc, hs, tl_mk]
              simp only [List.length_append, List.length_singleton]
              omega
            · simp only [List.length_append, List.length_singleton]
              omega
          by_cases hd : d = 92 ∨ d = 34 ∨ d = 110
          · rcases hd with rfl | rfl | rfl
            · walk_at "WP"
              refine o_in (in3 _ (by decide)) ?_
              walk_at "WP"
              refine o_app ?_ ?_
              · rw [List.length_map, List.length_map, List.length_append, List.length_singleton]; show _ < 16777216; omega
              walk_at "WP"
              walk_at "NE"
              simp only [strl_app]
              exact fin _ _ _ _ _ _ (by decide +kernel) (by decide) jk_vl jk_vl jk_vl jk_vl jk_vl
            · walk_at "WP"
              refine o_in (in3 _ (by decide)) ?_
              walk_at "WP"
              refine o_app ?_ ?_
              · rw [List.length_map, List.length_map, List.length_append, List.length_singleton]; show _ < 16777216; omega
              walk_at "WP"
              walk_at "NE"
              simp only [strl_app]
              exact fin _ _ _ _ _ _ (by decide +kernel) (by decide) jk_vl jk_vl jk_vl jk_vl jk_vl
            · walk_at "WP"
              refine o_in (in3 _ (by decide)) ?_
              walk_at "WP"
              refine o_app ?_ ?_
              · rw [List.length_map, List.length_map, List.length_append, List.length_singleton]; show _ < 16777216; omega
              walk_at "WP"
              walk_at "NE"
              simp only [strl_app]
              exact fin _ _ _ _ _ _ (by decide +kernel) (by decide) jk_vl jk_vl jk_vl jk_vl jk_vl
          · walk_at "WP"
            refine o_in (in3 d (by omega)) ?_
            rw [decide_eq_false hd]
            walk_at "WP"
            refine o_exc1 (scal_pos (q := A.length + P.length + 1) (by omega)) ?_
            refine wo rfl ?_
            refine ⟨A.length + P.length + 1, ?_, rfl, rfl⟩
            rw [← e, textP_run P _ _ _ hp, textP_esc, if_neg hd]
      · rw [q1]
        refine br_dec (fun _ => ?_) (fun h => absurd hi0 h)
        walk_at "WP"
        walk_at "NE"
        rw [s92, q2]
        refine br_dec (fun _ => ?_) (fun h => absurd (show (0 : Int) ≤ ((A.length + P.length : Nat) : Int) by omega) h)
        walk_at "WP"
        walk_at "NE"
        rw [s10, q3]
        refine br_dec (fun h => absurd h (by decide)) (fun h => ?_)
        walk_at "WP"
        refine o_slS (by show _ ≤ 16777216; omega) ?_
        rw [q4]
        walk_at "WP"
        refine o_app ?_ ?_
        · rw [List.length_map, List.length_map]; show ys.length < 16777216; omega
        walk_at "WP"
        walk_at "NE"
        refine br_dec (fun h => ?_) (fun h => ?_)
        · exfalso; omega
        walk_at "WP"
        refine br_not (br_dec (fun h => ?_) (fun h => absurd rfl h))
        simp only [strl_app]
        walk_at "WP"
        refine o_slS (by show _ ≤ 16777216; omega) ?_
        rw [q5]
        cases Q with
        | nil =>
          rw [show (List.take 1 ([] : List Nat)).toArray = #[] from rfl] 
          walk_at "WP"
          refine o_in (show inO (.fz (.str ⟨#[]⟩)) (.fz (.tup [.str "\"", .str "\\", .str "n"])) = some false from by decide +kernel) ?_
          walk_at "WP"
          refine o_exc1 (scal_pos (q := A.length + P.length + 1) (by omega)) ?_
          refine wo rfl ?_
          refine ⟨A.length + P.length + 1, ?_, rfl, rfl⟩
          rw [← e, textP_run P _ _ _ hp]
          rfl
        | cons d Q =>
          have dk := ok.sg d (At.mem at' d (by simp))
          have tn2 : t.length = A.length + (P.length + (Q.length + 2)) := by rw [tn', List.length_cons]
          rw [show (List.take 1 (d :: Q)).toArray = #[d] from rfl]
          have fin : ∀ (s : Str) (s3 s4 s5 s6 s7 : Sl), tl s = [un d] → (d = 92 ∨ d = 34 ∨ d = 110) → Jk s3 → Jk s4 → Jk s5 → Jk s6 → Jk s7 → ∃ m, m < n ∧ TI t (textP S p []) S.length m
              [.vl (.fz (.str t)), .vl (.fz (.int (((A.length + P.length : Nat) : Int) + 2))), .vl (StrL (ys ++ [⟨P.toArray⟩] ++ [s])), s3, s4, s5, s6, s7] := by
            intro s s3 s4 s5 s6 s7 hs hd j3 j4 j5 j6 j7
            have n1 : (P ++ 92 :: d :: Q).length = P.length + Q.length + 2 := by simp; omega
            refine ⟨Q.length, by omega, A.length + P.length + 2, Q, ys ++ [⟨P.toArray⟩] ++ [s], s3, s4, s5, s6, s7, atS.next.next, ?_, rfl, ?_, ?_, j3, j4, j5, j6, j7, rfl⟩
            · rw [flat_snoc, flat_snoc, hs, tl_mk, ← e, textP_run P _ _ _ hp, textP_esc, if_pos hd]
            · rw [flat_snoc, flat_snoc, hs, tl_mk]
              simp only [List.length_append, List.length_singleton]
              omega
            · simp only [List.length_append, List.length_singleton]
              omega
          by_cases hd : d = 92 ∨ d = 34 ∨ d = 110
          · rcases hd with rfl | rfl | rfl
            · walk_at "WP"
              refine o_in (in3 _ (by decide)) ?_
              walk_at "WP"
              refine o_app ?_ ?_
              · rw [List.length_map, List.length_map, List.length_append, List.length_singleton]; show _ < 16777216; omega
              walk_at "WP"
              walk_at "NE"
              simp only [strl_app]
              exact fin _ _ _ _ _ _ (by decide +kernel) (by decide) jk_vl jk_vl jk_vl jk_vl jk_vl
            · walk_at "WP"
              refine o_in (in3 _ (by decide)) ?_
              walk_at "WP"
              refine o_app ?_ ?_
              · rw [List.length_map, List.length_map, List.length_append, List.length_singleton]; show _ < 16777216; omega
              walk_at "WP"
              walk_at "NE"
              simp only [strl_app]
              exact fin _ _ _ _ _ _ (by decide +kernel) (by decide) jk_vl jk_vl jk_vl jk_vl jk_vl
            · walk_at "WP"
              refine o_in (in3 _ (by decide)) ?_
              walk_at "WP"
              refine o_app ?_ ?_
              · rw [List.length_map, List.length_map, List.length_append, List.length_singleton]; show _ < 16777216; omega
              walk_at "WP"
              walk_at "NE"
              simp only [strl_app]
              exact fin _ _ _ _ _ _ (by decide +kernel) (by decide) jk_vl jk_vl jk_vl jk_vl jk_vl
          · walk_at "WP"
            refine o_in (in3 d (by omega)) ?_
            rw [decide_eq_false hd]
            walk_at "WP"
            refine o_exc1 (scal_pos (q := A.length + P.length + 1) (by omega)) ?_
            refine wo rfl ?_
            refine ⟨A.length + P.length + 1, ?_, rfl, rfl⟩
            rw [← e, textP_run P _ _ _ hp, textP_esc, if_neg hd]
    · -- the quote first
      obtain ⟨A, ea, rfl⟩ := id at'
      have atS := At.app at'
      rw [List.length_append, List.length_cons] at tn'
      have q1 : Txt.findIn t ⟨#[34]⟩ (A.length : Int) (t.length : Int) = ((A.length + P.length : Nat) : Int) := find_hit (p := P) (R := Q) ea (fun z => (hp 34 z).2 rfl) (by omega) (Nat.le_refl _)
      have q2 : Txt.findIn t ⟨#[92]⟩ (A.length : Int) ((A.length + P.length : Nat) : Int) = -1 := find_miss (p := P) (R := 34 :: Q) ea fun z => (hp 92 z).1 rfl
      have q3 : Txt.findIn t ⟨#[10]⟩ (A.length : Int) ((A.length + P.length : Nat) : Int) = -1 := find_miss (p := P) (R := 34 :: Q) ea (no10 P fun x hx => List.mem_append_left _ hx)
      have q4 : cutS t (some (A.length : Int)) (some ((A.length + P.length : Nat) : Int)) = ⟨P.toArray⟩ := At.seg at'
      rw [q1]
      refine br_dec (fun _ => ?_) (fun h => absurd (show (0 : Int) ≤ ((A.length + P.length : Nat) : Int) by omega) h)
      walk_at "WP"
      walk_at "NE"
      rw [s92, q2]
      refine br_dec (fun h => absurd h (by decide)) (fun h => ?_)
      walk_at "WP"
      walk_at "NE"
      rw [s10, q3]
      refine br_dec (fun h => absurd h (by decide)) (fun h => ?_)
      walk_at "WP"
      refine o_slS (by show _ ≤ 16777216; omega) ?_
      rw [q4]
      walk_at "WP"
      refine o_app ?_ ?_
      · rw [List.length_map, List.length_map]; show ys.length < 16777216; omega
      walk_at "WP"
      walk_at "NE"
      refine br_dec (fun h => ?_) (fun h => absurd rfl h)
      simp only [strl_app]
      walk_at "WP"
      have g2' : ((ys.map tl).flatten).length + (P ++ 34 :: Q).length ≤ S.length := by omega
      rw [List.length_append, List.length_cons] at g2'
      refine o_join (ds := (ys ++ [(⟨P.toArray⟩ : Str)]).map Dat.str) (ys := ys ++ [(⟨P.toArray⟩ : Str)]) (asL_map _) (strsD_map _) ?_ ?_
      · rw [flat_len, flat_snoc, tl_mk, List.length_append, show (Str.ofString "").length = 0 from by decide +kernel]; omega
      walk_at "WP"
      have jn : Txt.join (Str.ofString "") (ys ++ [(⟨P.toArray⟩ : Str)]) = ⟨((ys.map tl).flatten ++ P).toArray⟩ := ext_tl (by rw [join_flat, flat_snoc, tl_mk, tl_mk])
      refine ⟨.str ⟨((ys.map tl).flatten ++ P).toArray⟩, A.length + P.length + 1, Q, ?_, ?_, rfl⟩
      · rw [← e, textP_run P _ _ _ hp, textP_quote]
      · simp only [frzs, frz]
        rw [jn]
        rfl
end K22

namespace K22
open PySem PySem.Spec L2 Lay Com TL T21 T22
local macro_rules | `(tactic| walk_at "WP") => `(tactic| (repeat (first | with_reducible refine ws_seq ?_ | with_reducible refine ws_asg ?_ | with_reducible refine ws_if ?_ | with_reducible refine ws_ret ?_ | with_reducible refine ws_expr ?_ | with_reducible refine ws_par ?_ | with_reducible refine ws_nx ?_ | with_reducible refine ws_raise ?_ | with_reducible refine o_TT ?_ | with_reducible refine ws_bk ?_ | with_reducible refine ws_ct ?_ | with_reducible refine ws_retN ?_ | with_reducible refine ws_st_nil ?_ | with_reducible refine ws_st_cons ?_ | with_reducible refine w_D ?_ | with_reducible refine w_x2 ?_ | with_reducible refine w_x1 ?_ | with_reducible refine w_notV ?_ | with_reducible refine w_Nil ?_ | with_reducible refine w_Cons ?_ | with_reducible refine w_N ?_ | with_reducible refine w_M ?_ | with_reducible refine w_Ty ?_ | with_reducible refine w_Tup ?_ | with_reducible refine w_LstF ?_ | with_reducible refine w_Fz ?_ | with_reducible refine w_T ?_ | with_reducible refine w_Tru ?_ | with_reducible refine w_And ?_ | with_reducible refine w_Or ?_ | with_reducible refine w_Not ?_ | with_reducible refine w_If ?_ | with_reducible refine w_OrV ?_ | with_reducible refine w_AndV ?_ | with_reducible refine w_Js_nil ?_ | with_reducible refine w_Js_cons ?_ | with_reducible refine w_Call ?_ | with_reducible refine w_Mut ?_ | with_reducible refine w_Yes ?_ | with_reducible refine w_gIx ?_ | with_reducible refine w_gS_nil ?_ | with_reducible refine w_gS_cons ?_ | with_reducible refine w_Sq ?_ | with_reducible refine w_Rg1 ?_ | with_reducible refine w_Rg2 ?_ | with_reducible refine w_NoPart ?_ | with_reducible refine w_Part ?_ | with_reducible refine w_Sl ?_ | with_reducible refine ws_aug ?_ | with_reducible refine o_addI ?_ | with_reducible refine o_find2 ?_ | with_reducible refine o_find3 ?_ | with_reducible refine o_add ?_ | with_reducible refine o_sub ?_ | with_reducible refine o_lt ?_ | with_reducible refine o_le ?_ | with_reducible refine o_gt ?_ | with_reducible refine o_ge ?_ | with_reducible refine o_eqI ?_ | with_reducible refine o_neI ?_ | with_reducible refine o_int ?_ | with_reducible refine o_intB ?_ | with_reducible refine o_gcd ?_ | with_reducible refine o_lenT ?_ | with_reducible refine o_lenL ?_ | with_reducible refine o_lenK ?_ | with_reducible refine o_lenO ?_ | with_reducible refine o_isN ?_ | with_reducible refine o_isB ?_ | with_reducible refine o_isnN ?_ | with_reducible refine o_isnB ?_ | with_reducible refine o_neg ?_ | with_reducible refine o_eqS ?_ | with_reducible refine o_neS ?_ | refine w_var rfl ?_ | refine w_gLs rfl ?_ | refine w_gS_cons ?_ | refine w_gS_nil ?_ | refine ws_st_cons ?_ | refine ws_st_nil ?_ | refine w_Js_cons ?_ | refine w_Js_nil ?_ | refine w_gNm rfl ?_ | refine w_gJ rfl (by assumption) ?_ | refine w_gTu rfl ?_ | refine o_isi (by decide) ?_ | refine o_mul (by first | exact cMul_r (by omega) (by omega) | exact cMul_l (by omega) (by omega)) ?_ | refine o_mul (by assumption) ?_ | refine o_mod (by omega) ?_ | refine o_fdivS (by omega) (by omega) ?_ | refine o_absN ?_ | refine ⟨⟨by omega, by omega⟩, ?_⟩ | refine ⟨⟨⟨by omega, by omega⟩, by omega, by omega⟩, ?_⟩ | refine ⟨@rfl _ _, ?_⟩ | refine ⟨⟨@rfl _ _, @rfl _ _⟩, ?_⟩ | refine ⟨_, rfl, ?_⟩ | refine ⟨⟨Nat.le_of_ble_eq_true rfl, fun _ h => nomatch h⟩, ?_⟩ | refine ⟨Nat.le_of_ble_eq_true rfl, ?_⟩ | refine br_true ?_ | refine br_false ?_ | refine w_back rfl ?_ | refine wo rfl ?_)))
local macro_rules | `(tactic| walk_at "WQ") => `(tactic| (repeat (first | with_reducible refine ws_seq ?_ | with_reducible refine ws_asg ?_ | with_reducible refine ws_ret ?_ | with_reducible refine ws_expr ?_ | with_reducible refine ws_par ?_ | with_reducible refine ws_nx ?_ | with_reducible refine ws_raise ?_ | with_reducible refine o_TT ?_ | with_reducible refine ws_bk ?_ | with_reducible refine ws_ct ?_ | with_reducible refine ws_retN ?_ | with_reducible refine ws_st_nil ?_ | with_reducible refine ws_st_cons ?_ | with_reducible refine w_D ?_ | with_reducible refine w_x2 ?_ | with_reducible refine w_x1 ?_ | with_reducible refine w_notV ?_ | with_reducible refine w_Nil ?_ | with_reducible refine w_Cons ?_ | with_reducible refine w_N ?_ | with_reducible refine w_M ?_ | with_reducible refine w_Ty ?_ | with_reducible refine w_Tup ?_ | with_reducible refine w_LstF ?_ | with_reducible refine w_Fz ?_ | with_reducible refine w_T ?_ | with_reducible refine w_Tru ?_ | with_reducible refine w_And ?_ | with_reducible refine w_Or ?_ | with_reducible refine w_Not ?_ | with_reducible refine w_If ?_ | with_reducible refine w_OrV ?_ | with_reducible refine w_AndV ?_ | with_reducible refine w_Js_nil ?_ | with_reducible refine w_Js_cons ?_ | with_reducible refine w_Call ?_ | with_reducible refine w_Mut ?_ | with_reducible refine w_Yes ?_ | with_reducible refine w_gIx ?_ | with_reducible refine w_gS_nil ?_ | with_reducible refine w_gS_cons ?_ | with_reducible refine w_Sq ?_ | with_reducible refine w_Rg1 ?_ | with_reducible refine w_Rg2 ?_ | with_reducible refine w_NoPart ?_ | with_reducible refine w_Part ?_ | with_reducible refine w_Sl ?_ | with_reducible refine ws_aug ?_ | with_reducible refine o_addI ?_ | with_reducible refine o_find2 ?_ | with_reducible refine o_find3 ?_ | with_reducible refine o_add ?_ | with_reducible refine o_sub ?_ | with_reducible refine o_lt ?_ | with_reducible refine o_le ?_ | with_reducible refine o_gt ?_ | with_reducible refine o_ge ?_ | with_reducible refine o_eqI ?_ | with_reducible refine o_neI ?_ | with_reducible refine o_int ?_ | with_reducible refine o_intB ?_ | with_reducible refine o_gcd ?_ | with_reducible refine o_lenT ?_ | with_reducible refine o_lenL ?_ | with_reducible refine o_lenK ?_ | with_reducible refine o_lenO ?_ | with_reducible refine o_isN ?_ | with_reducible refine o_isB ?_ | with_reducible refine o_isnN ?_ | with_reducible refine o_isnB ?_ | with_reducible refine o_neg ?_ | with_reducible refine o_eqS ?_ | with_reducible refine o_neS ?_ | refine w_var rfl ?_ | refine w_gLs rfl ?_ | refine w_gS_cons ?_ | refine w_gS_nil ?_ | refine ws_st_cons ?_ | refine ws_st_nil ?_ | refine w_Js_cons ?_ | refine w_Js_nil ?_ | refine w_gNm rfl ?_ | refine w_gJ rfl (by assumption) ?_ | refine w_gTu rfl ?_ | refine o_isi (by decide) ?_ | refine o_mul (by first | exact cMul_r (by omega) (by omega) | exact cMul_l (by omega) (by omega)) ?_ | refine o_mul (by assumption) ?_ | refine o_mod (by omega) ?_ | refine o_fdivS (by omega) (by omega) ?_ | refine o_absN ?_ | refine ⟨⟨by omega, by omega⟩, ?_⟩ | refine ⟨⟨⟨by omega, by omega⟩, by omega, by omega⟩, ?_⟩ | refine ⟨@rfl _ _, ?_⟩ | refine ⟨⟨@rfl _ _, @rfl _ _⟩, ?_⟩ | refine ⟨_, rfl, ?_⟩ | refine ⟨⟨Nat.le_of_ble_eq_true rfl, fun _ h => nomatch h⟩, ?_⟩ | refine ⟨Nat.le_of_ble_eq_true rfl, ?_⟩ | refine br_true ?_ | refine br_false ?_ | refine w_back rfl ?_ | refine wo rfl ?_)))
local macro_rules | `(tactic| walk_at "WI") => `(tactic| (repeat (first | with_reducible refine ws_seq ?_ | with_reducible refine ws_asg ?_ | with_reducible refine ws_if ?_ | with_reducible refine ws_ret ?_ | with_reducible refine ws_expr ?_ | with_reducible refine ws_par ?_ | with_reducible refine ws_nx ?_ | with_reducible refine ws_raise ?_ | with_reducible refine o_TT ?_ | with_reducible refine ws_bk ?_ | with_reducible refine ws_ct ?_ | with_reducible refine ws_retN ?_ | with_reducible refine ws_st_nil ?_ | with_reducible refine ws_st_cons ?_ | with_reducible refine w_D ?_ | with_reducible refine w_x2 ?_ | with_reducible refine w_x1 ?_ | with_reducible refine w_notV ?_ | with_reducible refine w_Nil ?_ | with_reducible refine w_Cons ?_ | with_reducible refine w_N ?_ | with_reducible refine w_M ?_ | with_reducible refine w_Ty ?_ | with_reducible refine w_Tup ?_ | with_reducible refine w_LstF ?_ | with_reducible refine w_Fz ?_ | with_reducible refine w_T ?_ | with_reducible refine w_Tru ?_ | with_reducible refine w_And ?_ | with_reducible refine w_Or ?_ | with_reducible refine w_Not ?_ | with_reducible refine w_OrV ?_ | with_reducible refine w_AndV ?_ | with_reducible refine w_Js_nil ?_ | with_reducible refine w_Js_cons ?_ | with_reducible refine w_Call ?_ | with_reducible refine w_Mut ?_ | with_reducible refine w_Yes ?_ | with_reducible refine w_gIx ?_ | with_reducible refine w_gS_nil ?_ | with_reducible refine w_gS_cons ?_ | with_reducible refine w_Sq ?_ | with_reducible refine w_Rg1 ?_ | with_reducible refine w_Rg2 ?_ | with_reducible refine w_NoPart ?_ | with_reducible refine w_Part ?_ | with_reducible refine w_Sl ?_ | with_reducible refine ws_aug ?_ | with_reducible refine o_addI ?_ | with_reducible refine o_find2 ?_ | with_reducible refine o_find3 ?_ | with_reducible refine o_add ?_ | with_reducible refine o_sub ?_ | with_reducible refine o_lt ?_ | with_reducible refine o_le ?_ | with_reducible refine o_gt ?_ | with_reducible refine o_ge ?_ | with_reducible refine o_eqI ?_ | with_reducible refine o_neI ?_ | with_reducible refine o_int ?_ | with_reducible refine o_intB ?_ | with_reducible refine o_gcd ?_ | with_reducible refine o_lenT ?_ | with_reducible refine o_lenL ?_ | with_reducible refine o_lenK ?_ | with_reducible refine o_lenO ?_ | with_reducible refine o_isN ?_ | with_reducible refine o_isB ?_ | with_reducible refine o_isnN ?_ | with_reducible refine o_isnB ?_ | with_reducible refine o_neg ?_ | with_reducible refine o_eqS ?_ | with_reducible refine o_neS ?_ | refine w_var rfl ?_ | refine w_gLs rfl ?_ | refine w_gS_cons ?_ | refine w_gS_nil ?_ | refine ws_st_cons ?_ | refine ws_st_nil ?_ | refine w_Js_cons ?_ | refine w_Js_nil ?_ | refine w_gNm rfl ?_ | refine w_gJ rfl (by assumption) ?_ | refine w_gTu rfl ?_ | refine o_isi (by decide) ?_ | refine o_mul (by first | exact cMul_r (by omega) (by omega) | exact cMul_l (by omega) (by omega)) ?_ | refine o_mul (by assumption) ?_ | refine o_mod (by omega) ?_ | refine o_fdivS (by omega) (by omega) ?_ | refine o_absN ?_ | refine ⟨⟨by omega, by omega⟩, ?_⟩ | refine ⟨⟨⟨by omega, by omega⟩, by omega, by omega⟩, ?_⟩ | refine ⟨@rfl _ _, ?_⟩ | refine ⟨⟨@rfl _ _, @rfl _ _⟩, ?_⟩ | refine ⟨_, rfl, ?_⟩ | refine ⟨⟨Nat.le_of_ble_eq_true rfl, fun _ h => nomatch h⟩, ?_⟩ | refine ⟨Nat.le_of_ble_eq_true rfl, ?_⟩ | refine br_true ?_ | refine br_false ?_ | refine w_back rfl ?_ | refine wo rfl ?_)))
local macro_rules | `(tactic| walk_at "NE") => `(tactic| (dsimp only [List.set_cons_succ, List.set_cons_zero, frz]))
local macro_rules | `(tactic| walk_at "FIN") => `(tactic| (first | rfl | exact ⟨rfl, rfl⟩ | exact trivial | exact ⟨trivial, rfl⟩ | exact ⟨trivial, trivial⟩ | exact ⟨rfl, trivial⟩))
theorem s45 : Str.ofString "-" = ⟨#[45]⟩ := by decide +kernel
theorem s48 : Str.ofString "0" = ⟨#[48]⟩ := by decide +kernel
theorem occF : ∀ c < 128, (Builtin.Str.occurrences (Str.ofString "0123456789") ⟨#[c]⟩ 0 (Str.ofString "0123456789").length 1).isEmpty = !fig c := by decide +kernel
theorem figs_cons {c : Nat} {B : List Nat} (h : fig c = true) : figs (c :: B) = c :: figs B := by
  unfold figs
  rw [List.takeWhile_cons, if_pos h]
theorem figs_no {c : Nat} {B : List Nat} (h : fig c = false) : figs (c :: B) = [] := by
  unfold figs
  rw [List.takeWhile_cons, h]
  rfl
theorem rest_head {B R : List Nat} {c : Nat} (h : T22.rest B = c :: R) : fig c = false := by
  induction B with
  | nil => cases h
  | cons b B ih =>
    unfold T22.rest at h
    rw [List.dropWhile_cons] at h
    split at h
    · exact ih h
    · rename_i hb
      cases h
      simpa using hb
theorem int_of {neg : Bool} {D : List Nat} (h1 : ∀ c ∈ D, 48 ≤ c ∧ c ≤ 57) (h2 : D ≠ []) (h3 : D.length ≤ 2000) :
    PySem.intText? ⟨((if neg then [45] else []) ++ D).toArray⟩ = some (if neg then -((PySem.NumText.digitsVal D : Nat) : Int) else ((PySem.NumText.digitsVal D : Nat) : Int)) := by
  cases neg with
  | true =>
    exact PySem.intText_neg (x := ⟨(45 :: D).toArray⟩) (cs := D) rfl h1 h2 (by show (45 :: D).toArray.size ≤ _; rw [List.size_toArray, List.length_cons]; omega)
  | false =>
    exact PySem.intText_digits (x := ⟨D.toArray⟩) h1 h2 (by show D.toArray.size ≤ _; rw [List.size_toArray]; omega)
theorem num_split (S : List Nat) (p : Nat) : ∃ (neg : Bool) (pre B : List Nat), S = pre ++ B ∧ pre = (if neg then [45] else []) ∧ numP S p = numB neg B (p + pre.length) ∧ (neg = false → S.head? ≠ some 45) := by
  by_cases hS : S.head? = some 45
  · obtain ⟨B, rfl⟩ : ∃ B, S = 45 :: B := by
      cases S with
      | nil => cases hS
      | cons c B => exact ⟨B, by rw [Option.some.inj hS]⟩
    exact ⟨true, [45], B, rfl, rfl, numP_neg B p, fun h => by cases h⟩
  · exact ⟨false, [], S, rfl, rfl, numP_pos hS p, fun _ => hS⟩
/-- a sign behind some, at its place -/
theorem At.cutK {t : Str} {b : Nat} {B : List Nat} (h : At t b B) {k : Nat} (hk : k ≤ B.length) : cutS t (some ((b + k : Nat) : Int)) (some (((b + k : Nat) : Int) + 1)) = ⟨((B.drop k).take 1).toArray⟩ := by
  have h2 : At t (b + k) (B.drop k) := by
    have := At.app (t := t) (p := b) (P := B.take k) (S := B.drop k) (by rw [List.take_append_drop]; exact h)
    rwa [List.length_take, Nat.min_eq_left hk] at this
  exact h2.cut
theorem integer_spec {t : Str} {p : Nat} {S : List Nat} (ok : OkT t) (h : At t p S) :
    Wf F_integer_at [.fz (.str t), .fz (.int (p : Int))] (QX (numP S p)) (EX (numP S p)) := by
  have hl := ok.len
  obtain ⟨neg, pre, B, rfl, hpre, hnum, hneg⟩ := num_split S p
  have tn := h.len
  rw [List.length_append] at tn
  have atB := At.app h
  rw [hnum]
  have hp1 : pre.length = if neg then 1 else 0 := by rw [hpre]; cases neg <;> rfl
  refine Wf.run ?_
  show Ws G_integer_at [.vl _, .vl _, .un, .un, .un] _
  unfold G_integer_at
  refine ws_seq ?_
  refine ws_J (fun ρ => ρ = [.vl (.fz (.str t)), .vl (.fz (.int (p : Int))), .vl (.fz (.int ((p + pre.length : Nat) : Int))), .un, .un]) ?_ ?_
  · walk_at "WP"
    refine o_slS (by show _ ≤ 16777216; omega) ?_
    rw [h.cut]
    cases neg with
    | true =>
      obtain rfl : pre = [45] := hpre
      rw [show (List.take 1 ([45] ++ B)).toArray = #[45] from rfl]
      walk_at "WP"
      walk_at "FIN"
    | false =>
      obtain rfl : pre = [] := hpre
      have hS := hneg rfl
      cases B with
      | nil =>
        rw [show (List.take 1 ([] ++ ([] : List Nat))).toArray = #[] from rfl]
        walk_at "WP"
        walk_at "FIN"
      | cons c B =>
        rw [show (List.take 1 ([] ++ (c :: B))).toArray = #[c] from rfl]
        walk_at "WP"
        refine br_dec (fun h => ?_) (fun h => ?_)
        · exact absurd (by rw [(eq_one s45).mp h]; rfl) hS
        walk_at "WP"
        walk_at "FIN"
  rintro ρ rfl
  generalize hb : p + pre.length = b at atB ⊢
  have tnb := atB.len
  walk_at "WP"
  refine o_slS (by show _ ≤ 16777216; omega) ?_
  rw [atB.cut]
  cases B with
  | nil =>
    rw [show (List.take 1 ([] : List Nat)).toArray = #[] from rfl]
    walk_at "WP"
    refine o_exc1 (scal_pos (by omega)) ?_
    refine wo rfl ?_
    exact ⟨b, rfl, rfl, rfl⟩
  | cons c B =>
    have ck := ok.sg c (At.mem atB c List.mem_cons_self)
    rw [show (List.take 1 (c :: B)).toArray = #[c] from rfl]
    walk_at "WQ"
    walk_at "NE"
    by_cases hf : fig c = true
    · have fc := figs_cons (B := B) hf
      by_cases h48 : c = 48 ∧ neg = true
      · obtain ⟨rfl, rfl⟩ := h48
        walk_at "WP"
        rw [occF 48 (by omega), hf]
        walk_at "WP"
        refine br_dec (fun h => ?_) (fun h => absurd (show (p : Int) < (b : Int) by rw [if_pos rfl] at hp1; omega) h)
        walk_at "WP"
        refine o_exc1 (scal_pos (by omega)) ?_
        refine wo rfl ?_
        refine ⟨b, ?_, rfl, rfl⟩
        unfold numB
        rw [fc, if_neg (by simp), if_pos ⟨rfl, rfl⟩]
      · refine ws_JE ?_ ?_
        · walk_at "WP"
          rw [occF c (by omega), hf]
          walk_at "WP"
          refine br_dec (fun h => ?_) (fun h => ?_)
          · have c48 := (eq_one s48).mp h
            walk_at "WP"
            refine br_dec (fun h => ?_) (fun h => ?_)
            · exfalso
              cases neg with
              | true => exact h48 ⟨c48, rfl⟩
              | false =>
                rw [if_neg Bool.false_ne_true] at hp1
                omega
            · walk_at "WP"
              walk_at "FIN"
          · walk_at "WP"
            walk_at "FIN"
        walk_at "WP"
        walk_at "NE"
        have hD : figs (c :: B) = c :: figs B := fc
        have hB : c :: B = figs (c :: B) ++ T22.rest (c :: B) := (figs_rest _).symm
        have dlen : (figs (c :: B)).length = (figs B).length + 1 := by rw [fc]; rfl
        have blen : (c :: B).length = (figs (c :: B)).length + (T22.rest (c :: B)).length := by rw [← List.length_append, ← hB]
        refine ws_while (fun n ρ => ∃ k : Nat, 1 ≤ k ∧ k + n = (figs (c :: B)).length ∧ k ≤ 2000 ∧ (c = 48 → k = 1) ∧ ρ = [.vl (.fz (.str t)), .vl (.fz (.int (p : Int))), .vl (.fz (.int (b : Int))), .vl (.fz (.str ⟨#[c]⟩)), .vl (.fz (.int ((b + k : Nat) : Int)))]) (figs B).length (by omega) ⟨1, by omega, by omega, by omega, fun _ => rfl, rfl⟩ ?_
        rintro n ρ ⟨k, k1, k2, k3, k4, rfl⟩
        have cut := At.cutK atB (k := k) (by omega)
        by_cases hk : n = 0
        · -- behind the last figure
          have kD : k = (figs (c :: B)).length := by omega
          have drp : (c :: B).drop k = T22.rest (c :: B) := by
            conv => lhs; rw [hB]
            rw [kD, List.drop_left]
          rw [drp] at cut
          have seg : cutS t (some (p : Int)) (some ((b + k : Nat) : Int)) = ⟨((if neg then [45] else []) ++ figs (c :: B)).toArray⟩ := by
            have h2 : At t p ((pre ++ figs (c :: B)) ++ T22.rest (c :: B)) := by rw [List.append_assoc, figs_rest]; exact h
            have := h2.seg
            rw [List.length_append, ← kD, show p + (pre.length + k) = b + k by omega] at this
            rw [this, hpre]
          have val := int_of (neg := neg) (D := figs (c :: B)) figs_all (by rw [fc]; simp) (by omega)
          have small : (⟨((if neg then [45] else []) ++ figs (c :: B)).toArray⟩ : Str).length ≤ 4000 := by
            show (((if neg then [45] else []) ++ figs (c :: B)).toArray).size ≤ 4000
            rw [List.size_toArray, List.length_append]
            cases neg <;> simp <;> omega
          have done : QX (numB neg (c :: B) b) (.fz (.tup [.int (if neg then -((PySem.NumText.digitsVal (figs (c :: B)) : Nat) : Int) else ((PySem.NumText.digitsVal (figs (c :: B)) : Nat) : Int)), .int ((b + k : Nat) : Int)])) (.fz .non) := by
            refine ⟨_, b + k, T22.rest (c :: B), ?_, rfl, rfl⟩
            unfold numB
            rw [if_neg (by rw [fc]; simp), if_neg, if_neg, if_neg (by omega), ← kD]
            · rintro ⟨z1, z2⟩
              rw [fc] at z1
              have := k4 (Option.some.inj z1)
              omega
            · rintro ⟨z1, z2⟩
              rw [fc] at z1
              exact h48 ⟨Option.some.inj z1, z2⟩
          cases hR : T22.rest (c :: B) with
          | nil =>
            rw [hR] at cut
            rw [show (List.take 1 ([] : List Nat)).toArray = #[] from rfl] at cut
            walk_at "WP"
            refine o_slS (by show _ ≤ 16777216; omega) ?_
            rw [cut]
            walk_at "WP"
            refine o_slS (by show _ ≤ 16777216; omega) ?_
            rw [seg]
            walk_at "WP"
            refine o_intS small val ?_
            walk_at "WP"
            exact done
          | cons d R =>
            rw [hR] at cut
            rw [show (List.take 1 (d :: R)).toArray = #[d] from rfl] at cut
            have nf := rest_head hR
            have dk := ok.sg d (At.mem atB d (by rw [hB, hR]; simp))
            walk_at "WP"
            refine o_slS (by show _ ≤ 16777216; omega) ?_
            rw [cut]
            walk_at "WP"
            refine o_slS (by show _ ≤ 16777216; omega) ?_
            rw [cut]
            walk_at "WP"
            rw [occF d (by omega), nf]
            walk_at "WP"
            refine o_slS (by show _ ≤ 16777216; omega) ?_
            rw [seg]
            walk_at "WP"
            refine o_intS small val ?_
            walk_at "WP"
            exact done
        · have kl : k < (figs (c :: B)).length := by omega
          obtain ⟨d, hd⟩ : ∃ d, (figs (c :: B))[k]? = some d := ⟨_, List.getElem?_eq_getElem kl⟩
          have df : fig d = true := by
            have := figs_all d (List.mem_of_getElem? hd)
            unfold fig
            simp [this.1, this.2]
          have dk := figs_all d (List.mem_of_getElem? hd)
          have drp : ((c :: B).drop k).take 1 = [d] := by
            have hd2 : (c :: B)[k]? = some d := by rw [hB, List.getElem?_append_left kl]; exact hd
            rw [List.drop_eq_getElem_cons (by omega)]
            rw [List.getElem?_eq_getElem (by omega)] at hd2
            rw [Option.some.inj hd2]
            rfl
          rw [drp, show [d].toArray = #[d] from rfl] at cut
          walk_at "WP"
          refine o_slS (by show _ ≤ 16777216; omega) ?_
          rw [cut]
          walk_at "WP"
          refine o_slS (by show _ ≤ 16777216; omega) ?_
          rw [cut]
          walk_at "WP"
          rw [occF d (by omega), df]
          walk_at "WP"
          unfold C_MOST_FIGURES
          walk_at "WP"
          refine br_dec (fun h => ?_) (fun h => ?_)
          · have c48 := (eq_one s48).mp h
            have := k4 c48
            subst this
            walk_at "WP"
            refine o_exc1 (scal_pos (q := b + 1) (by omega)) ?_
            refine wo rfl ?_
            refine ⟨b + 1, ?_, rfl, rfl⟩
            unfold numB
            rw [if_neg (by rw [fc]; simp), if_neg, if_pos]
            · exact ⟨by rw [fc, c48]; rfl, by omega⟩
            · rintro ⟨z1, z2⟩
              exact h48 ⟨c48, z2⟩
          have n48 : c ≠ 48 := fun z => h ((eq_one s48).mpr z)
          walk_at "WP"
          refine br_dec (fun h => ?_) (fun h => ?_)
          · have : k = 2000 := by omega
            subst this
            walk_at "WP"
            refine o_exc1 (scal_pos (q := b + 2000) (by omega)) ?_
            refine wo rfl ?_
            refine ⟨b + 2000, ?_, rfl, rfl⟩
            unfold numB
            rw [if_neg (by rw [fc]; simp), if_neg, if_neg, if_pos (by omega)]
            · rintro ⟨z1, z2⟩
              rw [fc] at z1
              exact n48 (Option.some.inj z1)
            · rintro ⟨z1, z2⟩
              rw [fc] at z1
              exact n48 (Option.some.inj z1)
          walk_at "WP"
          walk_at "NE"
          refine ⟨n - 1, by omega, k + 1, by omega, by omega, by omega, fun z => absurd z n48, ?_⟩
          rw [show ((b + (k + 1) : Nat) : Int) = ((b + k : Nat) : Int) + 1 by omega]
    · have hf : fig c = false := by simpa using hf
      walk_at "WP"
      rw [occF c (by omega), hf]
      walk_at "WP"
      refine o_exc1 (scal_pos (by omega)) ?_
      refine wo rfl ?_
      refine ⟨b, ?_, rfl, rfl⟩
      unfold numB
      rw [figs_no hf, if_pos rfl]
end K22

namespace K22
open PySem PySem.Spec L2 Lay Com TL T21 T22
local macro_rules | `(tactic| walk_at "WP") => `(tactic| (repeat (first | with_reducible refine ws_seq ?_ | with_reducible refine ws_asg ?_ | with_reducible refine ws_if ?_ | with_reducible refine ws_ret ?_ | with_reducible refine ws_expr ?_ | with_reducible refine ws_par ?_ | with_reducible refine ws_nx ?_ | with_reducible refine ws_raise ?_ | with_reducible refine o_TT ?_ | with_reducible refine ws_bk ?_ | with_reducible refine ws_ct ?_ | with_reducible refine ws_retN ?_ | with_reducible refine ws_st_nil ?_ | with_reducible refine ws_st_cons ?_ | with_reducible refine w_D ?_ | with_reducible refine w_x2 ?_ | with_reducible refine w_x1 ?_ | with_reducible refine w_notV ?_ | with_reducible refine w_Nil ?_ | with_reducible refine w_Cons ?_ | with_reducible refine w_N ?_ | with_reducible refine w_M ?_ | with_reducible refine w_Ty ?_ | with_reducible refine w_Tup ?_ | with_reducible refine w_LstF ?_ | with_reducible refine w_Fz ?_ | with_reducible refine w_T ?_ | with_reducible refine w_Tru ?_ | with_reducible refine w_And ?_ | with_reducible refine w_Or ?_ | with_reducible refine w_Not ?_ | with_reducible refine w_If ?_ | with_reducible refine w_OrV ?_ | with_reducible refine w_AndV ?_ | with_reducible refine w_Js_nil ?_ | with_reducible refine w_Js_cons ?_ | with_reducible refine w_Call ?_ | with_reducible refine w_Mut ?_ | with_reducible refine w_Yes ?_ | with_reducible refine w_gIx ?_ | with_reducible refine w_gS_nil ?_ | with_reducible refine w_gS_cons ?_ | with_reducible refine w_Sq ?_ | with_reducible refine w_Rg1 ?_ | with_reducible refine w_Rg2 ?_ | with_reducible refine w_NoPart ?_ | with_reducible refine w_Part ?_ | with_reducible refine w_Sl ?_ | with_reducible refine ws_aug ?_ | with_reducible refine o_addI ?_ | with_reducible refine o_find2 ?_ | with_reducible refine o_find3 ?_ | with_reducible refine o_add ?_ | with_reducible refine o_sub ?_ | with_reducible refine o_lt ?_ | with_reducible refine o_le ?_ | with_reducible refine o_gt ?_ | with_reducible refine o_ge ?_ | with_reducible refine o_eqI ?_ | with_reducible refine o_neI ?_ | with_reducible refine o_int ?_ | with_reducible refine o_intB ?_ | with_reducible refine o_gcd ?_ | with_reducible refine o_lenT ?_ | with_reducible refine o_lenL ?_ | with_reducible refine o_lenK ?_ | with_reducible refine o_lenO ?_ | with_reducible refine o_isN ?_ | with_reducible refine o_isB ?_ | with_reducible refine o_isnN ?_ | with_reducible refine o_isnB ?_ | with_reducible refine o_neg ?_ | with_reducible refine o_eqS ?_ | with_reducible refine o_neS ?_ | refine w_var rfl ?_ | refine w_gLs rfl ?_ | refine w_gS_cons ?_ | refine w_gS_nil ?_ | refine ws_st_cons ?_ | refine ws_st_nil ?_ | refine w_Js_cons ?_ | refine w_Js_nil ?_ | refine w_gNm rfl ?_ | refine w_gJ rfl (by assumption) ?_ | refine w_gTu rfl ?_ | refine o_isi (by decide) ?_ | refine o_mul (by first | exact cMul_r (by omega) (by omega) | exact cMul_l (by omega) (by omega)) ?_ | refine o_mul (by assumption) ?_ | refine o_mod (by omega) ?_ | refine o_fdivS (by omega) (by omega) ?_ | refine o_absN ?_ | refine ⟨⟨by omega, by omega⟩, ?_⟩ | refine ⟨⟨⟨by omega, by omega⟩, by omega, by omega⟩, ?_⟩ | refine ⟨@rfl _ _, ?_⟩ | refine ⟨⟨@rfl _ _, @rfl _ _⟩, ?_⟩ | refine ⟨_, rfl, ?_⟩ | refine ⟨⟨Nat.le_of_ble_eq_true rfl, fun _ h => nomatch h⟩, ?_⟩ | refine ⟨Nat.le_of_ble_eq_true rfl, ?_⟩ | refine br_true ?_ | refine br_false ?_ | refine w_back rfl ?_ | refine wo rfl ?_)))
local macro_rules | `(tactic| walk_at "WQ") => `(tactic| (repeat (first | with_reducible refine ws_seq ?_ | with_reducible refine ws_asg ?_ | with_reducible refine ws_ret ?_ | with_reducible refine ws_expr ?_ | with_reducible refine ws_par ?_ | with_reducible refine ws_nx ?_ | with_reducible refine ws_raise ?_ | with_reducible refine o_TT ?_ | with_reducible refine ws_bk ?_ | with_reducible refine ws_ct ?_ | with_reducible refine ws_retN ?_ | with_reducible refine ws_st_nil ?_ | with_reducible refine ws_st_cons ?_ | with_reducible refine w_D ?_ | with_reducible refine w_x2 ?_ | with_reducible refine w_x1 ?_ | with_reducible refine w_notV ?_ | with_reducible refine w_Nil ?_ | with_reducible refine w_Cons ?_ | with_reducible refine w_N ?_ | with_reducible refine w_M ?_ | with_reducible refine w_Ty ?_ | with_reducible refine w_Tup ?_ | with_reducible refine w_LstF ?_ | with_reducible refine w_Fz ?_ | with_reducible refine w_T ?_ | with_reducible refine w_Tru ?_ | with_reducible refine w_And ?_ | with_reducible refine w_Or ?_ | with_reducible refine w_Not ?_ | with_reducible refine w_If ?_ | with_reducible refine w_OrV ?_ | with_reducible refine w_AndV ?_ | with_reducible refine w_Js_nil ?_ | with_reducible refine w_Js_cons ?_ | with_reducible refine w_Call ?_ | with_reducible refine w_Mut ?_ | with_reducible refine w_Yes ?_ | with_reducible refine w_gIx ?_ | with_reducible refine w_gS_nil ?_ | with_reducible refine w_gS_cons ?_ | with_reducible refine w_Sq ?_ | with_reducible refine w_Rg1 ?_ | with_reducible refine w_Rg2 ?_ | with_reducible refine w_NoPart ?_ | with_reducible refine w_Part ?_ | with_reducible refine w_Sl ?_ | with_reducible refine ws_aug ?_ | with_reducible refine o_addI ?_ | with_reducible refine o_find2 ?_ | with_reducible refine o_find3 ?_ | with_reducible refine o_add ?_ | with_reducible refine o_sub ?_ | with_reducible refine o_lt ?_ | with_reducible refine o_le ?_ | with_reducible refine o_gt ?_ | with_reducible refine o_ge ?_ | with_reducible refine o_eqI ?_ | with_reducible refine o_neI ?_ | with_reducible refine o_int ?_ | with_reducible refine o_intB ?_ | with_reducible refine o_gcd ?_ | with_reducible refine o_lenT ?_ | with_reducible refine o_lenL ?_ | with_reducible refine o_lenK ?_ | with_reducible refine o_lenO ?_ | with_reducible refine o_isN ?_ | with_reducible refine o_isB ?_ | with_reducible refine o_isnN ?_ | with_reducible refine o_isnB ?_ | with_reducible refine o_neg ?_ | with_reducible refine o_eqS ?_ | with_reducible refine o_neS ?_ | refine w_var rfl ?_ | refine w_gLs rfl ?_ | refine w_gS_cons ?_ | refine w_gS_nil ?_ | refine ws_st_cons ?_ | refine ws_st_nil ?_ | refine w_Js_cons ?_ | refine w_Js_nil ?_ | refine w_gNm rfl ?_ | refine w_gJ rfl (by assumption) ?_ | refine w_gTu rfl ?_ | refine o_isi (by decide) ?_ | refine o_mul (by first | exact cMul_r (by omega) (by omega) | exact cMul_l (by omega) (by omega)) ?_ | refine o_mul (by assumption) ?_ | refine o_mod (by omega) ?_ | refine o_fdivS (by omega) (by omega) ?_ | refine o_absN ?_ | refine ⟨⟨by omega, by omega⟩, ?_⟩ | refine ⟨⟨⟨by omega, by omega⟩, by omega, by omega⟩, ?_⟩ | refine ⟨@rfl _ _, ?_⟩ | refine ⟨⟨@rfl _ _, @rfl _ _⟩, ?_⟩ | refine ⟨_, rfl, ?_⟩ | refine ⟨⟨Nat.le_of_ble_eq_true rfl, fun _ h => nomatch h⟩, ?_⟩ | refine ⟨Nat.le_of_ble_eq_true rfl, ?_⟩ | refine br_true ?_ | refine br_false ?_ | refine w_back rfl ?_ | refine wo rfl ?_)))
local macro_rules | `(tactic| walk_at "WI") => `(tactic| (repeat (first | with_reducible refine ws_seq ?_ | with_reducible refine ws_asg ?_ | with_reducible refine ws_if ?_ | with_reducible refine ws_ret ?_ | with_reducible refine ws_expr ?_ | with_reducible refine ws_par ?_ | with_reducible refine ws_nx ?_ | with_reducible refine ws_raise ?_ | with_reducible refine o_TT ?_ | with_reducible refine ws_bk ?_ | with_reducible refine ws_ct ?_ | with_reducible refine ws_retN ?_ | with_reducible refine ws_st_nil ?_ | with_reducible refine ws_st_cons ?_ | with_reducible refine w_D ?_ | with_reducible refine w_x2 ?_ | with_reducible refine w_x1 ?_ | with_reducible refine w_notV ?_ | with_reducible refine w_Nil ?_ | with_reducible refine w_Cons ?_ | with_reducible refine w_N ?_ | with_reducible refine w_M ?_ | with_reducible refine w_Ty ?_ | with_reducible refine w_Tup ?_ | with_reducible refine w_LstF ?_ | with_reducible refine w_Fz ?_ | with_reducible refine w_T ?_ | with_reducible refine w_Tru ?_ | with_reducible refine w_And ?_ | with_reducible refine w_Or ?_ | with_reducible refine w_Not ?_ | with_reducible refine w_OrV ?_ | with_reducible refine w_AndV ?_ | with_reducible refine w_Js_nil ?_ | with_reducible refine w_Js_cons ?_ | with_reducible refine w_Call ?_ | with_reducible refine w_Mut ?_ | with_reducible refine w_Yes ?_ | with_reducible refine w_gIx ?_ | with_reducible refine w_gS_nil ?_ | with_reducible refine w_gS_cons ?_ | with_reducible refine w_Sq ?_ | with_reducible refine w_Rg1 ?_ | with_reducible refine w_Rg2 ?_ | with_reducible refine w_NoPart ?_ | with_reducible refine w_Part ?_ | with_reducible refine w_Sl ?_ | with_reducible refine ws_aug ?_ | with_reducible refine o_addI ?_ | with_reducible refine o_find2 ?_ | with_reducible refine o_find3 ?_ | with_reducible refine o_add ?_ | with_reducible refine o_sub ?_ | with_reducible refine o_lt ?_ | with_reducible refine o_le ?_ | with_reducible refine o_gt ?_ | with_reducible refine o_ge ?_ | with_reducible refine o_eqI ?_ | with_reducible refine o_neI ?_ | with_reducible refine o_int ?_ | with_reducible refine o_intB ?_ | with_reducible refine o_gcd ?_ | with_reducible refine o_lenT ?_ | with_reducible refine o_lenL ?_ | with_reducible refine o_lenK ?_ | with_reducible refine o_lenO ?_ | with_reducible refine o_isN ?_ | with_reducible refine o_isB ?_ | with_reducible refine o_isnN ?_ | with_reducible refine o_isnB ?_ | with_reducible refine o_neg ?_ | with_reducible refine o_eqS ?_ | with_reducible refine o_neS ?_ | refine w_var rfl ?_ | refine w_gLs rfl ?_ | refine w_gS_cons ?_ | refine w_gS_nil ?_ | refine ws_st_cons ?_ | refine ws_st_nil ?_ | refine w_Js_cons ?_ | refine w_Js_nil ?_ | refine w_gNm rfl ?_ | refine w_gJ rfl (by assumption) ?_ | refine w_gTu rfl ?_ | refine o_isi (by decide) ?_ | refine o_mul (by first | exact cMul_r (by omega) (by omega) | exact cMul_l (by omega) (by omega)) ?_ | refine o_mul (by assumption) ?_ | refine o_mod (by omega) ?_ | refine o_fdivS (by omega) (by omega) ?_ | refine o_absN ?_ | refine ⟨⟨by omega, by omega⟩, ?_⟩ | refine ⟨⟨⟨by omega, by omega⟩, by omega, by omega⟩, ?_⟩ | refine ⟨@rfl _ _, ?_⟩ | refine ⟨⟨@rfl _ _, @rfl _ _⟩, ?_⟩ | refine ⟨_, rfl, ?_⟩ | refine ⟨⟨Nat.le_of_ble_eq_true rfl, fun _ h => nomatch h⟩, ?_⟩ | refine ⟨Nat.le_of_ble_eq_true rfl, ?_⟩ | refine br_true ?_ | refine br_false ?_ | refine w_back rfl ?_ | refine wo rfl ?_)))
local macro_rules | `(tactic| walk_at "NE") => `(tactic| (dsimp only [List.set_cons_succ, List.set_cons_zero, frz]))
local macro_rules | `(tactic| walk_at "FIN") => `(tactic| (first | rfl | exact ⟨rfl, rfl⟩ | exact trivial | exact ⟨trivial, rfl⟩ | exact ⟨trivial, trivial⟩ | exact ⟨rfl, trivial⟩))
theorem s78 : Str.ofString "N" = ⟨#[78]⟩ := by decide +kernel
theorem s84 : Str.ofString "T" = ⟨#[84]⟩ := by decide +kernel
theorem s70 : Str.ofString "F" = ⟨#[70]⟩ := by decide +kernel
theorem s40 : Str.ofString "(" = ⟨#[40]⟩ := by decide +kernel
theorem s41 : Str.ofString ")" = ⟨#[41]⟩ := by decide +kernel
theorem s32 : Str.ofString " " = ⟨#[32]⟩ := by decide +kernel
theorem o_appD {ds : List Dat} {d : Dat} {k : OT × OT → Prop} (h : ds.length < 16777216) (q : k (.lst ((ds ++ [d]).map .fz), .fz .non)) : Wo (muF muAppend (.lst (ds.map .fz)) [.fz d]) k :=
  o_app (by rw [List.length_map]; exact h) (by
    have e : OT.lst (ds.map .fz ++ [.fz d]) = .lst ((ds ++ [d]).map .fz) := by simp
    rw [e]
    exact q)
/-- what value_at is to answer with the parser's fuel f -/
def ValS (f : Nat) : Prop := ∀ (t : Str) (n deep p : Nat) (S : List Nat), OkT t → deep ≤ 40 → 2 * (40 - deep) + 1 ≤ n → 2 * S.length + 2 ≤ f → At t p S →
  Wf (F_value_at n) [.fz (.str t), .fz (.int (p : Int)), .fz (.int (deep : Int))] (QX (valP f deep p S)) (EX (valP f deep p S))
def tupQ (f deep p : Nat) (S : List Nat) : PR := if S.head? = some 41 then .ok (.tup []) (p + 1) S.tail else tupP f deep p S []
def TupS (f : Nat) : Prop := ∀ (t : Str) (n deep p : Nat) (S : List Nat), OkT t → deep ≤ 40 → 2 * (40 - deep) + 2 ≤ n → 2 * S.length + 3 ≤ f → At t p S →
  Wf (F_tuple_at n) [.fz (.str t), .fz (.int (p : Int)), .fz (.int (deep : Int))] (QX (tupQ f deep p S)) (EX (tupQ f deep p S))
/-- between two members -/
def TU (t : Str) (deep : Nat) (R : PR) (F m : Nat) (ρ : Lay.Env) : Prop := ∃ (f p : Nat) (S : List Nat) (acc : List Dat) (s4 s5 : Sl), At t p S ∧ tupP f deep p S acc = R ∧ 2 * S.length + 3 ≤ f ∧ f ≤ F ∧ S.length = m ∧ acc.length ≤ p ∧ Jk s4 ∧ Jk s5 ∧
  ρ = [.vl (.fz (.str t)), .vl (.fz (.int (p : Int))), .vl (.fz (.int (deep : Int))), .vl (.lst (acc.map .fz)), s4, s5]
theorem QX.val {f deep p : Nat} {S : List Nat} {t : Str} {r out : OT} (hd : deep ≤ 40) (h : At t p S) (q : QX (valP f deep p S) r out) : ∃ d p' S', valP f deep p S = .ok d p' S' ∧ r = .fz (.tup [d, .int (p' : Int)]) ∧ out = .fz .non ∧ At t p' S' ∧ p < p' ∧ solid d = true := by
  obtain ⟨d, p', S', e, h1, h2⟩ := q
  obtain ⟨a1, a2, a3⟩ := valP_at f deep p S d p' S' hd h e
  exact ⟨d, p', S', e, h1, h2, a1, a2, vd_solid _ _ a3⟩
def tupStep (g deep p' : Nat) (S' : List Nat) (acc : List Dat) (d : Dat) : PR := match S' with
  | [] => .bad p'
  | c :: R => if c = 41 then .ok (.tup (acc ++ [d])) (p' + 1) R else if c = 32 then tupP g deep (p' + 1) R (acc ++ [d]) else .bad p'
theorem tupP_ok {g deep p1 p' : Nat} {S1 S' : List Nat} {acc : List Dat} {d : Dat} (e : valP g deep p1 S1 = .ok d p' S') : tupP (g + 1) deep p1 S1 acc = tupStep g deep p' S' acc d := by
  conv => lhs; unfold tupP
  rw [e]
  rfl
theorem tupP_bad {g deep p1 q : Nat} {S1 : List Nat} {acc : List Dat} (e : valP g deep p1 S1 = .bad q) : tupP (g + 1) deep p1 S1 acc = .bad q := by
  conv => lhs; unfold tupP
  rw [e]
theorem tup_of {F : Nat} (IH : ∀ f, f < F → ValS f) : TupS F := by
  intro t n deep p S ok hd hn hF h
  have hl := ok.len
  have tn := h.len
  obtain ⟨n, rfl⟩ : ∃ m, n = m + 1 := ⟨n - 1, by omega⟩
  by_cases h41 : S.head? = some 41
  · cases S with
    | nil => cases h41
    | cons c R =>
      obtain rfl : c = 41 := Option.some.inj h41
      refine Wf.run ?_
      show Ws (G_tuple_at _ _) [.vl _, .vl _, .vl _, .un, .un, .un] _
      unfold G_tuple_at
      walk_at "WP"
      refine o_slS (by show _ ≤ 16777216; omega) ?_
      rw [h.cut]
      rw [show (List.take 1 (41 :: R)).toArray = #[41] from rfl]
      walk_at "WP"
      refine ⟨.tup [], p + 1, R, rfl, rfl, rfl⟩
  have etq : tupQ F deep p S = tupP F deep p S [] := if_neg h41
  rw [etq]
  refine Wf.run ?_
  show Ws (G_tuple_at _ _) [.vl _, .vl _, .vl _, .un, .un, .un] _
  unfold G_tuple_at
  walk_at "WQ"
  refine ws_JE ?_ ?_
  · walk_at "WP"
    refine o_slS (by show _ ≤ 16777216; omega) ?_
    rw [h.cut]
    cases S with
    | nil =>
      rw [show (List.take 1 ([] : List Nat)).toArray = #[] from rfl]
      walk_at "WP"
      walk_at "FIN"
    | cons c R =>
      rw [show (List.take 1 (c :: R)).toArray = #[c] from rfl]
      walk_at "WP"
      refine br_dec (fun h => absurd (by rw [(eq_one s41).mp h]; rfl) h41) (fun h => ?_)
      walk_at "WP"
      walk_at "FIN"
  walk_at "WP"
  walk_at "NE"
  refine ws_while (TU t deep (tupP F deep p S []) F) S.length (by omega) ⟨F, p, S, [], _, _, h, rfl, hF, Nat.le_refl _, rfl, by simp, jk_un, jk_un, rfl⟩ ?_
  rintro m ρ ⟨f, p1, S1, acc, s4, s5, a1, a2, a3, a4, a5, a6, j4, j5, rfl⟩
  have tn1 := a1.len
  obtain ⟨g, rfl⟩ : ∃ g, f = g + 1 := ⟨f - 1, by omega⟩
  walk_at "WP"
  refine Wf.goE (IH g (by omega) t n deep p1 S1 ok hd (by omega) (by omega) a1) (fun r out q => ?_) (fun x out q => ?_)
  · obtain ⟨d, p', S', e, rfl, rfl, at', lt, sd⟩ := q.val hd a1
    have tn2 := at'.len
    have ea : tupP (g + 1) deep p1 S1 acc = tupStep g deep p' S' acc d := tupP_ok e
    refine w_backT (by show ((solid d && (true && true)) && true) = true; rw [sd]; rfl) ?_
    walk_at "WP"
    walk_at "NE"
    refine o_appD (by omega) ?_
    walk_at "WP"
    refine o_slS (by show _ ≤ 16777216; omega) ?_
    rw [at'.cut]
    cases S' with
    | nil =>
      rw [show (List.take 1 ([] : List Nat)).toArray = #[] from rfl]
      walk_at "WP"
      refine o_exc1 (scal_pos (by omega)) ?_
      refine wo rfl ?_
      refine ⟨p', ?_, rfl, rfl⟩
      rw [← a2, ea]
      rfl
    | cons c R =>
      have ck := ok.sg c (At.mem at' c List.mem_cons_self)
      have ea : tupP (g + 1) deep p1 S1 acc = if c = 41 then .ok (.tup (acc ++ [d])) (p' + 1) R else if c = 32 then tupP g deep (p' + 1) R (acc ++ [d]) else .bad p' := ea
      rw [show (List.take 1 (c :: R)).toArray = #[c] from rfl]
      walk_at "WP"
      refine br_dec (fun h => ?_) (fun h => ?_)
      · have c41 := (eq_one s41).mp h
        subst c41
        walk_at "WP"
        refine o_tupL (ds := acc ++ [d]) ?_
        walk_at "WP"
        refine ⟨.tup (acc ++ [d]), p' + 1, R, ?_, rfl, rfl⟩
        rw [← a2, ea]
        exact if_pos rfl
      have n41 : c ≠ 41 := fun z => h ((eq_one s41).mpr z)
      rw [if_neg n41] at ea
      walk_at "WP"
      refine br_not (br_dec (fun h => ?_) (fun h => ?_))
      · have c32 := (eq_one s32).mp h
        subst c32
        rw [if_pos rfl] at ea
        walk_at "WP"
        walk_at "NE"
        have rl : (32 :: R).length = R.length + 1 := List.length_cons
        refine ⟨R.length, by omega, g, p' + 1, R, acc ++ [d], _, _, at'.next, ?_, by omega, by omega, rfl, ?_, jk_vl, jk_vl, rfl⟩
        · rw [← a2, ea]
        · rw [List.length_append, List.length_singleton]; omega
      have n32 : c ≠ 32 := fun z => h ((eq_one s32).mpr z)
      rw [if_neg n32] at ea
      walk_at "WP"
      refine o_exc1 (scal_pos (by omega)) ?_
      refine wo rfl ?_
      refine ⟨p', ?_, rfl, rfl⟩
      rw [← a2, ea]
  · obtain ⟨q', e, rfl, rfl⟩ := q
    refine wo rfl ?_
    refine wo rfl ?_
    refine ⟨q', ?_, rfl, rfl⟩
    rw [← a2, tupP_bad e]
end K22

namespace K22
open PySem PySem.Spec L2 Lay Com TL T21 T22
local macro_rules | `(tactic| walk_at "WP") => `(tactic| (repeat (first | with_reducible refine ws_seq ?_ | with_reducible refine ws_asg ?_ | with_reducible refine ws_if ?_ | with_reducible refine ws_ret ?_ | with_reducible refine ws_expr ?_ | with_reducible refine ws_par ?_ | with_reducible refine ws_nx ?_ | with_reducible refine ws_raise ?_ | with_reducible refine o_TT ?_ | with_reducible refine ws_bk ?_ | with_reducible refine ws_ct ?_ | with_reducible refine ws_retN ?_ | with_reducible refine ws_st_nil ?_ | with_reducible refine ws_st_cons ?_ | with_reducible refine w_D ?_ | with_reducible refine w_x2 ?_ | with_reducible refine w_x1 ?_ | with_reducible refine w_notV ?_ | with_reducible refine w_Nil ?_ | with_reducible refine w_Cons ?_ | with_reducible refine w_N ?_ | with_reducible refine w_M ?_ | with_reducible refine w_Ty ?_ | with_reducible refine w_Tup ?_ | with_reducible refine w_LstF ?_ | with_reducible refine w_Fz ?_ | with_reducible refine w_T ?_ | with_reducible refine w_Tru ?_ | with_reducible refine w_And ?_ | with_reducible refine w_Or ?_ | with_reducible refine w_Not ?_ | with_reducible refine w_If ?_ | with_reducible refine w_OrV ?_ | with_reducible refine w_AndV ?_ | with_reducible refine w_Js_nil ?_ | with_reducible refine w_Js_cons ?_ | with_reducible refine w_Call ?_ | with_reducible refine w_Mut ?_ | with_reducible refine w_Yes ?_ | with_reducible refine w_gIx ?_ | with_reducible refine w_gS_nil ?_ | with_reducible refine w_gS_cons ?_ | with_reducible refine w_Sq ?_ | with_reducible refine w_Rg1 ?_ | with_reducible refine w_Rg2 ?_ | with_reducible refine w_NoPart ?_ | with_reducible refine w_Part ?_ | with_reducible refine w_Sl ?_ | with_reducible refine ws_aug ?_ | with_reducible refine o_addI ?_ | with_reducible refine o_find2 ?_ | with_reducible refine o_find3 ?_ | with_reducible refine o_add ?_ | with_reducible refine o_sub ?_ | with_reducible refine o_lt ?_ | with_reducible refine o_le ?_ | with_reducible refine o_gt ?_ | with_reducible refine o_ge ?_ | with_reducible refine o_eqI ?_ | with_reducible refine o_neI ?_ | with_reducible refine o_int ?_ | with_reducible refine o_intB ?_ | with_reducible refine o_gcd ?_ | with_reducible refine o_lenT ?_ | with_reducible refine o_lenL ?_ | with_reducible refine o_lenK ?_ | with_reducible refine o_lenO ?_ | with_reducible refine o_isN ?_ | with_reducible refine o_isB ?_ | with_reducible refine o_isnN ?_ | with_reducible refine o_isnB ?_ | with_reducible refine o_neg ?_ | with_reducible refine o_eqS ?_ | with_reducible refine o_neS ?_ | refine w_var rfl ?_ | refine w_gLs rfl ?_ | refine w_gS_cons ?_ | refine w_gS_nil ?_ | refine ws_st_cons ?_ | refine ws_st_nil ?_ | refine w_Js_cons ?_ | refine w_Js_nil ?_ | refine w_gNm rfl ?_ | refine w_gJ rfl (by assumption) ?_ | refine w_gTu rfl ?_ | refine o_isi (by decide) ?_ | refine o_mul (by first | exact cMul_r (by omega) (by omega) | exact cMul_l (by omega) (by omega)) ?_ | refine o_mul (by assumption) ?_ | refine o_mod (by omega) ?_ | refine o_fdivS (by omega) (by omega) ?_ | refine o_absN ?_ | refine ⟨⟨by omega, by omega⟩, ?_⟩ | refine ⟨⟨⟨by omega, by omega⟩, by omega, by omega⟩, ?_⟩ | refine ⟨@rfl _ _, ?_⟩ | refine ⟨⟨@rfl _ _, @rfl _ _⟩, ?_⟩ | refine ⟨_, rfl, ?_⟩ | refine ⟨⟨Nat.le_of_ble_eq_true rfl, fun _ h => nomatch h⟩, ?_⟩ | refine ⟨Nat.le_of_ble_eq_true rfl, ?_⟩ | refine br_true ?_ | refine br_false ?_ | refine w_back rfl ?_ | refine wo rfl ?_)))
local macro_rules | `(tactic| walk_at "WQ") => `(tactic| (repeat (first | with_reducible refine ws_seq ?_ | with_reducible refine ws_asg ?_ | with_reducible refine ws_ret ?_ | with_reducible refine ws_expr ?_ | with_reducible refine ws_par ?_ | with_reducible refine ws_nx ?_ | with_reducible refine ws_raise ?_ | with_reducible refine o_TT ?_ | with_reducible refine ws_bk ?_ | with_reducible refine ws_ct ?_ | with_reducible refine ws_retN ?_ | with_reducible refine ws_st_nil ?_ | with_reducible refine ws_st_cons ?_ | with_reducible refine w_D ?_ | with_reducible refine w_x2 ?_ | with_reducible refine w_x1 ?_ | with_reducible refine w_notV ?_ | with_reducible refine w_Nil ?_ | with_reducible refine w_Cons ?_ | with_reducible refine w_N ?_ | with_reducible refine w_M ?_ | with_reducible refine w_Ty ?_ | with_reducible refine w_Tup ?_ | with_reducible refine w_LstF ?_ | with_reducible refine w_Fz ?_ | with_reducible refine w_T ?_ | with_reducible refine w_Tru ?_ | with_reducible refine w_And ?_ | with_reducible refine w_Or ?_ | with_reducible refine w_Not ?_ | with_reducible refine w_If ?_ | with_reducible refine w_OrV ?_ | with_reducible refine w_AndV ?_ | with_reducible refine w_Js_nil ?_ | with_reducible refine w_Js_cons ?_ | with_reducible refine w_Call ?_ | with_reducible refine w_Mut ?_ | with_reducible refine w_Yes ?_ | with_reducible refine w_gIx ?_ | with_reducible refine w_gS_nil ?_ | with_reducible refine w_gS_cons ?_ | with_reducible refine w_Sq ?_ | with_reducible refine w_Rg1 ?_ | with_reducible refine w_Rg2 ?_ | with_reducible refine w_NoPart ?_ | with_reducible refine w_Part ?_ | with_reducible refine w_Sl ?_ | with_reducible refine ws_aug ?_ | with_reducible refine o_addI ?_ | with_reducible refine o_find2 ?_ | with_reducible refine o_find3 ?_ | with_reducible refine o_add ?_ | with_reducible refine o_sub ?_ | with_reducible refine o_lt ?_ | with_reducible refine o_le ?_ | with_reducible refine o_gt ?_ | with_reducible refine o_ge ?_ | with_reducible refine o_eqI ?_ | with_reducible refine o_neI ?_ | with_reducible refine o_int ?_ | with_reducible refine o_intB ?_ | with_reducible refine o_gcd ?_ | with_reducible refine o_lenT ?_ | with_reducible refine o_lenL ?_ | with_reducible refine o_lenK ?_ | with_reducible refine o_lenO ?_ | with_reducible refine o_isN ?_ | with_reducible refine o_isB ?_ | with_reducible refine o_isnN ?_ | with_reducible refine o_isnB ?_ | with_reducible refine o_neg ?_ | with_reducible refine o_eqS ?_ | with_reducible refine o_neS ?_ | refine w_var rfl ?_ | refine w_gLs rfl ?_ | refine w_gS_cons ?_ | refine w_gS_nil ?_ | refine ws_st_cons ?_ | refine ws_st_nil ?_ | refine w_Js_cons ?_ | refine w_Js_nil ?_ | refine w_gNm rfl ?_ | refine w_gJ rfl (by assumption) ?_ | refine w_gTu rfl ?_ | refine o_isi (by decide) ?_ | refine o_mul (by first | exact cMul_r (by omega) (by omega) | exact cMul_l (by omega) (by omega)) ?_ | refine o_mul (by assumption) ?_ | refine o_mod (by omega) ?_ | refine o_fdivS (by omega) (by omega) ?_ | refine o_absN ?_ | refine ⟨⟨by omega, by omega⟩, ?_⟩ | refine ⟨⟨⟨by omega, by omega⟩, by omega, by omega⟩, ?_⟩ | refine ⟨@rfl _ _, ?_⟩ | refine ⟨⟨@rfl _ _, @rfl _ _⟩, ?_⟩ | refine ⟨_, rfl, ?_⟩ | refine ⟨⟨Nat.le_of_ble_eq_true rfl, fun _ h => nomatch h⟩, ?_⟩ | refine ⟨Nat.le_of_ble_eq_true rfl, ?_⟩ | refine br_true ?_ | refine br_false ?_ | refine w_back rfl ?_ | refine wo rfl ?_)))
local macro_rules | `(tactic| walk_at "WI") => `(tactic| (repeat (first | with_reducible refine ws_seq ?_ | with_reducible refine ws_asg ?_ | with_reducible refine ws_if ?_ | with_reducible refine ws_ret ?_ | with_reducible refine ws_expr ?_ | with_reducible refine ws_par ?_ | with_reducible refine ws_nx ?_ | with_reducible refine ws_raise ?_ | with_reducible refine o_TT ?_ | with_reducible refine ws_bk ?_ | with_reducible refine ws_ct ?_ | with_reducible refine ws_retN ?_ | with_reducible refine ws_st_nil ?_ | with_reducible refine ws_st_cons ?_ | with_reducible refine w_D ?_ | with_reducible refine w_x2 ?_ | with_reducible refine w_x1 ?_ | with_reducible refine w_notV ?_ | with_reducible refine w_Nil ?_ | with_reducible refine w_Cons ?_ | with_reducible refine w_N ?_ | with_reducible refine w_M ?_ | with_reducible refine w_Ty ?_ | with_reducible refine w_Tup ?_ | with_reducible refine w_LstF ?_ | with_reducible refine w_Fz ?_ | with_reducible refine w_T ?_ | with_reducible refine w_Tru ?_ | with_reducible refine w_And ?_ | with_reducible refine w_Or ?_ | with_reducible refine w_Not ?_ | with_reducible refine w_OrV ?_ | with_reducible refine w_AndV ?_ | with_reducible refine w_Js_nil ?_ | with_reducible refine w_Js_cons ?_ | with_reducible refine w_Call ?_ | with_reducible refine w_Mut ?_ | with_reducible refine w_Yes ?_ | with_reducible refine w_gIx ?_ | with_reducible refine w_gS_nil ?_ | with_reducible refine w_gS_cons ?_ | with_reducible refine w_Sq ?_ | with_reducible refine w_Rg1 ?_ | with_reducible refine w_Rg2 ?_ | with_reducible refine w_NoPart ?_ | with_reducible refine w_Part ?_ | with_reducible refine w_Sl ?_ | with_reducible refine ws_aug ?_ | with_reducible refine o_addI ?_ | with_reducible refine o_find2 ?_ | with_reducible refine o_find3 ?_ | with_reducible refine o_add ?_ | with_reducible refine o_sub ?_ | with_reducible refine o_lt ?_ | with_reducible refine o_le ?_ | with_reducible refine o_gt ?_ | with_reducible refine o_ge ?_ | with_reducible refine o_eqI ?_ | with_reducible refine o_neI ?_ | with_reducible refine o_int ?_ | with_reducible refine o_intB ?_ | with_reducible refine o_gcd ?_ | with_reducible refine o_lenT ?_ | with_reducible refine o_lenL ?_ | with_reducible refine o_lenK ?_ | with_reducible refine o_lenO ?_ | with_reducible refine o_isN ?_ | with_reducible refine o_isB ?_ | with_reducible refine o_isnN ?_ | with_reducible refine o_isnB ?_ | with_reducible refine o_neg ?_ | with_reducible refine o_eqS ?_ | with_reducible refine o_neS ?_ | refine w_var rfl ?_ | refine w_gLs rfl ?_ | refine w_gS_cons ?_ | refine w_gS_nil ?_ | refine ws_st_cons ?_ | refine ws_st_nil ?_ | refine w_Js_cons ?_ | refine w_Js_nil ?_ | refine w_gNm rfl ?_ | refine w_gJ rfl (by assumption) ?_ | refine w_gTu rfl ?_ | refine o_isi (by decide) ?_ | refine o_mul (by first | exact cMul_r (by omega) (by omega) | exact cMul_l (by omega) (by omega)) ?_ | refine o_mul (by assumption) ?_ | refine o_mod (by omega) ?_ | refine o_fdivS (by omega) (by omega) ?_ | refine o_absN ?_ | refine ⟨⟨by omega, by omega⟩, ?_⟩ | refine ⟨⟨⟨by omega, by omega⟩, by omega, by omega⟩, ?_⟩ | refine ⟨@rfl _ _, ?_⟩ | refine ⟨⟨@rfl _ _, @rfl _ _⟩, ?_⟩ | refine ⟨_, rfl, ?_⟩ | refine ⟨⟨Nat.le_of_ble_eq_true rfl, fun _ h => nomatch h⟩, ?_⟩ | refine ⟨Nat.le_of_ble_eq_true rfl, ?_⟩ | refine br_true ?_ | refine br_false ?_ | refine w_back rfl ?_ | refine wo rfl ?_)))
local macro_rules | `(tactic| walk_at "NE") => `(tactic| (dsimp only [List.set_cons_succ, List.set_cons_zero, frz]))
local macro_rules | `(tactic| walk_at "FIN") => `(tactic| (first | rfl | exact ⟨rfl, rfl⟩ | exact trivial | exact ⟨trivial, rfl⟩ | exact ⟨trivial, trivial⟩ | exact ⟨rfl, trivial⟩))
theorem val_all : ∀ f, ValS f := by
  intro f
  induction f using Nat.strongRecOn with
  | _ f IH =>
  intro t n deep p S ok hd hn hf h
  have hl := ok.len
  have tn := h.len
  obtain ⟨f, rfl⟩ : ∃ g, f = g + 1 := ⟨f - 1, by omega⟩
  obtain ⟨n, rfl⟩ : ∃ m, n = m + 1 := ⟨n - 1, by omega⟩
  have num : ∀ {S : List Nat}, At t p S → valP (f + 1) deep p S = numP S p → Wf F_integer_at [.fz (.str t), .fz (.int (p : Int))] (fun r out => ∃ d p', r = .fz (.tup [.int d, .int p']) ∧ out = .fz .non ∧ QX (valP (f + 1) deep p S) r out) (EX (valP (f + 1) deep p S)) := by
    intro S h e
    rw [e]
    refine (integer_spec ok h).goE (fun r out q => ?_) (fun x out q => q)
    obtain ⟨d, p', S', e1, rfl, rfl⟩ := id q
    obtain ⟨_, _, i, rfl⟩ := numP_at h e1
    exact ⟨i, p', rfl, rfl, q⟩
  cases S with
  | nil =>
    refine Wf.run ?_
    show Ws (G_value_at _ _) [.vl _, .vl _, .vl _, .un] _
    unfold G_value_at
    walk_at "WP"
    refine o_slS (by show _ ≤ 16777216; omega) ?_
    rw [h.cut]
    rw [show (List.take 1 ([] : List Nat)).toArray = #[] from rfl]
    walk_at "WP"
    refine (num h rfl).goE (fun r out q => ?_) (fun x out q => ?_)
    · obtain ⟨d, p', rfl, rfl, q⟩ := q
      walk_at "WP"
      exact q
    · obtain ⟨q', e, rfl, rfl⟩ := q
      refine wo rfl ?_
      refine wo rfl ?_
      exact ⟨q', e, rfl, rfl⟩
  | cons c R =>
    have ck := ok.sg c (At.mem h c List.mem_cons_self)
    have cut := h.cut
    rw [show (List.take 1 (c :: R)).toArray = #[c] from rfl] at cut
    rw [List.length_cons] at hf tn
    by_cases c78 : c = 78
    · subst c78
      refine Wf.run ?_
      show Ws (G_value_at _ _) [.vl _, .vl _, .vl _, .un] _
      unfold G_value_at
      walk_at "WP"
      refine o_slS (by show _ ≤ 16777216; omega) ?_
      rw [cut]
      walk_at "WP"
      exact ⟨.non, p + 1, R, rfl, rfl, rfl⟩
    by_cases c84 : c = 84
    · subst c84
      refine Wf.run ?_
      show Ws (G_value_at _ _) [.vl _, .vl _, .vl _, .un] _
      unfold G_value_at
      walk_at "WP"
      refine o_slS (by show _ ≤ 16777216; omega) ?_
      rw [cut]
      walk_at "WP"
      exact ⟨.bl true, p + 1, R, rfl, rfl, rfl⟩
    by_cases c70 : c = 70
    · subst c70
      refine Wf.run ?_
      show Ws (G_value_at _ _) [.vl _, .vl _, .vl _, .un] _
      unfold G_value_at
      walk_at "WP"
      refine o_slS (by show _ ≤ 16777216; omega) ?_
      rw [cut]
      walk_at "WP"
      exact ⟨.bl false, p + 1, R, rfl, rfl, rfl⟩
    by_cases c34 : c = 34
    · subst c34
      have e0 : valP (f + 1) deep p (34 :: R) = textP R (p + 1) [] := rfl
      refine Wf.run ?_
      show Ws (G_value_at _ _) [.vl _, .vl _, .vl _, .un] _
      unfold G_value_at
      walk_at "WP"
      refine o_slS (by show _ ≤ 16777216; omega) ?_
      rw [cut]
      walk_at "WP"
      refine (text_spec ok h.next).goE (fun r out q => ?_) (fun x out q => ?_)
      · rw [e0]
        obtain ⟨d, p', S', e1, rfl, rfl⟩ := id q
        obtain ⟨_, _, s, rfl, _⟩ := textP_at R _ _ d p' S' h.next e1
        walk_at "WP"
        exact q
      · obtain ⟨q', e, rfl, rfl⟩ := q
        refine wo rfl ?_
        refine wo rfl ?_
        exact ⟨q', e, rfl, rfl⟩
    by_cases c40 : c = 40
    · subst c40
      by_cases h40 : deep = 40
      · subst h40
        refine Wf.run ?_
        show Ws (G_value_at _ _) [.vl _, .vl _, .vl _, .un] _
        unfold G_value_at
        walk_at "WP"
        refine o_slS (by show _ ≤ 16777216; omega) ?_
        rw [cut]
        unfold C_MOST_BRACKETS
        walk_at "WP"
        refine o_exc1 (scal_pos (by omega)) ?_
        refine wo rfl ?_
        exact ⟨p, rfl, rfl, rfl⟩
      have e0 : valP (f + 1) deep p (40 :: R) = tupQ f (deep + 1) (p + 1) R := by
        show (if deep = 40 then _ else _) = _
        rw [if_neg h40]
        rfl
      have q := tup_of (F := f) (fun g hg => IH g (by omega)) t n (deep + 1) (p + 1) R ok (by omega) (by omega) (by omega) h.next
      refine Wf.run ?_
      show Ws (G_value_at _ _) [.vl _, .vl _, .vl _, .un] _
      unfold G_value_at
      walk_at "WP"
      refine o_slS (by show _ ≤ 16777216; omega) ?_
      rw [cut]
      unfold C_MOST_BRACKETS
      walk_at "WP"
      refine br_dec (fun z => ?_) (fun z => ?_)
      · exfalso; omega
      walk_at "WP"
      refine q.goE (fun r out q => ?_) (fun x out q => ?_)
      · rw [← e0] at q
        obtain ⟨d, p', S', e1, rfl, rfl, a1, a2, sd⟩ := q.val hd h
        refine w_backT (by show ((solid d && (true && true)) && true) = true; rw [sd]; rfl) ?_
        walk_at "WP"
        exact ⟨d, p', S', e1, rfl, rfl⟩
      · obtain ⟨q', e, rfl, rfl⟩ := q
        refine wo rfl ?_
        refine wo rfl ?_
        exact ⟨q', e0.trans e, rfl, rfl⟩
    have e0 : valP (f + 1) deep p (c :: R) = numP (c :: R) p := by
      show (if c = 78 then _ else if c = 84 then _ else if c = 70 then _ else if c = 34 then _ else if c = 40 then _ else _) = _
      rw [if_neg c78, if_neg c84, if_neg c70, if_neg c34, if_neg c40]
    have no : ∀ {s : String} {k : Nat}, Str.ofString s = ⟨#[k]⟩ → c ≠ k → ¬ (⟨#[c]⟩ : Str) = Str.ofString s := fun hs hk h => hk ((eq_one hs).mp h)
    refine Wf.run ?_
    show Ws (G_value_at _ _) [.vl _, .vl _, .vl _, .un] _
    unfold G_value_at
    walk_at "WP"
    refine o_slS (by show _ ≤ 16777216; omega) ?_
    rw [cut]
    walk_at "WP"
    refine br_dec (fun z => absurd z (no s78 c78)) (fun z => ?_)
    walk_at "WP"
    refine br_dec (fun z => absurd z (no s84 c84)) (fun z => ?_)
    walk_at "WP"
    refine br_dec (fun z => absurd z (no s70 c70)) (fun z => ?_)
    walk_at "WP"
    refine br_dec (fun z => absurd z (no s34 c34)) (fun z => ?_)
    walk_at "WP"
    refine br_dec (fun z => absurd z (no s40 c40)) (fun z => ?_)
    walk_at "WP"
    refine (num h e0).goE (fun r out q => ?_) (fun x out q => ?_)
    · obtain ⟨d, p', rfl, rfl, q⟩ := q
      walk_at "WP"
      exact q
    · obtain ⟨q', e, rfl, rfl⟩ := q
      refine wo rfl ?_
      refine wo rfl ?_
      exact ⟨q', e, rfl, rfl⟩
/-- a whole text -/
def readP (t : Str) : Dat := match valP (2 * t.length + 2) 0 0 (tl t) with
  | .bad q => .tup [.str "bad", .int (q : Int)]
  | .ok d p S => if p < t.length then .tup [.str "bad", .int (p : Int)] else .tup [.str "good", d]
theorem at_zero (t : Str) : At t 0 (tl t) := ⟨[], rfl, rfl⟩
theorem told_spec {t : Str} (ok : OkT t) : Wf F__law_told [.fz (.str t)] (fun r out => r = .fz (readP t) ∧ out = .fz .non) nX := by
  have hl := ok.len
  have q := val_all (2 * t.length + 2) t 128 0 0 (tl t) ok (by decide) (by decide) (by rw [len_tl]; omega) (at_zero t)
  have rd : Wf F_read_plain [.fz (.str t)] (fun r out => ∃ d, r = .fz d ∧ out = .fz .non ∧ solid d = true ∧ readP t = .tup [.str "good", d]) (fun x out => ∃ k : Nat, x = bp k ∧ out = .fz .non ∧ readP t = .tup [.str "bad", .int (k : Int)]) := by
    refine Wf.run ?_
    show Ws G_read_plain [.vl _, .un, .un] _
    unfold G_read_plain
    walk_at "WP"
    refine Wf.goE q (fun r out q => ?_) (fun x out q => ?_)
    · obtain ⟨d, p', S', e1, rfl, rfl, a1, a2, sd⟩ := q.val (by decide) (at_zero t)
      have tn := a1.len
      refine w_backT (by show ((solid d && (true && true)) && true) = true; rw [sd]; rfl) ?_
      walk_at "WP"
      walk_at "NE"
      refine o_lenS (by show _ ≤ 16777216; omega) ?_
      walk_at "WP"
      refine br_dec (fun h => ?_) (fun h => ?_)
      · walk_at "WP"
        refine o_exc1 (scal_pos (by omega)) ?_
        refine wo rfl ?_
        refine ⟨p', rfl, rfl, ?_⟩
        unfold readP
        rw [e1]
        exact if_pos (by omega)
      · walk_at "WP"
        refine ⟨sd, ?_⟩
        unfold readP
        rw [e1]
        exact if_neg (by omega)
    · obtain ⟨k, e, rfl, rfl⟩ := q
      refine wo rfl ?_
      refine wo rfl ?_
      refine ⟨k, rfl, rfl, ?_⟩
      unfold readP
      rw [e]
  refine Wf.run ?_
  show Ws G__law_told [.vl _, .un] _
  unfold G__law_told
  refine ws_tryX ?_
  walk_at "WP"
  refine Wf.goE rd (fun r out q => ?_) (fun x out q => ?_)
  · obtain ⟨d, rfl, rfl, sd, e⟩ := q
    refine w_backT (by show (solid d && true) = true; rw [sd]; rfl) ?_
    walk_at "WP"
    rw [e]
    walk_at "FIN"
  · obtain ⟨k, rfl, rfl, e⟩ := q
    refine wo rfl ?_
    refine ⟨rfl, _, _, rfl, rfl, by show 2 ≤ 100; omega, ?_⟩
    refine wo rfl ?_
    exact ⟨by rw [e], rfl⟩
end K22

namespace K22
open PySem PySem.Spec L2 Lay Com TL T21 T22
local macro_rules | `(tactic| walk_at "WP") => `(tactic| (repeat (first | with_reducible refine ws_seq ?_ | with_reducible refine ws_asg ?_ | with_reducible refine ws_if ?_ | with_reducible refine ws_ret ?_ | with_reducible refine ws_expr ?_ | with_reducible refine ws_par ?_ | with_reducible refine ws_nx ?_ | with_reducible refine ws_raise ?_ | with_reducible refine o_TT ?_ | with_reducible refine ws_bk ?_ | with_reducible refine ws_ct ?_ | with_reducible refine ws_retN ?_ | with_reducible refine ws_st_nil ?_ | with_reducible refine ws_st_cons ?_ | with_reducible refine w_D ?_ | with_reducible refine w_x2 ?_ | with_reducible refine w_x1 ?_ | with_reducible refine w_notV ?_ | with_reducible refine w_Nil ?_ | with_reducible refine w_Cons ?_ | with_reducible refine w_N ?_ | with_reducible refine w_M ?_ | with_reducible refine w_Ty ?_ | with_reducible refine w_Tup ?_ | with_reducible refine w_LstF ?_ | with_reducible refine w_Fz ?_ | with_reducible refine w_T ?_ | with_reducible refine w_Tru ?_ | with_reducible refine w_And ?_ | with_reducible refine w_Or ?_ | with_reducible refine w_Not ?_ | with_reducible refine w_If ?_ | with_reducible refine w_OrV ?_ | with_reducible refine w_AndV ?_ | with_reducible refine w_Js_nil ?_ | with_reducible refine w_Js_cons ?_ | with_reducible refine w_Call ?_ | with_reducible refine w_Mut ?_ | with_reducible refine w_Yes ?_ | with_reducible refine w_gIx ?_ | with_reducible refine w_gS_nil ?_ | with_reducible refine w_gS_cons ?_ | with_reducible refine w_Sq ?_ | with_reducible refine w_Rg1 ?_ | with_reducible refine w_Rg2 ?_ | with_reducible refine w_NoPart ?_ | with_reducible refine w_Part ?_ | with_reducible refine w_Sl ?_ | with_reducible refine ws_aug ?_ | with_reducible refine o_addI ?_ | with_reducible refine o_find2 ?_ | with_reducible refine o_find3 ?_ | with_reducible refine o_add ?_ | with_reducible refine o_sub ?_ | with_reducible refine o_lt ?_ | with_reducible refine o_le ?_ | with_reducible refine o_gt ?_ | with_reducible refine o_ge ?_ | with_reducible refine o_eqI ?_ | with_reducible refine o_neI ?_ | with_reducible refine o_int ?_ | with_reducible refine o_intB ?_ | with_reducible refine o_gcd ?_ | with_reducible refine o_lenT ?_ | with_reducible refine o_lenL ?_ | with_reducible refine o_lenK ?_ | with_reducible refine o_lenO ?_ | with_reducible refine o_isN ?_ | with_reducible refine o_isB ?_ | with_reducible refine o_isnN ?_ | with_reducible refine o_isnB ?_ | with_reducible refine o_neg ?_ | with_reducible refine o_eqS ?_ | with_reducible refine o_neS ?_ | refine w_var rfl ?_ | refine w_gLs rfl ?_ | refine w_gS_cons ?_ | refine w_gS_nil ?_ | refine ws_st_cons ?_ | refine ws_st_nil ?_ | refine w_Js_cons ?_ | refine w_Js_nil ?_ | refine w_gNm rfl ?_ | refine w_gJ rfl (by assumption) ?_ | refine w_gTu rfl ?_ | refine o_isi (by decide) ?_ | refine o_mul (by first | exact cMul_r (by omega) (by omega) | exact cMul_l (by omega) (by omega)) ?_ | refine o_mul (by assumption) ?_ | refine o_mod (by omega) ?_ | refine o_fdivS (by omega) (by omega) ?_ | refine o_absN ?_ | refine ⟨⟨by omega, by omega⟩, ?_⟩ | refine ⟨⟨⟨by omega, by omega⟩, by omega, by omega⟩, ?_⟩ | refine ⟨@rfl _ _, ?_⟩ | refine ⟨⟨@rfl _ _, @rfl _ _⟩, ?_⟩ | refine ⟨_, rfl, ?_⟩ | refine ⟨⟨Nat.le_of_ble_eq_true rfl, fun _ h => nomatch h⟩, ?_⟩ | refine ⟨Nat.le_of_ble_eq_true rfl, ?_⟩ | refine br_true ?_ | refine br_false ?_ | refine w_back rfl ?_ | refine wo rfl ?_)))
local macro_rules | `(tactic| walk_at "WQ") => `(tactic| (repeat (first | with_reducible refine ws_seq ?_ | with_reducible refine ws_asg ?_ | with_reducible refine ws_ret ?_ | with_reducible refine ws_expr ?_ | with_reducible refine ws_par ?_ | with_reducible refine ws_nx ?_ | with_reducible refine ws_raise ?_ | with_reducible refine o_TT ?_ | with_reducible refine ws_bk ?_ | with_reducible refine ws_ct ?_ | with_reducible refine ws_retN ?_ | with_reducible refine ws_st_nil ?_ | with_reducible refine ws_st_cons ?_ | with_reducible refine w_D ?_ | with_reducible refine w_x2 ?_ | with_reducible refine w_x1 ?_ | with_reducible refine w_notV ?_ | with_reducible refine w_Nil ?_ | with_reducible refine w_Cons ?_ | with_reducible refine w_N ?_ | with_reducible refine w_M ?_ | with_reducible refine w_Ty ?_ | with_reducible refine w_Tup ?_ | with_reducible refine w_LstF ?_ | with_reducible refine w_Fz ?_ | with_reducible refine w_T ?_ | with_reducible refine w_Tru ?_ | with_reducible refine w_And ?_ | with_reducible refine w_Or ?_ | with_reducible refine w_Not ?_ | with_reducible refine w_If ?_ | with_reducible refine w_OrV ?_ | with_reducible refine w_AndV ?_ | with_reducible refine w_Js_nil ?_ | with_reducible refine w_Js_cons ?_ | with_reducible refine w_Call ?_ | with_reducible refine w_Mut ?_ | with_reducible refine w_Yes ?_ | with_reducible refine w_gIx ?_ | with_reducible refine w_gS_nil ?_ | with_reducible refine w_gS_cons ?_ | with_reducible refine w_Sq ?_ | with_reducible refine w_Rg1 ?_ | with_reducible refine w_Rg2 ?_ | with_reducible refine w_NoPart ?_ | with_reducible refine w_Part ?_ | with_reducible refine w_Sl ?_ | with_reducible refine ws_aug ?_ | with_reducible refine o_addI ?_ | with_reducible refine o_find2 ?_ | with_reducible refine o_find3 ?_ | with_reducible refine o_add ?_ | with_reducible refine o_sub ?_ | with_reducible refine o_lt ?_ | with_reducible refine o_le ?_ | with_reducible refine o_gt ?_ | with_reducible refine o_ge ?_ | with_reducible refine o_eqI ?_ | with_reducible refine o_neI ?_ | with_reducible refine o_int ?_ | with_reducible refine o_intB ?_ | with_reducible refine o_gcd ?_ | with_reducible refine o_lenT ?_ | with_reducible refine o_lenL ?_ | with_reducible refine o_lenK ?_ | with_reducible refine o_lenO ?_ | with_reducible refine o_isN ?_ | with_reducible refine o_isB ?_ | with_reducible refine o_isnN ?_ | with_reducible refine o_isnB ?_ | with_reducible refine o_neg ?_ | with_reducible refine o_eqS ?_ | with_reducible refine o_neS ?_ | refine w_var rfl ?_ | refine w_gLs rfl ?_ | refine w_gS_cons ?_ | refine w_gS_nil ?_ | refine ws_st_cons ?_ | refine ws_st_nil ?_ | refine w_Js_cons ?_ | refine w_Js_nil ?_ | refine w_gNm rfl ?_ | refine w_gJ rfl (by assumption) ?_ | refine w_gTu rfl ?_ | refine o_isi (by decide) ?_ | refine o_mul (by first | exact cMul_r (by omega) (by omega) | exact cMul_l (by omega) (by omega)) ?_ | refine o_mul (by assumption) ?_ | refine o_mod (by omega) ?_ | refine o_fdivS (by omega) (by omega) ?_ | refine o_absN ?_ | refine ⟨⟨by omega, by omega⟩, ?_⟩ | refine ⟨⟨⟨by omega, by omega⟩, by omega, by omega⟩, ?_⟩ | refine ⟨@rfl _ _, ?_⟩ | refine ⟨⟨@rfl _ _, @rfl _ _⟩, ?_⟩ | refine ⟨_, rfl, ?_⟩ | refine ⟨⟨Nat.le_of_ble_eq_true rfl, fun _ h => nomatch h⟩, ?_⟩ | refine ⟨Nat.le_of_ble_eq_true rfl, ?_⟩ | refine br_true ?_ | refine br_false ?_ | refine w_back rfl ?_ | refine wo rfl ?_)))
local macro_rules | `(tactic| walk_at "WI") => `(tactic| (repeat (first | with_reducible refine ws_seq ?_ | with_reducible refine ws_asg ?_ | with_reducible refine ws_if ?_ | with_reducible refine ws_ret ?_ | with_reducible refine ws_expr ?_ | with_reducible refine ws_par ?_ | with_reducible refine ws_nx ?_ | with_reducible refine ws_raise ?_ | with_reducible refine o_TT ?_ | with_reducible refine ws_bk ?_ | with_reducible refine ws_ct ?_ | with_reducible refine ws_retN ?_ | with_reducible refine ws_st_nil ?_ | with_reducible refine ws_st_cons ?_ | with_reducible refine w_D ?_ | with_reducible refine w_x2 ?_ | with_reducible refine w_x1 ?_ | with_reducible refine w_notV ?_ | with_reducible refine w_Nil ?_ | with_reducible refine w_Cons ?_ | with_reducible refine w_N ?_ | with_reducible refine w_M ?_ | with_reducible refine w_Ty ?_ | with_reducible refine w_Tup ?_ | with_reducible refine w_LstF ?_ | with_reducible refine w_Fz ?_ | with_reducible refine w_T ?_ | with_reducible refine w_Tru ?_ | with_reducible refine w_And ?_ | with_reducible refine w_Or ?_ | with_reducible refine w_Not ?_ | with_reducible refine w_OrV ?_ | with_reducible refine w_AndV ?_ | with_reducible refine w_Js_nil ?_ | with_reducible refine w_Js_cons ?_ | with_reducible refine w_Call ?_ | with_reducible refine w_Mut ?_ | with_reducible refine w_Yes ?_ | with_reducible refine w_gIx ?_ | with_reducible refine w_gS_nil ?_ | with_reducible refine w_gS_cons ?_ | with_reducible refine w_Sq ?_ | with_reducible refine w_Rg1 ?_ | with_reducible refine w_Rg2 ?_ | with_reducible refine w_NoPart ?_ | with_reducible refine w_Part ?_ | with_reducible refine w_Sl ?_ | with_reducible refine ws_aug ?_ | with_reducible refine o_addI ?_ | with_reducible refine o_find2 ?_ | with_reducible refine o_find3 ?_ | with_reducible refine o_add ?_ | with_reducible refine o_sub ?_ | with_reducible refine o_lt ?_ | with_reducible refine o_le ?_ | with_reducible refine o_gt ?_ | with_reducible refine o_ge ?_ | with_reducible refine o_eqI ?_ | with_reducible refine o_neI ?_ | with_reducible refine o_int ?_ | with_reducible refine o_intB ?_ | with_reducible refine o_gcd ?_ | with_reducible refine o_lenT ?_ | with_reducible refine o_lenL ?_ | with_reducible refine o_lenK ?_ | with_reducible refine o_lenO ?_ | with_reducible refine o_isN ?_ | with_reducible refine o_isB ?_ | with_reducible refine o_isnN ?_ | with_reducible refine o_isnB ?_ | with_reducible refine o_neg ?_ | with_reducible refine o_eqS ?_ | with_reducible refine o_neS ?_ | refine w_var rfl ?_ | refine w_gLs rfl ?_ | refine w_gS_cons ?_ | refine w_gS_nil ?_ | refine ws_st_cons ?_ | refine ws_st_nil ?_ | refine w_Js_cons ?_ | refine w_Js_nil ?_ | refine w_gNm rfl ?_ | refine w_gJ rfl (by assumption) ?_ | refine w_gTu rfl ?_ | refine o_isi (by decide) ?_ | refine o_mul (by first | exact cMul_r (by omega) (by omega) | exact cMul_l (by omega) (by omega)) ?_ | refine o_mul (by assumption) ?_ | refine o_mod (by omega) ?_ | refine o_fdivS (by omega) (by omega) ?_ | refine o_absN ?_ | refine ⟨⟨by omega, by omega⟩, ?_⟩ | refine ⟨⟨⟨by omega, by omega⟩, by omega, by omega⟩, ?_⟩ | refine ⟨@rfl _ _, ?_⟩ | refine ⟨⟨@rfl _ _, @rfl _ _⟩, ?_⟩ | refine ⟨_, rfl, ?_⟩ | refine ⟨⟨Nat.le_of_ble_eq_true rfl, fun _ h => nomatch h⟩, ?_⟩ | refine ⟨Nat.le_of_ble_eq_true rfl, ?_⟩ | refine br_true ?_ | refine br_false ?_ | refine w_back rfl ?_ | refine wo rfl ?_)))
local macro_rules | `(tactic| walk_at "NE") => `(tactic| (dsimp only [List.set_cons_succ, List.set_cons_zero, frz]))
local macro_rules | `(tactic| walk_at "FIN") => `(tactic| (first | rfl | exact ⟨rfl, rfl⟩ | exact trivial | exact ⟨trivial, rfl⟩ | exact ⟨trivial, trivial⟩ | exact ⟨rfl, trivial⟩))
/-- what the law's readers answer -/
def badL (q : Nat) : OT := .lst [.fz (.int (q : Int)), .fz (.int (-1))]
inductive LT (R : PR) : OT → OT → Prop
  | ok {d : Dat} {p : Nat} {S : List Nat} : R = .ok d p S → LT R (.lst [.fz d, .fz (.int (p : Int))]) (.fz .non)
  | no {q : Nat} : R = .bad q → LT R (badL q) (.fz .non)
/-- nought before a figure: told behind it -/
inductive LV (t : Str) (R : PR) : OT → OT → Prop
  | lt {r out : OT} : LT R r out → LV t R r out
  | nought {q c : Nat} {T : List Nat} : R = .bad q → At t q (c :: T) → fig c = true → LV t R (.lst [.fz (.int 0), .fz (.int (q : Int))]) (.fz .non)
theorem LT.badI {R : PR} {q : Nat} {i : Int} (h : R = .bad q) (e : i = (q : Int)) : LT R (.lst [.fz (.int i), .fz (.int (-1))]) (.fz .non) := by
  subst e
  exact LT.no h
theorem LT.good {R : PR} {d : Dat} {p : Nat} {S : List Nat} {i : Int} (h : R = .ok d p S) (e : i = (p : Int)) : LT R (.lst [.fz d, .fz (.int i)]) (.fz .non) := by
  subst e
  exact LT.ok h
theorem o_ixS {s : Str} {i : Int} {c : Nat} {k : OT → Prop} (h : s.length ≤ sizeLine) (h2 : L2.atI s.cps.toList i = some c) (q : k (.fz (.str ⟨#[c]⟩))) : Wo (opIx (.fz (.str s)) (.fz (.int i))) k :=
  wo (x := .fz (.str ⟨#[c]⟩)) (by unfold opIx; simp only [if_pos h, h2]; rfl) q
theorem lt_sp : ∀ c < 128, 32 ≤ c → ¬ ((⟨#[c]⟩ : Str).cps.toList < (Str.ofString " ").cps.toList) := by decide +kernel
theorem gt_ti : ∀ c < 127, ¬ ((Str.ofString "~").cps.toList < (⟨#[c]⟩ : Str).cps.toList) := by decide +kernel
theorem occ3 : ∀ d < 128, (Builtin.Str.occurrences (Str.ofString "\\\"n") ⟨#[d]⟩ 0 (Str.ofString "\\\"n").length 1).isEmpty = !decide (d = 92 ∨ d = 34 ∨ d = 110) := by decide +kernel
theorem snoc_str (a : List Nat) (c : Nat) : (⟨a.toArray⟩ : Str) ++ (⟨#[c]⟩ : Str) = ⟨(a ++ [c]).toArray⟩ := ext_tl (by rw [tl_append, tl_mk, tl_mk])
theorem snoc_len (a : List Nat) : (⟨a.toArray⟩ : Str).length = a.length := by show a.toArray.size = _; rw [List.size_toArray]
theorem empty_str : Str.ofString "" = ⟨([] : List Nat).toArray⟩ := by decide +kernel
/-- between two turns -/
def TL2 (t : Str) (R : PR) (p0 k : Nat) (ρ : Lay.Env) : Prop := ∃ (p : Nat) (S a : List Nat) (s3 s4 : Sl), At t p S ∧ textP S p a = R ∧ a.length ≤ p ∧ k + p0 ≤ p ∧ Jk s3 ∧ Jk s4 ∧
  ρ = [.vl (.fz (.str t)), .vl (.fz (.int (p : Int))), .vl (.fz (.str ⟨a.toArray⟩)), s3, s4]
theorem ltext_spec {t : Str} {p : Nat} {S : List Nat} (ok : OkT t) (h : At t p S) : Wf F__law_text_at [.fz (.str t), .fz (.int (p : Int))] (LT (textP S p [])) nX := by
  have hl := ok.len
  have tn := h.len
  refine Wf.run ?_
  show Ws G__law_text_at [.vl _, .vl _, .un, .un, .un] _
  unfold G__law_text_at
  walk_at "WP"
  walk_at "NE"
  refine ws_for ?_
  walk_at "WP"
  refine o_lenS (by show _ ≤ 16777216; omega) ?_
  walk_at "WP"
  refine ⟨TL2 t (textP S p []) p, ?_, ?_, ?_⟩
  · exact ⟨p, S, [], _, _, h, rfl, by simp, by omega, jk_un, jk_un, by rw [empty_str]⟩
  · rintro k d ρ hd ⟨p1, S1, a, s3, s4, a1, a2, a3, a4, j3, j4, rfl⟩
    have tn1 := a1.len
    walk_at "WP"
    refine o_lenS (by show _ ≤ 16777216; omega) ?_
    walk_at "WP"
    cases S1 with
    | nil =>
      rw [List.length_nil] at tn1
      refine br_dec (fun h => ?_) (fun h => ?_)
      · walk_at "WP"
        refine o_lenS (by show _ ≤ 16777216; omega) ?_
        walk_at "WP"
        refine LT.badI (q := p1) ?_ ?_
        · rw [← a2]; rfl
        · omega
      · exfalso; omega
    | cons c R =>
      have ck := ok.sg c (At.mem a1 c List.mem_cons_self)
      rw [List.length_cons] at tn1
      refine br_dec (fun h => ?_) (fun h => ?_)
      · exfalso; omega
      walk_at "WP"
      walk_at "NE"
      refine o_ixS (by show _ ≤ 16777216; omega) a1.ix ?_
      walk_at "WP"
      walk_at "NE"
      by_cases c34 : c = 34
      · subst c34
        rw [textP_quote] at a2
        walk_at "WP"
        refine LT.good (p := p1 + 1) (S := R) ?_ ?_
        · exact a2.symm
        · omega
      by_cases c92 : c = 92
      · subst c92
        walk_at "WP"
        refine o_lenS (by show _ ≤ 16777216; omega) ?_
        walk_at "WP"
        cases R with
        | nil =>
          rw [List.length_nil] at tn1
          refine br_dec (fun h => ?_) (fun h => ?_)
          · walk_at "WP"
            refine o_lenS (by show _ ≤ 16777216; omega) ?_
            walk_at "WP"
            refine LT.badI (q := p1 + 1) ?_ ?_
            · rw [← a2]; rfl
            · omega
          · exfalso; omega
        | cons d2 R =>
          rw [List.length_cons] at tn1
          have dk := ok.sg d2 (At.mem a1 d2 (by simp))
          have ix2 := a1.next.ix
          rw [show ((p1 + 1 : Nat) : Int) = (p1 : Int) + 1 by omega] at ix2
          rw [textP_esc] at a2
          refine br_dec (fun h => ?_) (fun h => ?_)
          · exfalso; omega
          walk_at "WP"
          refine o_ixS (by show _ ≤ 16777216; omega) ix2 ?_
          walk_at "WP"
          rw [occ3 d2 (by omega)]
          by_cases hd2 : d2 = 92 ∨ d2 = 34 ∨ d2 = 110
          · rw [if_pos hd2] at a2
            rw [decide_eq_true hd2]
            walk_at "WP"
            refine o_ixS (by show _ ≤ 16777216; omega) ix2 ?_
            walk_at "WP"
            refine o_ixS (by show _ ≤ 16777216; omega) ix2 ?_
            walk_at "WP"
            rw [show (seen [(Str.ofString "n", Dat.str (Str.ofString "\n"))] ⟨#[d2]⟩).getD (Dat.str ⟨#[d2]⟩) = .str ⟨#[un d2]⟩ from by rcases hd2 with rfl | rfl | rfl <;> rfl]
            refine o_addS (by rw [snoc_len]; show a.length + 1 ≤ 16777216; omega) ?_
            walk_at "WP"
            walk_at "NE"
            rw [snoc_str]
            exact ⟨p1 + 2, R, a ++ [un d2], _, _, a1.next.next, a2, by rw [List.length_append, List.length_singleton]; omega, by omega, jk_vl, jk_vl, rfl⟩
          · rw [if_neg hd2] at a2
            rw [decide_eq_false hd2]
            walk_at "WP"
            refine LT.badI (q := p1 + 1) ?_ ?_
            · exact a2.symm
            · omega
      rw [textP_step ⟨c92, c34⟩] at a2
      walk_at "WP"
      refine br_dec (fun h => absurd ((eq_one s34).mp h) c34) (fun h => ?_)
      walk_at "WP"
      refine br_dec (fun h => absurd ((eq_one s92).mp h) c92) (fun h => ?_)
      walk_at "WP"
      refine br_dec (fun h => absurd h (lt_sp c (by omega) ck.1)) (fun h => ?_)
      walk_at "WP"
      refine br_dec (fun h => absurd h (gt_ti c (by omega))) (fun h => ?_)
      walk_at "WP"
      refine br_dec (fun h => ?_) (fun h => ?_)
      · exfalso
        have : (c : Int) = 37 := h
        omega
      walk_at "WP"
      refine o_addS (by rw [snoc_len]; show a.length + 1 ≤ 16777216; omega) ?_
      walk_at "WP"
      walk_at "NE"
      rw [snoc_str]
      exact ⟨p1 + 1, R, a ++ [c], _, _, a1.next, a2, by rw [List.length_append, List.length_singleton]; omega, by omega, jk_vl, jk_vl, rfl⟩
  · rintro ρ ⟨p1, S1, a, s3, s4, a1, a2, a3, a4, j3, j4, rfl⟩
    exfalso
    have tn1 := a1.len
    rw [rngL_length] at a4
    omega
end K22

namespace K22
open PySem PySem.Spec L2 Lay Com TL T21 T22
local macro_rules | `(tactic| walk_at "WP") => `(tactic| (repeat (first | with_reducible refine ws_seq ?_ | with_reducible refine ws_asg ?_ | with_reducible refine ws_if ?_ | with_reducible refine ws_ret ?_ | with_reducible refine ws_expr ?_ | with_reducible refine ws_par ?_ | with_reducible refine ws_nx ?_ | with_reducible refine ws_raise ?_ | with_reducible refine o_TT ?_ | with_reducible refine ws_bk ?_ | with_reducible refine ws_ct ?_ | with_reducible refine ws_retN ?_ | with_reducible refine ws_st_nil ?_ | with_reducible refine ws_st_cons ?_ | with_reducible refine w_D ?_ | with_reducible refine w_x2 ?_ | with_reducible refine w_x1 ?_ | with_reducible refine w_notV ?_ | with_reducible refine w_Nil ?_ | with_reducible refine w_Cons ?_ | with_reducible refine w_N ?_ | with_reducible refine w_M ?_ | with_reducible refine w_Ty ?_ | with_reducible refine w_Tup ?_ | with_reducible refine w_LstF ?_ | with_reducible refine w_Fz ?_ | with_reducible refine w_T ?_ | with_reducible refine w_Tru ?_ | with_reducible refine w_And ?_ | with_reducible refine w_Or ?_ | with_reducible refine w_Not ?_ | with_reducible refine w_If ?_ | with_reducible refine w_OrV ?_ | with_reducible refine w_AndV ?_ | with_reducible refine w_Js_nil ?_ | with_reducible refine w_Js_cons ?_ | with_reducible refine w_Call ?_ | with_reducible refine w_Mut ?_ | with_reducible refine w_Yes ?_ | with_reducible refine w_gIx ?_ | with_reducible refine w_gS_nil ?_ | with_reducible refine w_gS_cons ?_ | with_reducible refine w_Sq ?_ | with_reducible refine w_Rg1 ?_ | with_reducible refine w_Rg2 ?_ | with_reducible refine w_NoPart ?_ | with_reducible refine w_Part ?_ | with_reducible refine w_Sl ?_ | with_reducible refine ws_aug ?_ | with_reducible refine o_addI ?_ | with_reducible refine o_find2 ?_ | with_reducible refine o_find3 ?_ | with_reducible refine o_add ?_ | with_reducible refine o_sub ?_ | with_reducible refine o_lt ?_ | with_reducible refine o_le ?_ | with_reducible refine o_gt ?_ | with_reducible refine o_ge ?_ | with_reducible refine o_eqI ?_ | with_reducible refine o_neI ?_ | with_reducible refine o_int ?_ | with_reducible refine o_intB ?_ | with_reducible refine o_gcd ?_ | with_reducible refine o_lenT ?_ | with_reducible refine o_lenL ?_ | with_reducible refine o_lenK ?_ | with_reducible refine o_lenO ?_ | with_reducible refine o_isN ?_ | with_reducible refine o_isB ?_ | with_reducible refine o_isnN ?_ | with_reducible refine o_isnB ?_ | with_reducible refine o_neg ?_ | with_reducible refine o_eqS ?_ | with_reducible refine o_neS ?_ | refine w_var rfl ?_ | refine w_gLs rfl ?_ | refine w_gS_cons ?_ | refine w_gS_nil ?_ | refine ws_st_cons ?_ | refine ws_st_nil ?_ | refine w_Js_cons ?_ | refine w_Js_nil ?_ | refine w_gNm rfl ?_ | refine w_gJ rfl (by assumption) ?_ | refine w_gTu rfl ?_ | refine o_isi (by decide) ?_ | refine o_mul (by first | exact cMul_r (by omega) (by omega) | exact cMul_l (by omega) (by omega)) ?_ | refine o_mul (by assumption) ?_ | refine o_mod (by omega) ?_ | refine o_fdivS (by omega) (by omega) ?_ | refine o_absN ?_ | refine ⟨⟨by omega, by omega⟩, ?_⟩ | refine ⟨⟨⟨by omega, by omega⟩, by omega, by omega⟩, ?_⟩ | refine ⟨@rfl _ _, ?_⟩ | refine ⟨⟨@rfl _ _, @rfl _ _⟩, ?_⟩ | refine ⟨_, rfl, ?_⟩ | refine ⟨⟨Nat.le_of_ble_eq_true rfl, fun _ h => nomatch h⟩, ?_⟩ | refine ⟨Nat.le_of_ble_eq_true rfl, ?_⟩ | refine br_true ?_ | refine br_false ?_ | refine w_back rfl ?_ | refine wo rfl ?_)))
local macro_rules | `(tactic| walk_at "WQ") => `(tactic| (repeat (first | with_reducible refine ws_seq ?_ | with_reducible refine ws_asg ?_ | with_reducible refine ws_ret ?_ | with_reducible refine ws_expr ?_ | with_reducible refine ws_par ?_ | with_reducible refine ws_nx ?_ | with_reducible refine ws_raise ?_ | with_reducible refine o_TT ?_ | with_reducible refine ws_bk ?_ | with_reducible refine ws_ct ?_ | with_reducible refine ws_retN ?_ | with_reducible refine ws_st_nil ?_ | with_reducible refine ws_st_cons ?_ | with_reducible refine w_D ?_ | with_reducible refine w_x2 ?_ | with_reducible refine w_x1 ?_ | with_reducible refine w_notV ?_ | with_reducible refine w_Nil ?_ | with_reducible refine w_Cons ?_ | with_reducible refine w_N ?_ | with_reducible refine w_M ?_ | with_reducible refine w_Ty ?_ | with_reducible refine w_Tup ?_ | with_reducible refine w_LstF ?_ | with_reducible refine w_Fz ?_ | with_reducible refine w_T ?_ | with_reducible refine w_Tru ?_ | with_reducible refine w_And ?_ | with_reducible refine w_Or ?_ | with_reducible refine w_Not ?_ | with_reducible refine w_If ?_ | with_reducible refine w_OrV ?_ | with_reducible refine w_AndV ?_ | with_reducible refine w_Js_nil ?_ | with_reducible refine w_Js_cons ?_ | with_reducible refine w_Call ?_ | with_reducible refine w_Mut ?_ | with_reducible refine w_Yes ?_ | with_reducible refine w_gIx ?_ | with_reducible refine w_gS_nil ?_ | with_reducible refine w_gS_cons ?_ | with_reducible refine w_Sq ?_ | with_reducible refine w_Rg1 ?_ | with_reducible refine w_Rg2 ?_ | with_reducible refine w_NoPart ?_ | with_reducible refine w_Part ?_ | with_reducible refine w_Sl ?_ | with_reducible refine ws_aug ?_ | with_reducible refine o_addI ?_ | with_reducible refine o_find2 ?_ | with_reducible refine o_find3 ?_ | with_reducible refine o_add ?_ | with_reducible refine o_sub ?_ | with_reducible refine o_lt ?_ | with_reducible refine o_le ?_ | with_reducible refine o_gt ?_ | with_reducible refine o_ge ?_ | with_reducible refine o_eqI ?_ | with_reducible refine o_neI ?_ | with_reducible refine o_int ?_ | with_reducible refine o_intB ?_ | with_reducible refine o_gcd ?_ | with_reducible refine o_lenT ?_ | with_reducible refine o_lenL ?_ | with_reducible refine o_lenK ?_ | with_reducible refine o_lenO ?_ | with_reducible refine o_isN ?_ | with_reducible refine o_isB ?_ | with_reducible refine o_isnN ?_ | with_reducible refine o_isnB ?_ | with_reducible refine o_neg ?_ | with_reducible refine o_eqS ?_ | with_reducible refine o_neS ?_ | refine w_var rfl ?_ | refine w_gLs rfl ?_ | refine w_gS_cons ?_ | refine w_gS_nil ?_ | refine ws_st_cons ?_ | refine ws_st_nil ?_ | refine w_Js_cons ?_ | refine w_Js_nil ?_ | refine w_gNm rfl ?_ | refine w_gJ rfl (by assumption) ?_ | refine w_gTu rfl ?_ | refine o_isi (by decide) ?_ | refine o_mul (by first | exact cMul_r (by omega) (by omega) | exact cMul_l (by omega) (by omega)) ?_ | refine o_mul (by assumption) ?_ | refine o_mod (by omega) ?_ | refine o_fdivS (by omega) (by omega) ?_ | refine o_absN ?_ | refine ⟨⟨by omega, by omega⟩, ?_⟩ | refine ⟨⟨⟨by omega, by omega⟩, by omega, by omega⟩, ?_⟩ | refine ⟨@rfl _ _, ?_⟩ | refine ⟨⟨@rfl _ _, @rfl _ _⟩, ?_⟩ | refine ⟨_, rfl, ?_⟩ | refine ⟨⟨Nat.le_of_ble_eq_true rfl, fun _ h => nomatch h⟩, ?_⟩ | refine ⟨Nat.le_of_ble_eq_true rfl, ?_⟩ | refine br_true ?_ | refine br_false ?_ | refine w_back rfl ?_ | refine wo rfl ?_)))
local macro_rules | `(tactic| walk_at "WI") => `(tactic| (repeat (first | with_reducible refine ws_seq ?_ | with_reducible refine ws_asg ?_ | with_reducible refine ws_if ?_ | with_reducible refine ws_ret ?_ | with_reducible refine ws_expr ?_ | with_reducible refine ws_par ?_ | with_reducible refine ws_nx ?_ | with_reducible refine ws_raise ?_ | with_reducible refine o_TT ?_ | with_reducible refine ws_bk ?_ | with_reducible refine ws_ct ?_ | with_reducible refine ws_retN ?_ | with_reducible refine ws_st_nil ?_ | with_reducible refine ws_st_cons ?_ | with_reducible refine w_D ?_ | with_reducible refine w_x2 ?_ | with_reducible refine w_x1 ?_ | with_reducible refine w_notV ?_ | with_reducible refine w_Nil ?_ | with_reducible refine w_Cons ?_ | with_reducible refine w_N ?_ | with_reducible refine w_M ?_ | with_reducible refine w_Ty ?_ | with_reducible refine w_Tup ?_ | with_reducible refine w_LstF ?_ | with_reducible refine w_Fz ?_ | with_reducible refine w_T ?_ | with_reducible refine w_Tru ?_ | with_reducible refine w_And ?_ | with_reducible refine w_Or ?_ | with_reducible refine w_Not ?_ | with_reducible refine w_OrV ?_ | with_reducible refine w_AndV ?_ | with_reducible refine w_Js_nil ?_ | with_reducible refine w_Js_cons ?_ | with_reducible refine w_Call ?_ | with_reducible refine w_Mut ?_ | with_reducible refine w_Yes ?_ | with_reducible refine w_gIx ?_ | with_reducible refine w_gS_nil ?_ | with_reducible refine w_gS_cons ?_ | with_reducible refine w_Sq ?_ | with_reducible refine w_Rg1 ?_ | with_reducible refine w_Rg2 ?_ | with_reducible refine w_NoPart ?_ | with_reducible refine w_Part ?_ | with_reducible refine w_Sl ?_ | with_reducible refine ws_aug ?_ | with_reducible refine o_addI ?_ | with_reducible refine o_find2 ?_ | with_reducible refine o_find3 ?_ | with_reducible refine o_add ?_ | with_reducible refine o_sub ?_ | with_reducible refine o_lt ?_ | with_reducible refine o_le ?_ | with_reducible refine o_gt ?_ | with_reducible refine o_ge ?_ | with_reducible refine o_eqI ?_ | with_reducible refine o_neI ?_ | with_reducible refine o_int ?_ | with_reducible refine o_intB ?_ | with_reducible refine o_gcd ?_ | with_reducible refine o_lenT ?_ | with_reducible refine o_lenL ?_ | with_reducible refine o_lenK ?_ | with_reducible refine o_lenO ?_ | with_reducible refine o_isN ?_ | with_reducible refine o_isB ?_ | with_reducible refine o_isnN ?_ | with_reducible refine o_isnB ?_ | with_reducible refine o_neg ?_ | with_reducible refine o_eqS ?_ | with_reducible refine o_neS ?_ | refine w_var rfl ?_ | refine w_gLs rfl ?_ | refine w_gS_cons ?_ | refine w_gS_nil ?_ | refine ws_st_cons ?_ | refine ws_st_nil ?_ | refine w_Js_cons ?_ | refine w_Js_nil ?_ | refine w_gNm rfl ?_ | refine w_gJ rfl (by assumption) ?_ | refine w_gTu rfl ?_ | refine o_isi (by decide) ?_ | refine o_mul (by first | exact cMul_r (by omega) (by omega) | exact cMul_l (by omega) (by omega)) ?_ | refine o_mul (by assumption) ?_ | refine o_mod (by omega) ?_ | refine o_fdivS (by omega) (by omega) ?_ | refine o_absN ?_ | refine ⟨⟨by omega, by omega⟩, ?_⟩ | refine ⟨⟨⟨by omega, by omega⟩, by omega, by omega⟩, ?_⟩ | refine ⟨@rfl _ _, ?_⟩ | refine ⟨⟨@rfl _ _, @rfl _ _⟩, ?_⟩ | refine ⟨_, rfl, ?_⟩ | refine ⟨⟨Nat.le_of_ble_eq_true rfl, fun _ h => nomatch h⟩, ?_⟩ | refine ⟨Nat.le_of_ble_eq_true rfl, ?_⟩ | refine br_true ?_ | refine br_false ?_ | refine w_back rfl ?_ | refine wo rfl ?_)))
local macro_rules | `(tactic| walk_at "NE") => `(tactic| (dsimp only [List.set_cons_succ, List.set_cons_zero, frz]))
local macro_rules | `(tactic| walk_at "FIN") => `(tactic| (first | rfl | exact ⟨rfl, rfl⟩ | exact trivial | exact ⟨trivial, rfl⟩ | exact ⟨trivial, trivial⟩ | exact ⟨rfl, trivial⟩))
theorem numB_no {neg : Bool} {c b : Nat} {B : List Nat} (hf : fig c = false) : numB neg (c :: B) b = .bad b := by
  unfold numB
  rw [figs_no hf, if_pos rfl]
theorem numB_sg {b : Nat} {B : List Nat} : numB true (48 :: B) b = .bad b := by
  unfold numB
  rw [figs_cons (by decide), if_neg (by simp), if_pos ⟨rfl, rfl⟩]
theorem numB_00 {b c : Nat} {B : List Nat} (hc : fig c = true) : numB false (48 :: c :: B) b = .bad (b + 1) := by
  unfold numB
  rw [figs_cons (by decide), figs_cons hc, if_neg (by simp), if_neg (by simp), if_pos ⟨rfl, by simp⟩]
theorem numB_0 {b : Nat} {B : List Nat} (hB : ∀ c R, B = c :: R → fig c = false) : numB false (48 :: B) b = .ok (.int 0) (b + 1) B := by
  have e : figs B = [] := by
    cases B with
    | nil => rfl
    | cons c R => exact figs_no (hB c R rfl)
  have e2 : T22.rest (48 :: B) = B := by
    have := figs_rest (48 :: B)
    rw [figs_cons (by decide), e] at this
    simpa using this
  unfold numB
  rw [figs_cons (by decide), e, e2, if_neg (by simp), if_neg (by simp), if_neg (by simp), if_neg (by simp)]
  rfl
theorem numB_long {neg : Bool} {c b : Nat} {B : List Nat} (hf : fig c = true) (h48 : c ≠ 48) (h : 2000 < (figs (c :: B)).length) : numB neg (c :: B) b = .bad (b + 2000) := by
  have z : ¬ (figs (c :: B)).head? = some 48 := by rw [figs_cons hf]; exact fun z => h48 (Option.some.inj z)
  unfold numB
  rw [if_neg (by rw [figs_cons hf]; simp), if_neg fun y => z y.1, if_neg fun y => z y.1, if_pos h]
theorem numB_ok {neg : Bool} {c b : Nat} {B : List Nat} (hf : fig c = true) (h48 : c ≠ 48) (h : ¬ 2000 < (figs (c :: B)).length) : numB neg (c :: B) b = .ok (.int (if neg then -((PySem.NumText.digitsVal (figs (c :: B)) : Nat) : Int) else ((PySem.NumText.digitsVal (figs (c :: B)) : Nat) : Int))) (b + (figs (c :: B)).length) (T22.rest (c :: B)) := by
  have z : ¬ (figs (c :: B)).head? = some 48 := by rw [figs_cons hf]; exact fun z => h48 (Option.some.inj z)
  unfold numB
  rw [if_neg (by rw [figs_cons hf]; simp), if_neg fun y => z y.1, if_neg fun y => z y.1, if_neg h]
/-- the k-th of the figures -/
theorem At.figK {t : Str} {b : Nat} {B : List Nat} (h : At t b B) {k : Nat} (hk : k < (figs B).length) : ∃ d, fig d = true ∧ 48 ≤ d ∧ d ≤ 57 ∧ L2.atI t.cps.toList ((b + k : Nat) : Int) = some d := by
  have hB : B = figs B ++ T22.rest B := (figs_rest _).symm
  have blen : B.length = (figs B).length + (T22.rest B).length := by rw [← List.length_append, ← hB]
  obtain ⟨d, hd⟩ : ∃ d, (figs B)[k]? = some d := ⟨_, List.getElem?_eq_getElem hk⟩
  have dk := figs_all d (List.mem_of_getElem? hd)
  have hd2 : B[k]? = some d := by
    conv => lhs; rw [hB]
    rw [List.getElem?_append_left hk]; exact hd
  have drp : B.drop k = d :: B.drop (k + 1) := by
    rw [List.drop_eq_getElem_cons (by omega)]
    rw [List.getElem?_eq_getElem (by omega)] at hd2
    rw [Option.some.inj hd2]
  have h2 : At t (b + k) (d :: B.drop (k + 1)) := by
    have := At.app (t := t) (p := b) (P := B.take k) (S := B.drop k) (by rw [List.take_append_drop]; exact h)
    rw [List.length_take, Nat.min_eq_left (by omega), drp] at this
    exact this
  exact ⟨d, by unfold fig; simp [dk.1, dk.2], dk.1, dk.2, h2.ix⟩
theorem At.restK {t : Str} {b : Nat} {B : List Nat} (h : At t b B) : At t (b + (figs B).length) (T22.rest B) := At.app (P := figs B) (by rw [figs_rest]; exact h)
theorem ldigits_spec {t : Str} {p c0 : Nat} {S0 : List Nat} (ok : OkT t) (h : At t p (c0 :: S0)) :
    Wf F__law_digits_at [.fz (.str t), .fz (.int (p : Int))] (LV t (numP (c0 :: S0) p)) nX := by
  have hl := ok.len
  obtain ⟨neg, pre, B, hS, hpre, hnum, hneg⟩ := num_split (c0 :: S0) p
  rw [hnum]
  have ix0 := h.ix
  rw [hS] at h hneg
  have tn := h.len
  rw [List.length_append] at tn
  have atB := At.app h
  have hp1 : pre.length = if neg then 1 else 0 := by rw [hpre]; cases neg <;> rfl
  refine Wf.run ?_
  show Ws G__law_digits_at [.vl _, .vl _, .un, .un, .un] _
  unfold G__law_digits_at
  refine ws_seq ?_
  refine ws_J (fun ρ => ρ = [.vl (.fz (.str t)), .vl (.fz (.int (p : Int))), .vl (.fz (.int ((p + pre.length : Nat) : Int))), .un, .un]) ?_ ?_
  · walk_at "WP"
    refine o_ixS (by show _ ≤ 16777216; omega) ix0 ?_
    walk_at "WP"
    cases neg with
    | true =>
      obtain rfl : pre = [45] := hpre
      obtain rfl : c0 = 45 := by injection hS
      walk_at "FIN"
    | false =>
      obtain rfl : pre = [] := hpre
      have n45 : c0 ≠ 45 := fun z => hneg rfl (by rw [← hS, z]; rfl)
      rw [decide_eq_false (fun z => n45 ((eq_one s45).mp z))]
      walk_at "WP"
      walk_at "NE"
      rw [show (p : Int) + (if false = true then 1 else 0) = (p : Int) from Int.add_zero _]
      walk_at "FIN"
  rintro ρ rfl
  generalize hb : p + pre.length = b at atB ⊢
  have tnb := atB.len
  walk_at "WP"
  refine o_lenS (by show _ ≤ 16777216; omega) ?_
  walk_at "WP"
  cases B with
  | nil =>
    rw [List.length_nil] at tnb
    refine br_dec (fun h => ?_) (fun h => ?_)
    · walk_at "WP"
      refine o_lenS (by show _ ≤ 16777216; omega) ?_
      walk_at "WP"
      refine LV.lt (LT.badI (q := b) rfl ?_)
      omega
    · exfalso; omega
  | cons c B =>
    have ck := ok.sg c (At.mem atB c List.mem_cons_self)
    rw [List.length_cons] at tnb
    refine br_dec (fun h => ?_) (fun h => ?_)
    · exfalso; omega
    walk_at "WP"
    refine o_ixS (by show _ ≤ 16777216; omega) atB.ix ?_
    walk_at "WP"
    rw [occF c (by omega)]
    by_cases hf : fig c = true
    · rw [hf]
      walk_at "WP"
      refine o_ixS (by show _ ≤ 16777216; omega) atB.ix ?_
      walk_at "WP"
      refine br_dec (fun h0 => ?_) (fun h0 => ?_)
      · obtain rfl := (eq_one s48).mp h0
        walk_at "WP"
        refine br_dec (fun h1 => ?_) (fun h1 => ?_)
        · walk_at "WP"
          have : neg = true := by
            cases neg with
            | true => rfl
            | false => rw [if_neg Bool.false_ne_true] at hp1; omega
          subst this
          exact LV.lt (LT.badI (q := b) numB_sg rfl)
        · have : neg = false := by
            cases neg with
            | false => rfl
            | true => rw [if_pos rfl] at hp1; omega
          subst this
          walk_at "WP"
          cases B with
          | nil => exact LV.lt (LT.good (p := b + 1) (S := []) (numB_0 fun c R z => by cases z) rfl)
          | cons d R =>
            by_cases hd : fig d = true
            · exact LV.nought (q := b + 1) (numB_00 hd) atB.next hd
            · exact LV.lt (LT.good (p := b + 1) (S := d :: R) (numB_0 fun c R z => by cases z; simpa using hd) rfl)
      have n48 : c ≠ 48 := fun z => h0 ((eq_one s48).mpr z)
      walk_at "WP"
      walk_at "NE"
      have fpos : 0 < (figs (c :: B)).length := by rw [figs_cons hf]; simp
      have hB : c :: B = figs (c :: B) ++ T22.rest (c :: B) := (figs_rest _).symm
      have blen : (c :: B).length = (figs (c :: B)).length + (T22.rest (c :: B)).length := by rw [← List.length_append, ← hB]
      rw [List.length_cons] at blen
      refine ws_for ?_
      walk_at "WP"
      refine o_lenS (by show _ ≤ 16777216; omega) ?_
      walk_at "WP"
      refine ⟨fun k ρ => ∃ (j : Nat) (s4 : Sl), j ≤ (figs (c :: B)).length ∧ j ≤ 2000 ∧ (j = k ∨ j = (figs (c :: B)).length) ∧ Jk s4 ∧ ρ = [.vl (.fz (.str t)), .vl (.fz (.int (p : Int))), .vl (.fz (.int (b : Int))), .vl (.fz (.int ((b + j : Nat) : Int))), s4], ?_, ?_, ?_⟩
      · exact ⟨0, _, by omega, by omega, .inl rfl, jk_un, rfl⟩
      · rintro k d ρ hd ⟨j, s4, j1, j2, j3, j4, rfl⟩
        walk_at "WP"
        refine o_lenS (by show _ ≤ 16777216; omega) ?_
        walk_at "WP"
        by_cases hj : j < (figs (c :: B)).length
        · obtain ⟨x, x1, x2, x3, x4⟩ := At.figK atB hj
          refine br_dec (fun h => ?_) (fun h => ?_)
          · walk_at "WP"
            refine o_ixS (by show _ ≤ 16777216; omega) x4 ?_
            walk_at "WP"
            rw [occF x (by omega), x1]
            walk_at "WP"
            refine br_dec (fun h => ?_) (fun h => ?_)
            · have : j = 2000 := by omega
              subst this
              walk_at "WP"
              exact LV.lt (LT.badI (q := b + 2000) (numB_long hf n48 hj) rfl)
            · walk_at "WP"
              walk_at "NE"
              refine ⟨j + 1, .vl (.fz d), by omega, by omega, by omega, jk_vl, ?_⟩
              rw [show ((b + (j + 1) : Nat) : Int) = ((b + j : Nat) : Int) + 1 by omega]
          · exfalso; omega
        · have hj : j = (figs (c :: B)).length := by omega
          subst hj
          have atR := At.restK atB
          have tnr := atR.len
          cases hR : T22.rest (c :: B) with
          | nil =>
            rw [hR, List.length_nil] at tnr
            refine br_dec (fun h => ?_) (fun h => ?_)
            · exfalso; omega
            walk_at "WP"
            exact ⟨_, .vl (.fz d), Nat.le_refl _, by omega, .inr rfl, jk_vl, rfl⟩
          | cons x R =>
            rw [hR] at atR
            have nf := rest_head hR
            have xk := ok.sg x (At.mem atR x List.mem_cons_self)
            rw [hR, List.length_cons] at tnr
            refine br_dec (fun h => ?_) (fun h => ?_)
            · walk_at "WP"
              refine o_ixS (by show _ ≤ 16777216; omega) atR.ix ?_
              walk_at "WP"
              rw [occF x (by omega), nf]
              walk_at "WP"
              exact ⟨_, .vl (.fz d), Nat.le_refl _, by omega, .inr rfl, jk_vl, rfl⟩
            · exfalso; omega
      · rintro ρ ⟨j, s4, j1, j2, j3, j4, rfl⟩
        rw [rngL_length] at j3
        have hj : j = (figs (c :: B)).length := by omega
        subst hj
        have seg : cutS t (some (p : Int)) (some ((b + (figs (c :: B)).length : Nat) : Int)) = ⟨((if neg then [45] else []) ++ figs (c :: B)).toArray⟩ := by
          have h2 : At t p ((pre ++ figs (c :: B)) ++ T22.rest (c :: B)) := by rw [List.append_assoc, figs_rest]; exact ‹At t p (pre ++ c :: B)›
          have := h2.seg
          rw [List.length_append, show p + (pre.length + (figs (c :: B)).length) = b + (figs (c :: B)).length by omega] at this
          rw [this, hpre]
        have val := int_of (neg := neg) (D := figs (c :: B)) figs_all (by rw [figs_cons hf]; simp) (by omega)
        have small : (⟨((if neg then [45] else []) ++ figs (c :: B)).toArray⟩ : Str).length ≤ 4000 := by
          show (((if neg then [45] else []) ++ figs (c :: B)).toArray).size ≤ 4000
          rw [List.size_toArray, List.length_append]
          cases neg <;> simp <;> omega
        walk_at "WP"
        refine o_slS (by show _ ≤ 16777216; omega) ?_
        rw [seg]
        walk_at "WP"
        refine o_intS small val ?_
        walk_at "WP"
        exact LV.lt (LT.good (p := b + (figs (c :: B)).length) (S := T22.rest (c :: B)) (numB_ok hf n48 (by omega)) rfl)
    · have hf : fig c = false := by simpa using hf
      rw [hf]
      walk_at "WP"
      exact LV.lt (LT.badI (q := b) (numB_no hf) rfl)
end K22

namespace K22
open PySem PySem.Spec L2 Lay Com TL T21 T22
local macro_rules | `(tactic| walk_at "WP") => `(tactic| (repeat (first | with_reducible refine ws_seq ?_ | with_reducible refine ws_asg ?_ | with_reducible refine ws_if ?_ | with_reducible refine ws_ret ?_ | with_reducible refine ws_expr ?_ | with_reducible refine ws_par ?_ | with_reducible refine ws_nx ?_ | with_reducible refine ws_raise ?_ | with_reducible refine o_TT ?_ | with_reducible refine ws_bk ?_ | with_reducible refine ws_ct ?_ | with_reducible refine ws_retN ?_ | with_reducible refine ws_st_nil ?_ | with_reducible refine ws_st_cons ?_ | with_reducible refine w_D ?_ | with_reducible refine w_x2 ?_ | with_reducible refine w_x1 ?_ | with_reducible refine w_notV ?_ | with_reducible refine w_Nil ?_ | with_reducible refine w_Cons ?_ | with_reducible refine w_N ?_ | with_reducible refine w_M ?_ | with_reducible refine w_Ty ?_ | with_reducible refine w_Tup ?_ | with_reducible refine w_LstF ?_ | with_reducible refine w_Fz ?_ | with_reducible refine w_T ?_ | with_reducible refine w_Tru ?_ | with_reducible refine w_And ?_ | with_reducible refine w_Or ?_ | with_reducible refine w_Not ?_ | with_reducible refine w_If ?_ | with_reducible refine w_OrV ?_ | with_reducible refine w_AndV ?_ | with_reducible refine w_Js_nil ?_ | with_reducible refine w_Js_cons ?_ | with_reducible refine w_Call ?_ | with_reducible refine w_Mut ?_ | with_reducible refine w_Yes ?_ | with_reducible refine w_gIx ?_ | with_reducible refine w_gS_nil ?_ | with_reducible refine w_gS_cons ?_ | with_reducible refine w_Sq ?_ | with_reducible refine w_Rg1 ?_ | with_reducible refine w_Rg2 ?_ | with_reducible refine w_NoPart ?_ | with_reducible refine w_Part ?_ | with_reducible refine w_Sl ?_ | with_reducible refine ws_aug ?_ | with_reducible refine o_addI ?_ | with_reducible refine o_find2 ?_ | with_reducible refine o_find3 ?_ | with_reducible refine o_add ?_ | with_reducible refine o_sub ?_ | with_reducible refine o_lt ?_ | with_reducible refine o_le ?_ | with_reducible refine o_gt ?_ | with_reducible refine o_ge ?_ | with_reducible refine o_eqI ?_ | with_reducible refine o_neI ?_ | with_reducible refine o_int ?_ | with_reducible refine o_intB ?_ | with_reducible refine o_gcd ?_ | with_reducible refine o_lenT ?_ | with_reducible refine o_lenL ?_ | with_reducible refine o_lenK ?_ | with_reducible refine o_lenO ?_ | with_reducible refine o_isN ?_ | with_reducible refine o_isB ?_ | with_reducible refine o_isnN ?_ | with_reducible refine o_isnB ?_ | with_reducible refine o_neg ?_ | with_reducible refine o_eqS ?_ | with_reducible refine o_neS ?_ | refine w_var rfl ?_ | refine w_gLs rfl ?_ | refine w_gS_cons ?_ | refine w_gS_nil ?_ | refine ws_st_cons ?_ | refine ws_st_nil ?_ | refine w_Js_cons ?_ | refine w_Js_nil ?_ | refine w_gNm rfl ?_ | refine w_gJ rfl (by assumption) ?_ | refine w_gTu rfl ?_ | refine o_isi (by decide) ?_ | refine o_mul (by first | exact cMul_r (by omega) (by omega) | exact cMul_l (by omega) (by omega)) ?_ | refine o_mul (by assumption) ?_ | refine o_mod (by omega) ?_ | refine o_fdivS (by omega) (by omega) ?_ | refine o_absN ?_ | refine ⟨⟨by omega, by omega⟩, ?_⟩ | refine ⟨⟨⟨by omega, by omega⟩, by omega, by omega⟩, ?_⟩ | refine ⟨@rfl _ _, ?_⟩ | refine ⟨⟨@rfl _ _, @rfl _ _⟩, ?_⟩ | refine ⟨_, rfl, ?_⟩ | refine ⟨⟨Nat.le_of_ble_eq_true rfl, fun _ h => nomatch h⟩, ?_⟩ | refine ⟨Nat.le_of_ble_eq_true rfl, ?_⟩ | refine br_true ?_ | refine br_false ?_ | refine w_back rfl ?_ | refine wo rfl ?_)))
local macro_rules | `(tactic| walk_at "WQ") => `(tactic| (repeat (first | with_reducible refine ws_seq ?_ | with_reducible refine ws_asg ?_ | with_reducible refine ws_ret ?_ | with_reducible refine ws_expr ?_ | with_reducible refine ws_par ?_ | with_reducible refine ws_nx ?_ | with_reducible refine ws_raise ?_ | with_reducible refine o_TT ?_ | with_reducible refine ws_bk ?_ | with_reducible refine ws_ct ?_ | with_reducible refine ws_retN ?_ | with_reducible refine ws_st_nil ?_ | with_reducible refine ws_st_cons ?_ | with_reducible refine w_D ?_ | with_reducible refine w_x2 ?_ | with_reducible refine w_x1 ?_ | with_reducible refine w_notV ?_ | with_reducible refine w_Nil ?_ | with_reducible refine w_Cons ?_ | with_reducible refine w_N ?_ | with_reducible refine w_M ?_ | with_reducible refine w_Ty ?_ | with_reducible refine w_Tup ?_ | with_reducible refine w_LstF ?_ | with_reducible refine w_Fz ?_ | with_reducible refine w_T ?_ | with_reducible refine w_Tru ?_ | with_reducible refine w_And ?_ | with_reducible refine w_Or ?_ | with_reducible refine w_Not ?_ | with_reducible refine w_If ?_ | with_reducible refine w_OrV ?_ | with_reducible refine w_AndV ?_ | with_reducible refine w_Js_nil ?_ | with_reducible refine w_Js_cons ?_ | with_reducible refine w_Call ?_ | with_reducible refine w_Mut ?_ | with_reducible refine w_Yes ?_ | with_reducible refine w_gIx ?_ | with_reducible refine w_gS_nil ?_ | with_reducible refine w_gS_cons ?_ | with_reducible refine w_Sq ?_ | with_reducible refine w_Rg1 ?_ | with_reducible refine w_Rg2 ?_ | with_reducible refine w_NoPart ?_ | with_reducible refine w_Part ?_ | with_reducible refine w_Sl ?_ | with_reducible refine ws_aug ?_ | with_reducible refine o_addI ?_ | with_reducible refine o_find2 ?_ | with_reducible refine o_find3 ?_ | with_reducible refine o_add ?_ | with_reducible refine o_sub ?_ | with_reducible refine o_lt ?_ | with_reducible refine o_le ?_ | with_reducible refine o_gt ?_ | with_reducible refine o_ge ?_ | with_reducible refine o_eqI ?_ | with_reducible refine o_neI ?_ | with_reducible refine o_int ?_ | with_reducible refine o_intB ?_ | with_reducible refine o_gcd ?_ | with_reducible refine o_lenT ?_ | with_reducible refine o_lenL ?_ | with_reducible refine o_lenK ?_ | with_reducible refine o_lenO ?_ | with_reducible refine o_isN ?_ | with_reducible refine o_isB ?_ | with_reducible refine o_isnN ?_ | with_reducible refine o_isnB ?_ | with_reducible refine o_neg ?_ | with_reducible refine o_eqS ?_ | with_reducible refine o_neS ?_ | refine w_var rfl ?_ | refine w_gLs rfl ?_ | refine w_gS_cons ?_ | refine w_gS_nil ?_ | refine ws_st_cons ?_ | refine ws_st_nil ?_ | refine w_Js_cons ?_ | refine w_Js_nil ?_ | refine w_gNm rfl ?_ | refine w_gJ rfl (by assumption) ?_ | refine w_gTu rfl ?_ | refine o_isi (by decide) ?_ | refine o_mul (by first | exact cMul_r (by omega) (by omega) | exact cMul_l (by omega) (by omega)) ?_ | refine o_mul (by assumption) ?_ | refine o_mod (by omega) ?_ | refine o_fdivS (by omega) (by omega) ?_ | refine o_absN ?_ | refine ⟨⟨by omega, by omega⟩, ?_⟩ | refine ⟨⟨⟨by omega, by omega⟩, by omega, by omega⟩, ?_⟩ | refine ⟨@rfl _ _, ?_⟩ | refine ⟨⟨@rfl _ _, @rfl _ _⟩, ?_⟩ | refine ⟨_, rfl, ?_⟩ | refine ⟨⟨Nat.le_of_ble_eq_true rfl, fun _ h => nomatch h⟩, ?_⟩ | refine ⟨Nat.le_of_ble_eq_true rfl, ?_⟩ | refine br_true ?_ | refine br_false ?_ | refine w_back rfl ?_ | refine wo rfl ?_)))
local macro_rules | `(tactic| walk_at "WI") => `(tactic| (repeat (first | with_reducible refine ws_seq ?_ | with_reducible refine ws_asg ?_ | with_reducible refine ws_if ?_ | with_reducible refine ws_ret ?_ | with_reducible refine ws_expr ?_ | with_reducible refine ws_par ?_ | with_reducible refine ws_nx ?_ | with_reducible refine ws_raise ?_ | with_reducible refine o_TT ?_ | with_reducible refine ws_bk ?_ | with_reducible refine ws_ct ?_ | with_reducible refine ws_retN ?_ | with_reducible refine ws_st_nil ?_ | with_reducible refine ws_st_cons ?_ | with_reducible refine w_D ?_ | with_reducible refine w_x2 ?_ | with_reducible refine w_x1 ?_ | with_reducible refine w_notV ?_ | with_reducible refine w_Nil ?_ | with_reducible refine w_Cons ?_ | with_reducible refine w_N ?_ | with_reducible refine w_M ?_ | with_reducible refine w_Ty ?_ | with_reducible refine w_Tup ?_ | with_reducible refine w_LstF ?_ | with_reducible refine w_Fz ?_ | with_reducible refine w_T ?_ | with_reducible refine w_Tru ?_ | with_reducible refine w_And ?_ | with_reducible refine w_Or ?_ | with_reducible refine w_Not ?_ | with_reducible refine w_OrV ?_ | with_reducible refine w_AndV ?_ | with_reducible refine w_Js_nil ?_ | with_reducible refine w_Js_cons ?_ | with_reducible refine w_Call ?_ | with_reducible refine w_Mut ?_ | with_reducible refine w_Yes ?_ | with_reducible refine w_gIx ?_ | with_reducible refine w_gS_nil ?_ | with_reducible refine w_gS_cons ?_ | with_reducible refine w_Sq ?_ | with_reducible refine w_Rg1 ?_ | with_reducible refine w_Rg2 ?_ | with_reducible refine w_NoPart ?_ | with_reducible refine w_Part ?_ | with_reducible refine w_Sl ?_ | with_reducible refine ws_aug ?_ | with_reducible refine o_addI ?_ | with_reducible refine o_find2 ?_ | with_reducible refine o_find3 ?_ | with_reducible refine o_add ?_ | with_reducible refine o_sub ?_ | with_reducible refine o_lt ?_ | with_reducible refine o_le ?_ | with_reducible refine o_gt ?_ | with_reducible refine o_ge ?_ | with_reducible refine o_eqI ?_ | with_reducible refine o_neI ?_ | with_reducible refine o_int ?_ | with_reducible refine o_intB ?_ | with_reducible refine o_gcd ?_ | with_reducible refine o_lenT ?_ | with_reducible refine o_lenL ?_ | with_reducible refine o_lenK ?_ | with_reducible refine o_lenO ?_ | with_reducible refine o_isN ?_ | with_reducible refine o_isB ?_ | with_reducible refine o_isnN ?_ | with_reducible refine o_isnB ?_ | with_reducible refine o_neg ?_ | with_reducible refine o_eqS ?_ | with_reducible refine o_neS ?_ | refine w_var rfl ?_ | refine w_gLs rfl ?_ | refine w_gS_cons ?_ | refine w_gS_nil ?_ | refine ws_st_cons ?_ | refine ws_st_nil ?_ | refine w_Js_cons ?_ | refine w_Js_nil ?_ | refine w_gNm rfl ?_ | refine w_gJ rfl (by assumption) ?_ | refine w_gTu rfl ?_ | refine o_isi (by decide) ?_ | refine o_mul (by first | exact cMul_r (by omega) (by omega) | exact cMul_l (by omega) (by omega)) ?_ | refine o_mul (by assumption) ?_ | refine o_mod (by omega) ?_ | refine o_fdivS (by omega) (by omega) ?_ | refine o_absN ?_ | refine ⟨⟨by omega, by omega⟩, ?_⟩ | refine ⟨⟨⟨by omega, by omega⟩, by omega, by omega⟩, ?_⟩ | refine ⟨@rfl _ _, ?_⟩ | refine ⟨⟨@rfl _ _, @rfl _ _⟩, ?_⟩ | refine ⟨_, rfl, ?_⟩ | refine ⟨⟨Nat.le_of_ble_eq_true rfl, fun _ h => nomatch h⟩, ?_⟩ | refine ⟨Nat.le_of_ble_eq_true rfl, ?_⟩ | refine br_true ?_ | refine br_false ?_ | refine w_back rfl ?_ | refine wo rfl ?_)))
local macro_rules | `(tactic| walk_at "NE") => `(tactic| (dsimp only [List.set_cons_succ, List.set_cons_zero, frz]))
local macro_rules | `(tactic| walk_at "FIN") => `(tactic| (first | rfl | exact ⟨rfl, rfl⟩ | exact trivial | exact ⟨trivial, rfl⟩ | exact ⟨trivial, trivial⟩ | exact ⟨rfl, trivial⟩))
theorem occT : ∀ c < 128, (Builtin.Str.occurrences (Str.ofString "TFN") ⟨#[c]⟩ 0 (Str.ofString "TFN").length 1).isEmpty = !decide (c = 84 ∨ c = 70 ∨ c = 78) := by decide +kernel
theorem occD : ∀ c < 128, (Builtin.Str.occurrences (Str.ofString "-0123456789") ⟨#[c]⟩ 0 (Str.ofString "-0123456789").length 1).isEmpty = !(decide (c = 45) || fig c) := by decide +kernel
def LValS (f : Nat) : Prop := ∀ (t : Str) (n deep p : Nat) (S : List Nat), OkT t → deep ≤ 40 → 40 - deep + 1 ≤ n → 2 * S.length + 2 ≤ f → At t p S →
  Wf (F__law_value_at n) [.fz (.str t), .fz (.int (p : Int)), .fz (.int (deep : Int))] (LV t (valP f deep p S)) nX
theorem LV.sol {t : Str} {f deep p : Nat} {S : List Nat} {r out : OT} (hd : deep ≤ 40) (h : At t p S) (q : LV t (valP f deep p S) r out) : (solidO r && solidO out) = true := by
  cases q with
  | lt q =>
    cases q with
    | ok e =>
      rename_i d p' S'
      obtain ⟨_, _, a3⟩ := valP_at f deep p S d p' S' hd h e
      show ((solid d && (true && true)) && true) = true
      rw [vd_solid _ _ a3]
      rfl
    | no e => rfl
  | nought e a b => rfl
def TV (t : Str) (deep p0 : Nat) (R : PR) (F k : Nat) (ρ : Lay.Env) : Prop := ∃ (f p : Nat) (S : List Nat) (acc : List Dat) (s3 s5 s6 s7 : Sl), At t p S ∧ tupP f (deep + 1) p S acc = R ∧ 2 * S.length + 3 ≤ f ∧ f ≤ F ∧ acc.length ≤ p ∧ k + p0 ≤ p ∧ Jk s3 ∧ Jk s5 ∧ Jk s6 ∧ Jk s7 ∧
  ρ = [.vl (.fz (.str t)), .vl (.fz (.int (p : Int))), .vl (.fz (.int (deep : Int))), s3, .vl (.fz (.tup acc)), s5, s6, s7]
theorem lval_all : ∀ f, LValS f := by
  intro f
  induction f using Nat.strongRecOn with
  | _ f IH =>
  intro t n deep p S ok hd hn hf h
  have hl := ok.len
  have tn := h.len
  obtain ⟨f, rfl⟩ : ∃ g, f = g + 1 := ⟨f - 1, by omega⟩
  obtain ⟨n, rfl⟩ : ∃ m, n = m + 1 := ⟨n - 1, by omega⟩
  cases S with
  | nil =>
    rw [List.length_nil] at tn
    refine Wf.run ?_
    show Ws (G__law_value_at _) [.vl _, .vl _, .vl _, .un, .un, .un, .un, .un] _
    unfold G__law_value_at
    walk_at "WP"
    refine o_lenS (by show _ ≤ 16777216; omega) ?_
    walk_at "WP"
    refine br_dec (fun h => ?_) (fun h => ?_)
    · walk_at "WP"
      refine o_lenS (by show _ ≤ 16777216; omega) ?_
      walk_at "WP"
      refine LV.lt (LT.badI (q := p) rfl ?_)
      omega
    · exfalso; omega
  | cons c R =>
    have ck := ok.sg c (At.mem h c List.mem_cons_self)
    rw [List.length_cons] at hf tn
    refine Wf.run ?_
    show Ws (G__law_value_at _) [.vl _, .vl _, .vl _, .un, .un, .un, .un, .un] _
    unfold G__law_value_at
    walk_at "WP"
    refine o_lenS (by show _ ≤ 16777216; omega) ?_
    walk_at "WP"
    refine br_dec (fun h => ?_) (fun _ => ?_)
    · exfalso; omega
    walk_at "WP"
    refine o_ixS (by show _ ≤ 16777216; omega) h.ix ?_
    walk_at "WP"
    walk_at "NE"
    rw [occT c (by omega)]
    by_cases c84 : c = 84
    · subst c84
      walk_at "WP"
      exact LV.lt (LT.good (p := p + 1) (S := R) rfl rfl)
    by_cases c70 : c = 70
    · subst c70
      walk_at "WP"
      exact LV.lt (LT.good (p := p + 1) (S := R) rfl rfl)
    by_cases c78 : c = 78
    · subst c78
      walk_at "WP"
      exact LV.lt (LT.good (p := p + 1) (S := R) rfl rfl)
    rw [decide_eq_false (by omega : ¬ (c = 84 ∨ c = 70 ∨ c = 78))]
    by_cases c34 : c = 34
    · subst c34
      have e0 : valP (f + 1) deep p (34 :: R) = textP R (p + 1) [] := rfl
      walk_at "WP"
      refine (ltext_spec ok h.next).go fun r out q => ?_
      rw [← e0] at q
      refine w_backT (LV.sol hd h (.lt q)) ?_
      walk_at "WP"
      cases q with
      | ok e => exact .lt (.ok e)
      | no e => exact .lt (.no e)
    walk_at "WP"
    refine br_dec (fun z => absurd ((eq_one s34).mp z) c34) (fun _ => ?_)
    walk_at "WP"
    rw [occD c (by omega)]
    by_cases hcd : c = 45 ∨ fig c = true
    · have e0 : valP (f + 1) deep p (c :: R) = numP (c :: R) p := by
        have c40 : c ≠ 40 := by
          rintro rfl
          rcases hcd with z | z
          · omega
          · exact absurd z (by decide)
        show (if c = 78 then _ else if c = 84 then _ else if c = 70 then _ else if c = 34 then _ else if c = 40 then _ else _) = _
        rw [if_neg c78, if_neg c84, if_neg c70, if_neg c34, if_neg c40]
      have eb : (decide (c = 45) || fig c) = true := by
        rcases hcd with z | z
        · rw [decide_eq_true z]; rfl
        · rw [z]; simp
      rw [eb]
      walk_at "WP"
      refine (ldigits_spec ok h).go fun r out q => ?_
      rw [← e0] at q
      refine w_backT (LV.sol hd h q) ?_
      walk_at "WP"
      cases q with
      | lt q =>
        cases q with
        | ok e => exact .lt (.ok e)
        | no e => exact .lt (.no e)
      | nought e a b => exact .nought e a b
    have nf : fig c = false := by simpa using fun z => hcd (.inr z)
    have n45 : c ≠ 45 := fun z => hcd (.inl z)
    have eb : (decide (c = 45) || fig c) = false := by rw [decide_eq_false n45, nf]; rfl
    rw [eb]
    by_cases c40 : c = 40
    · subst c40
      by_cases h40 : deep = 40
      · subst h40
        walk_at "WP"
        exact LV.lt (LT.badI (q := p) rfl rfl)
      have e0 : valP (f + 1) deep p (40 :: R) = tupQ f (deep + 1) (p + 1) R := by
        show (if deep = 40 then _ else _) = _
        rw [if_neg h40]
        rfl
      rw [e0]
      walk_at "WP"
      refine br_dec (fun z => ?_) (fun _ => ?_)
      · exfalso; omega
      have h1 := h.next
      by_cases h41 : R.head? = some 41
      · walk_at "WP"
        walk_at "NE"
        cases R with
        | nil => cases h41
        | cons c R =>
          obtain rfl : c = 41 := Option.some.inj h41
          have ix1 := h1.ix
          rw [show ((p + 1 : Nat) : Int) = (p : Int) + 1 by omega] at ix1
          rw [List.length_cons] at tn
          refine o_lenS (by show _ ≤ 16777216; omega) ?_
          walk_at "WP"
          refine br_dec (fun z => ?_) (fun z => ?_)
          · walk_at "WP"
            refine o_ixS (by show _ ≤ 16777216; omega) ix1 ?_
            walk_at "WP"
            refine LV.lt (LT.good (p := p + 2) (S := R) rfl ?_)
            omega
          · exfalso; omega
      have etq : tupQ f (deep + 1) (p + 1) R = tupP f (deep + 1) (p + 1) R [] := if_neg h41
      rw [etq]
      walk_at "WQ"
      walk_at "NE"
      refine ws_JE ?_ ?_
      · walk_at "WP"
        refine o_lenS (by show _ ≤ 16777216; omega) ?_
        walk_at "WP"
        cases R with
        | nil =>
          rw [List.length_nil] at tn
          refine br_dec (fun z => ?_) (fun z => ?_)
          · exfalso; omega
          walk_at "WP"
          walk_at "FIN"
        | cons c R =>
          have ix1 := h1.ix
          rw [show ((p + 1 : Nat) : Int) = (p : Int) + 1 by omega] at ix1
          refine br_dec (fun z => ?_) (fun z => ?_)
          · walk_at "WP"
            refine o_ixS (by show _ ≤ 16777216; omega) ix1 ?_
            walk_at "WP"
            refine br_dec (fun z => absurd (by rw [(eq_one s41).mp z]; rfl) h41) (fun z => ?_)
            walk_at "WP"
            walk_at "FIN"
          · walk_at "WP"
            walk_at "FIN"
      walk_at "WP"
      refine ws_for ?_
      walk_at "WP"
      refine o_lenS (by show _ ≤ 16777216; omega) ?_
      walk_at "WP"
      refine ⟨TV t deep (p + 1) (tupP f (deep + 1) (p + 1) R []) f, ?_, ?_, ?_⟩
      · exact ⟨f, p + 1, R, [], _, _, _, _, h1, rfl, by omega, Nat.le_refl _, by simp, by omega, jk_vl, jk_un, jk_un, jk_un, rfl⟩
      · rintro k x ρ hx ⟨f1, p1, S1, acc, s3, s5, s6, s7, a1, a2, a3, a4, a5, a6, j3, j5, j6, j7, rfl⟩
        have tn1 := a1.len
        obtain ⟨g, rfl⟩ : ∃ g, f1 = g + 1 := ⟨f1 - 1, by omega⟩
        have q := IH g (by omega) t n (deep + 1) p1 S1 ok (by omega) (by omega) (by omega) a1
        walk_at "WP"
        refine q.go fun r out q => ?_
        refine w_backT (LV.sol (by omega) a1 q) ?_
        cases q with
        | lt q =>
          cases q with
          | ok e =>
            rename_i d p' S'
            obtain ⟨b1, b2, _⟩ := valP_at g (deep + 1) p1 S1 d p' S' (by omega) a1 e
            have tn2 := b1.len
            have ea : tupP (g + 1) (deep + 1) p1 S1 acc = tupStep g (deep + 1) p' S' acc d := tupP_ok e
            walk_at "WP"
            walk_at "NE"
            refine o_addT (by show acc.length + 1 ≤ 16777216; omega) ?_
            walk_at "WP"
            walk_at "NE"
            refine o_lenS (by show _ ≤ 16777216; omega) ?_
            walk_at "WP"
            cases S' with
            | nil =>
              rw [List.length_nil] at tn2
              refine br_dec (fun z => ?_) (fun z => ?_)
              · walk_at "WP"
                refine o_lenS (by show _ ≤ 16777216; omega) ?_
                walk_at "WP"
                refine LV.lt (LT.badI (q := p') (a2.symm.trans ea) ?_)
                omega
              · exfalso; omega
            | cons c R2 =>
              have ea : tupP (g + 1) (deep + 1) p1 S1 acc = if c = 41 then .ok (.tup (acc ++ [d])) (p' + 1) R2 else if c = 32 then tupP g (deep + 1) (p' + 1) R2 (acc ++ [d]) else .bad p' := ea
              rw [List.length_cons] at tn2
              refine br_dec (fun z => ?_) (fun _ => ?_)
              · exfalso; omega
              walk_at "WP"
              refine o_ixS (by show _ ≤ 16777216; omega) b1.ix ?_
              walk_at "WP"
              refine br_dec (fun z => ?_) (fun z => ?_)
              · obtain rfl := (eq_one s41).mp z
                walk_at "WP"
                exact LV.lt (LT.good (p := p' + 1) (S := R2) (a2.symm.trans ea) rfl)
              have n41 : c ≠ 41 := fun y => z ((eq_one s41).mpr y)
              rw [if_neg n41] at ea
              walk_at "WP"
              refine o_ixS (by show _ ≤ 16777216; omega) b1.ix ?_
              walk_at "WP"
              refine br_not (br_dec (fun z => ?_) (fun z => ?_))
              · obtain rfl := (eq_one s32).mp z
                rw [if_pos rfl] at ea
                walk_at "WP"
                walk_at "NE"
                refine ⟨g, p' + 1, R2, acc ++ [d], s3, .vl (.fz x), _, _, b1.next, ea.symm.trans a2, by omega, by omega, ?_, by omega, j3, jk_vl, jk_vl, jk_vl, rfl⟩
                rw [List.length_append, List.length_singleton]; omega
              have n32 : c ≠ 32 := fun y => z ((eq_one s32).mpr y)
              rw [if_neg n32] at ea
              walk_at "WP"
              exact LV.lt (LT.badI (q := p') (a2.symm.trans ea) rfl)
          | no e =>
            rename_i q'
            unfold badL
            walk_at "WP"
            walk_at "NE"
            exact LV.lt (LT.badI (q := q') (a2.symm.trans (tupP_bad e)) rfl)
        | nought e b1 b2 =>
          rename_i q' c T
          have tn2 := b1.len
          rw [List.length_cons] at tn2
          have n41 : c ≠ 41 := by rintro rfl; cases b2
          have n32 : c ≠ 32 := by rintro rfl; cases b2
          walk_at "WP"
          walk_at "NE"
          refine o_addT (by show acc.length + 1 ≤ 16777216; omega) ?_
          walk_at "WP"
          walk_at "NE"
          refine o_lenS (by show _ ≤ 16777216; omega) ?_
          walk_at "WP"
          refine br_dec (fun z => ?_) (fun _ => ?_)
          · exfalso; omega
          walk_at "WP"
          refine o_ixS (by show _ ≤ 16777216; omega) b1.ix ?_
          walk_at "WP"
          refine br_dec (fun z => absurd ((eq_one s41).mp z) n41) (fun z => ?_)
          walk_at "WP"
          refine o_ixS (by show _ ≤ 16777216; omega) b1.ix ?_
          walk_at "WP"
          refine br_not (br_dec (fun z => absurd ((eq_one s32).mp z) n32) (fun z => ?_))
          walk_at "WP"
          exact LV.lt (LT.badI (q := q') (a2.symm.trans (tupP_bad e)) rfl)
      · rintro ρ ⟨f1, p1, S1, acc, s3, s5, s6, s7, a1, a2, a3, a4, a5, a6, j3, j5, j6, j7, rfl⟩
        exfalso
        have tn1 := a1.len
        rw [rngL_length] at a6
        omega
    · have e0 : valP (f + 1) deep p (c :: R) = .bad p := by
        show (if c = 78 then _ else if c = 84 then _ else if c = 70 then _ else if c = 34 then _ else if c = 40 then _ else _) = _
        rw [if_neg c78, if_neg c84, if_neg c70, if_neg c34, if_neg c40, numP_pos (by intro z; exact n45 (Option.some.inj z)), numB_no nf]
      walk_at "WP"
      refine br_not (br_dec (fun z => absurd ((eq_one s40).mp z) c40) (fun _ => ?_))
      walk_at "WP"
      exact LV.lt (LT.badI (q := p) e0 rfl)
theorem lread_spec {t : Str} (ok : OkT t) : Wf F__law_read [.fz (.str t)] (fun r out => r = .fz (readP t) ∧ out = .fz .non) nX := by
  have hl := ok.len
  have q := lval_all (2 * t.length + 2) t 64 0 0 (tl t) ok (by decide) (by decide) (by rw [len_tl]; omega) (at_zero t)
  refine Wf.run ?_
  show Ws G__law_read [.vl _, .un, .un] _
  unfold G__law_read
  walk_at "WP"
  refine Wf.go q fun r out q => ?_
  refine w_backT (LV.sol (by omega) (at_zero t) q) ?_
  cases q with
  | lt q =>
    cases q with
    | ok e =>
      rename_i d p' S'
      obtain ⟨b1, b2, _⟩ := valP_at _ 0 0 (tl t) d p' S' (by omega) (at_zero t) e
      have tn2 := b1.len
      walk_at "WP"
      walk_at "NE"
      refine o_lenS (by show _ ≤ 16777216; omega) ?_
      walk_at "WP"
      refine br_dec (fun z => ?_) (fun z => ?_)
      · have er : readP t = .tup [.str "good", d] := by
          unfold readP
          rw [e]
          exact if_neg (by omega)
        walk_at "WP"
        rw [er]
        walk_at "FIN"
      · have er : readP t = .tup [.str "bad", .int (p' : Int)] := by
          unfold readP
          rw [e]
          exact if_pos (by omega)
        walk_at "WP"
        rw [er]
        walk_at "FIN"
    | no e =>
      rename_i q'
      unfold badL
      walk_at "WP"
      walk_at "NE"
      unfold readP
      rw [e]
      walk_at "FIN"
  | nought e b1 b2 =>
    rename_i q' c T
    have tn2 := b1.len
    rw [List.length_cons] at tn2
    walk_at "WP"
    walk_at "NE"
    refine o_lenS (by show _ ≤ 16777216; omega) ?_
    walk_at "WP"
    refine br_dec (fun z => ?_) (fun z => ?_)
    · exfalso; omega
    walk_at "WP"
    unfold readP
    rw [e]
    walk_at "FIN"
end K22

namespace K22
open PySem PySem.Spec L2 Lay Com TL T21 T22
local macro_rules | `(tactic| walk_at "WP") => `(tactic| (repeat (first | with_reducible refine ws_seq ?_ | with_reducible refine ws_asg ?_ | with_reducible refine ws_if ?_ | with_reducible refine ws_ret ?_ | with_reducible refine ws_expr ?_ | with_reducible refine ws_par ?_ | with_reducible refine ws_nx ?_ | with_reducible refine ws_raise ?_ | with_reducible refine o_TT ?_ | with_reducible refine ws_bk ?_ | with_reducible refine ws_ct ?_ | with_reducible refine ws_retN ?_ | with_reducible refine ws_st_nil ?_ | with_reducible refine ws_st_cons ?_ | with_reducible refine w_D ?_ | with_reducible refine w_x2 ?_ | with_reducible refine w_x1 ?_ | with_reducible refine w_notV ?_ | with_reducible refine w_Nil ?_ | with_reducible refine w_Cons ?_ | with_reducible refine w_N ?_ | with_reducible refine w_M ?_ | with_reducible refine w_Ty ?_ | with_reducible refine w_Tup ?_ | with_reducible refine w_LstF ?_ | with_reducible refine w_Fz ?_ | with_reducible refine w_T ?_ | with_reducible refine w_Tru ?_ | with_reducible refine w_And ?_ | with_reducible refine w_Or ?_ | with_reducible refine w_Not ?_ | with_reducible refine w_If ?_ | with_reducible refine w_OrV ?_ | with_reducible refine w_AndV ?_ | with_reducible refine w_Js_nil ?_ | with_reducible refine w_Js_cons ?_ | with_reducible refine w_Call ?_ | with_reducible refine w_Mut ?_ | with_reducible refine w_Yes ?_ | with_reducible refine w_gIx ?_ | with_reducible refine w_gS_nil ?_ | with_reducible refine w_gS_cons ?_ | with_reducible refine w_Sq ?_ | with_reducible refine w_Rg1 ?_ | with_reducible refine w_Rg2 ?_ | with_reducible refine w_NoPart ?_ | with_reducible refine w_Part ?_ | with_reducible refine w_Sl ?_ | with_reducible refine ws_aug ?_ | with_reducible refine o_addI ?_ | with_reducible refine o_find2 ?_ | with_reducible refine o_find3 ?_ | with_reducible refine o_add ?_ | with_reducible refine o_sub ?_ | with_reducible refine o_lt ?_ | with_reducible refine o_le ?_ | with_reducible refine o_gt ?_ | with_reducible refine o_ge ?_ | with_reducible refine o_eqI ?_ | with_reducible refine o_neI ?_ | with_reducible refine o_int ?_ | with_reducible refine o_intB ?_ | with_reducible refine o_gcd ?_ | with_reducible refine o_lenT ?_ | with_reducible refine o_lenL ?_ | with_reducible refine o_lenK ?_ | with_reducible refine o_lenO ?_ | with_reducible refine o_isN ?_ | with_reducible refine o_isB ?_ | with_reducible refine o_isnN ?_ | with_reducible refine o_isnB ?_ | with_reducible refine o_neg ?_ | with_reducible refine o_eqS ?_ | with_reducible refine o_neS ?_ | refine w_var rfl ?_ | refine w_gLs rfl ?_ | refine w_gS_cons ?_ | refine w_gS_nil ?_ | refine ws_st_cons ?_ | refine ws_st_nil ?_ | refine w_Js_cons ?_ | refine w_Js_nil ?_ | refine w_gNm rfl ?_ | refine w_gJ rfl (by assumption) ?_ | refine w_gTu rfl ?_ | refine o_isi (by decide) ?_ | refine o_mul (by first | exact cMul_r (by omega) (by omega) | exact cMul_l (by omega) (by omega)) ?_ | refine o_mul (by assumption) ?_ | refine o_mod (by omega) ?_ | refine o_fdivS (by omega) (by omega) ?_ | refine o_absN ?_ | refine ⟨⟨by omega, by omega⟩, ?_⟩ | refine ⟨⟨⟨by omega, by omega⟩, by omega, by omega⟩, ?_⟩ | refine ⟨@rfl _ _, ?_⟩ | refine ⟨⟨@rfl _ _, @rfl _ _⟩, ?_⟩ | refine ⟨_, rfl, ?_⟩ | refine ⟨⟨Nat.le_of_ble_eq_true rfl, fun _ h => nomatch h⟩, ?_⟩ | refine ⟨Nat.le_of_ble_eq_true rfl, ?_⟩ | refine br_true ?_ | refine br_false ?_ | refine w_back rfl ?_ | refine wo rfl ?_)))
local macro_rules | `(tactic| walk_at "WQ") => `(tactic| (repeat (first | with_reducible refine ws_seq ?_ | with_reducible refine ws_asg ?_ | with_reducible refine ws_ret ?_ | with_reducible refine ws_expr ?_ | with_reducible refine ws_par ?_ | with_reducible refine ws_nx ?_ | with_reducible refine ws_raise ?_ | with_reducible refine o_TT ?_ | with_reducible refine ws_bk ?_ | with_reducible refine ws_ct ?_ | with_reducible refine ws_retN ?_ | with_reducible refine ws_st_nil ?_ | with_reducible refine ws_st_cons ?_ | with_reducible refine w_D ?_ | with_reducible refine w_x2 ?_ | with_reducible refine w_x1 ?_ | with_reducible refine w_notV ?_ | with_reducible refine w_Nil ?_ | with_reducible refine w_Cons ?_ | with_reducible refine w_N ?_ | with_reducible refine w_M ?_ | with_reducible refine w_Ty ?_ | with_reducible refine w_Tup ?_ | with_reducible refine w_LstF ?_ | with_reducible refine w_Fz ?_ | with_reducible refine w_T ?_ | with_reducible refine w_Tru ?_ | with_reducible refine w_And ?_ | with_reducible refine w_Or ?_ | with_reducible refine w_Not ?_ | with_reducible refine w_If ?_ | with_reducible refine w_OrV ?_ | with_reducible refine w_AndV ?_ | with_reducible refine w_Js_nil ?_ | with_reducible refine w_Js_cons ?_ | with_reducible refine w_Call ?_ | with_reducible refine w_Mut ?_ | with_reducible refine w_Yes ?_ | with_reducible refine w_gIx ?_ | with_reducible refine w_gS_nil ?_ | with_reducible refine w_gS_cons ?_ | with_reducible refine w_Sq ?_ | with_reducible refine w_Rg1 ?_ | with_reducible refine w_Rg2 ?_ | with_reducible refine w_NoPart ?_ | with_reducible refine w_Part ?_ | with_reducible refine w_Sl ?_ | with_reducible refine ws_aug ?_ | with_reducible refine o_addI ?_ | with_reducible refine o_find2 ?_ | with_reducible refine o_find3 ?_ | with_reducible refine o_add ?_ | with_reducible refine o_sub ?_ | with_reducible refine o_lt ?_ | with_reducible refine o_le ?_ | with_reducible refine o_gt ?_ | with_reducible refine o_ge ?_ | with_reducible refine o_eqI ?_ | with_reducible refine o_neI ?_ | with_reducible refine o_int ?_ | with_reducible refine o_intB ?_ | with_reducible refine o_gcd ?_ | with_reducible refine o_lenT ?_ | with_reducible refine o_lenL ?_ | with_reducible refine o_lenK ?_ | with_reducible refine o_lenO ?_ | with_reducible refine o_isN ?_ | with_reducible refine o_isB ?_ | with_reducible refine o_isnN ?_ | with_reducible refine o_isnB ?_ | with_reducible refine o_neg ?_ | with_reducible refine o_eqS ?_ | with_reducible refine o_neS ?_ | refine w_var rfl ?_ | refine w_gLs rfl ?_ | refine w_gS_cons ?_ | refine w_gS_nil ?_ | refine ws_st_cons ?_ | refine ws_st_nil ?_ | refine w_Js_cons ?_ | refine w_Js_nil ?_ | refine w_gNm rfl ?_ | refine w_gJ rfl (by assumption) ?_ | refine w_gTu rfl ?_ | refine o_isi (by decide) ?_ | refine o_mul (by first | exact cMul_r (by omega) (by omega) | exact cMul_l (by omega) (by omega)) ?_ | refine o_mul (by assumption) ?_ | refine o_mod (by omega) ?_ | refine o_fdivS (by omega) (by omega) ?_ | refine o_absN ?_ | refine ⟨⟨by omega, by omega⟩, ?_⟩ | refine ⟨⟨⟨by omega, by omega⟩, by omega, by omega⟩, ?_⟩ | refine ⟨@rfl _ _, ?_⟩ | refine ⟨⟨@rfl _ _, @rfl _ _⟩, ?_⟩ | refine ⟨_, rfl, ?_⟩ | refine ⟨⟨Nat.le_of_ble_eq_true rfl, fun _ h => nomatch h⟩, ?_⟩ | refine ⟨Nat.le_of_ble_eq_true rfl, ?_⟩ | refine br_true ?_ | refine br_false ?_ | refine w_back rfl ?_ | refine wo rfl ?_)))
local macro_rules | `(tactic| walk_at "WI") => `(tactic| (repeat (first | with_reducible refine ws_seq ?_ | with_reducible refine ws_asg ?_ | with_reducible refine ws_if ?_ | with_reducible refine ws_ret ?_ | with_reducible refine ws_expr ?_ | with_reducible refine ws_par ?_ | with_reducible refine ws_nx ?_ | with_reducible refine ws_raise ?_ | with_reducible refine o_TT ?_ | with_reducible refine ws_bk ?_ | with_reducible refine ws_ct ?_ | with_reducible refine ws_retN ?_ | with_reducible refine ws_st_nil ?_ | with_reducible refine ws_st_cons ?_ | with_reducible refine w_D ?_ | with_reducible refine w_x2 ?_ | with_reducible refine w_x1 ?_ | with_reducible refine w_notV ?_ | with_reducible refine w_Nil ?_ | with_reducible refine w_Cons ?_ | with_reducible refine w_N ?_ | with_reducible refine w_M ?_ | with_reducible refine w_Ty ?_ | with_reducible refine w_Tup ?_ | with_reducible refine w_LstF ?_ | with_reducible refine w_Fz ?_ | with_reducible refine w_T ?_ | with_reducible refine w_Tru ?_ | with_reducible refine w_And ?_ | with_reducible refine w_Or ?_ | with_reducible refine w_Not ?_ | with_reducible refine w_OrV ?_ | with_reducible refine w_AndV ?_ | with_reducible refine w_Js_nil ?_ | with_reducible refine w_Js_cons ?_ | with_reducible refine w_Call ?_ | with_reducible refine w_Mut ?_ | with_reducible refine w_Yes ?_ | with_reducible refine w_gIx ?_ | with_reducible refine w_gS_nil ?_ | with_reducible refine w_gS_cons ?_ | with_reducible refine w_Sq ?_ | with_reducible refine w_Rg1 ?_ | with_reducible refine w_Rg2 ?_ | with_reducible refine w_NoPart ?_ | with_reducible refine w_Part ?_ | with_reducible refine w_Sl ?_ | with_reducible refine ws_aug ?_ | with_reducible refine o_addI ?_ | with_reducible refine o_find2 ?_ | with_reducible refine o_find3 ?_ | with_reducible refine o_add ?_ | with_reducible refine o_sub ?_ | with_reducible refine o_lt ?_ | with_reducible refine o_le ?_ | with_reducible refine o_gt ?_ | with_reducible refine o_ge ?_ | with_reducible refine o_eqI ?_ | with_reducible refine o_neI ?_ | with_reducible refine o_int ?_ | with_reducible refine o_intB ?_ | with_reducible refine o_gcd ?_ | with_reducible refine o_lenT ?_ | with_reducible refine o_lenL ?_ | with_reducible refine o_lenK ?_ | with_reducible refine o_lenO ?_ | with_reducible refine o_isN ?_ | with_reducible refine o_isB ?_ | with_reducible refine o_isnN ?_ | with_reducible refine o_isnB ?_ | with_reducible refine o_neg ?_ | with_reducible refine o_eqS ?_ | with_reducible refine o_neS ?_ | refine w_var rfl ?_ | refine w_gLs rfl ?_ | refine w_gS_cons ?_ | refine w_gS_nil ?_ | refine ws_st_cons ?_ | refine ws_st_nil ?_ | refine w_Js_cons ?_ | refine w_Js_nil ?_ | refine w_gNm rfl ?_ | refine w_gJ rfl (by assumption) ?_ | refine w_gTu rfl ?_ | refine o_isi (by decide) ?_ | refine o_mul (by first | exact cMul_r (by omega) (by omega) | exact cMul_l (by omega) (by omega)) ?_ | refine o_mul (by assumption) ?_ | refine o_mod (by omega) ?_ | refine o_fdivS (by omega) (by omega) ?_ | refine o_absN ?_ | refine ⟨⟨by omega, by omega⟩, ?_⟩ | refine ⟨⟨⟨by omega, by omega⟩, by omega, by omega⟩, ?_⟩ | refine ⟨@rfl _ _, ?_⟩ | refine ⟨⟨@rfl _ _, @rfl _ _⟩, ?_⟩ | refine ⟨_, rfl, ?_⟩ | refine ⟨⟨Nat.le_of_ble_eq_true rfl, fun _ h => nomatch h⟩, ?_⟩ | refine ⟨Nat.le_of_ble_eq_true rfl, ?_⟩ | refine br_true ?_ | refine br_false ?_ | refine w_back rfl ?_ | refine wo rfl ?_)))
local macro_rules | `(tactic| walk_at "NE") => `(tactic| (dsimp only [List.set_cons_succ, List.set_cons_zero, frz]))
local macro_rules | `(tactic| walk_at "FIN") => `(tactic| (first | rfl | exact ⟨rfl, rfl⟩ | exact trivial | exact ⟨trivial, rfl⟩ | exact ⟨trivial, trivial⟩ | exact ⟨rfl, trivial⟩))
theorem tl_int (i : Int) : tl (Str.ofString (toString i)) = if i < 0 then 45 :: numL i.natAbs else numL i.natAbs := by
  by_cases h : i < 0
  · rw [if_pos h]
    obtain ⟨m, rfl⟩ : ∃ m : Nat, i = Int.negSucc m := by
      cases i with
      | ofNat m => exact absurd h (by simp)
      | negSucc m => exact ⟨m, rfl⟩
    have e : toString (Int.negSucc m) = "-" ++ toString ((m + 1 : Nat) : Int) := rfl
    rw [e, tl_ofString, String.toList_append, List.map_append, ← tl_ofString, ← tl_ofString, tl_num]
    rfl
  · rw [if_neg h]
    obtain ⟨m, rfl⟩ := Int.eq_ofNat_of_zero_le (show 0 ≤ i by omega)
    rw [tl_num, Int.natAbs_natCast]
/-- values that are written, at most n deep -/
def okV : Nat → Dat → Bool
  | _, .non => true
  | _, .bl _ => true
  | _, .int i => decide (i.natAbs < 10 ^ 21)
  | _, .str s => decide (s.length ≤ 60)
  | n + 1, .tup xs => decide (xs.length ≤ 60) && xs.all (okV n)
  | _, _ => false
/-- how they are written, sign by sign -/
def pl : Nat → Dat → List Nat
  | _, .non => [78]
  | _, .bl b => if b then [84] else [70]
  | _, .int i => if i < 0 then 45 :: numL i.natAbs else numL i.natAbs
  | _, .str s => 34 :: (esc (tl s) ++ [34])
  | n + 1, .tup xs => 40 :: (joinL [32] (xs.map (pl n)) ++ [41])
  | _, _ => []
def txt (n : Nat) (d : Dat) : Str := ⟨(pl n d).toArray⟩
theorem tl_txt (n : Nat) (d : Dat) : tl (txt n d) = pl n d := rfl
theorem txt_len (n : Nat) (d : Dat) : (txt n d).length = (pl n d).length := len_tl _
theorem int_small {i : Int} (h : i.natAbs < 10 ^ 21) : i.natAbs.log2 < 1920 := Nat.lt_of_lt_of_le (PySem.Flt.log2_lt_of (n := i.natAbs) (k := 70) (by decide) (Nat.lt_trans h (by decide))) (by decide)
theorem joinL_len {S p : List Nat} : ∀ {ps : List (List Nat)}, p ∈ ps → p.length ≤ (joinL S ps).length
  | [q], h => by
    have : p = q := by simpa using h
    subst this
    exact Nat.le_refl _
  | q :: r :: ps, h => by
    show p.length ≤ (q ++ (S ++ joinL S (r :: ps))).length
    rw [List.length_append, List.length_append]
    rcases List.mem_cons.mp h with rfl | h
    · omega
    · have := joinL_len (S := S) h
      omega
theorem joinL_sum : ∀ (ps : List (List Nat)), (ps.map List.length).sum ≤ (joinL [32] ps).length
  | [] => by simp [joinL]
  | [q] => by simp [joinL]
  | q :: r :: ps => by
    have ih := joinL_sum (r :: ps)
    show _ ≤ (q ++ ([32] ++ joinL [32] (r :: ps))).length
    rw [List.length_append, List.length_append]
    simp only [List.map_cons, List.sum_cons] at ih ⊢
    omega
theorem fm_len (z : List Nat) (c : Nat) (hz : z.length ≤ 2) : ∀ l : List Nat, (l.flatMap fun k => if k = c then z else [k]).length ≤ 2 * l.length
  | [] => by simp
  | k :: l => by
    have ih := fm_len z c hz l
    rw [List.flatMap_cons, List.length_append, List.length_cons]
    by_cases h : k = c
    · rw [if_pos h]; omega
    · rw [if_neg h]; simp only [List.length_singleton]; omega
theorem repl_len (x z : Str) (c : Nat) (hc : c < 256) (hz : z.length ≤ 2) : (Txt.replace x ⟨#[c]⟩ z).length ≤ 2 * x.length := by
  rw [len_tl, tl_replace x z c hc, len_tl x]
  exact fm_len _ c (by rw [← len_tl]; exact hz) _
/-- a text between quotes -/
def quo (s : Str) : Str := Str.ofString "\"" ++ Txt.replace (Txt.replace (Txt.replace s "\\" "\\\\") "\"" "\\\"") "\n" "\\n" ++ Str.ofString "\""
theorem o_repl {x y z : Str} {k : OT → Prop} (h : x.length + (x.length + 1) * z.length ≤ 16777216) (q : k (.fz (.str (Txt.replace x y z)))) : Wo (opRepl y z (.fz (.str x))) k := by
  with_unfolding_all
    exact wo (if_pos h) q
theorem quo_ok {s : Str} (h : s.length ≤ 60) : quo s = txt 0 (.str s) := by
  refine ext_tl ?_
  unfold quo
  rw [tl_append, tl_append, tl_quoted, s34]
  rfl
theorem quoted_lens {s : Str} (h : s.length ≤ 60) : (Txt.replace s "\\" "\\\\").length ≤ 120 ∧ (Txt.replace (Txt.replace s "\\" "\\\\") "\"" "\\\"").length ≤ 240 ∧ (Txt.replace (Txt.replace (Txt.replace s "\\" "\\\\") "\"" "\\\"") "\n" "\\n").length ≤ 480 := by
  have h1 : (Txt.replace s "\\" "\\\\").length ≤ 2 * s.length := by
    rw [s92]; exact repl_len _ _ 92 (by decide) (by decide)
  have h2 : (Txt.replace (Txt.replace s "\\" "\\\\") "\"" "\\\"").length ≤ 2 * (Txt.replace s "\\" "\\\\").length := by
    rw [s34]; exact repl_len _ _ 34 (by decide) (by decide)
  have h3 : (Txt.replace (Txt.replace (Txt.replace s "\\" "\\\\") "\"" "\\\"") "\n" "\\n").length ≤ 2 * (Txt.replace (Txt.replace s "\\" "\\\\") "\"" "\\\"").length := by
    rw [s10]; exact repl_len _ _ 10 (by decide) (by decide)
  omega
theorem l92 : (Str.ofString "\\\\").length = 2 := by decide +kernel
theorem l34 : (Str.ofString "\\\"").length = 2 := by decide +kernel
theorem l10 : (Str.ofString "\\n").length = 2 := by decide +kernel
theorem lq : (Str.ofString "\"").length = 1 := by decide +kernel
theorem txtN (n : Nat) : Str.ofString "N" = txt n .non := ext_tl (by
  rw [tl_txt, show pl n .non = [78] by cases n <;> rfl]
  decide +kernel)
theorem txtT (n : Nat) : Str.ofString "T" = txt n (.bl true) := ext_tl (by
  rw [tl_txt, show pl n (.bl true) = [84] by cases n <;> rfl]
  decide +kernel)
theorem txtF (n : Nat) : Str.ofString "F" = txt n (.bl false) := ext_tl (by
  rw [tl_txt, show pl n (.bl false) = [70] by cases n <;> rfl]
  decide +kernel)
theorem txtI (n : Nat) (i : Int) : Str.ofString (toString i) = txt n (.int i) := ext_tl (by rw [tl_int, tl_txt]; cases n <;> rfl)
theorem txtS (n : Nat) {s : Str} (h : s.length ≤ 60) : quo s = txt n (.str s) := by
  rw [quo_ok h]
  cases n <;> rfl
theorem spT : (Str.ofString " ").length = 1 := by decide +kernel
theorem paT : (Str.ofString "(").length = 1 := by decide +kernel
theorem pbT : (Str.ofString ")").length = 1 := by decide +kernel
theorem tup_txt (n : Nat) (xs : List Dat) : Str.ofString "(" ++ Txt.join (Str.ofString " ") (xs.map (txt n)) ++ Str.ofString ")" = txt (n + 1) (.tup xs) := by
  refine ext_tl ?_
  rw [tl_append, tl_append, join_eq, tl_join, tl_txt, List.map_map]
  have e1 : tl (Str.ofString "(") = [40] := by decide +kernel
  have e2 : tl (Str.ofString ")") = [41] := by decide +kernel
  have e3 : tl (Str.ofString " ") = [32] := by decide +kernel
  rw [e1, e2, e3]
  rfl
theorem frz_txt (n : Nat) (xs : List Dat) : (xs.map fun d => OT.fz (.str (txt n d))).map (fun o => OT.fz (frz o)) = ((xs.map (txt n)).map Dat.str).map .fz := by
  simp [frz, List.map_map, Function.comp_def]
structure Tk (n : Nat) (d : Dat) : Prop where
  ok : okV n d = true
  len : (pl n d).length ≤ 1000000
theorem Tk.tup {n : Nat} {xs : List Dat} (h : Tk (n + 1) (.tup xs)) : xs.length ≤ 60 ∧ (joinL [32] (xs.map (pl n))).length ≤ 1000000 ∧ ∀ d ∈ xs, Tk n d := by
  obtain ⟨h1, h2⟩ := h
  have h1 : (decide (xs.length ≤ 60) && xs.all (okV n)) = true := h1
  have h2 : (40 :: (joinL [32] (xs.map (pl n)) ++ [41])).length ≤ 1000000 := h2
  simp only [Bool.and_eq_true, decide_eq_true_eq, List.all_eq_true] at h1
  rw [List.length_cons, List.length_append, List.length_singleton] at h2
  refine ⟨h1.1, by omega, fun d hd => ⟨h1.2 d hd, ?_⟩⟩
  have := joinL_len (S := [32]) (List.mem_map_of_mem (f := pl n) hd)
  omega
theorem Tk.join {n : Nat} {xs : List Dat} (h : Tk (n + 1) (.tup xs)) : ((xs.map (txt n)).map (·.length)).sum + (xs.map (txt n)).length * (Str.ofString " ").length ≤ 16777216 ∧ (Txt.join (Str.ofString " ") (xs.map (txt n))).length ≤ 1000000 := by
  obtain ⟨h1, h2, _⟩ := h.tup
  have h3 := joinL_sum (xs.map (pl n))
  constructor
  · rw [spT, List.length_map]
    have e : (xs.map (txt n)).map (·.length) = (xs.map (pl n)).map List.length := by
      rw [List.map_map, List.map_map]
      exact List.map_congr_left fun d _ => txt_len n d
    rw [e]
    omega
  · rw [len_tl, join_eq, tl_join, List.map_map]
    have e3 : tl (Str.ofString " ") = [32] := by decide +kernel
    rw [e3]
    exact h2
theorem plain_spec : ∀ (n : Nat) (d : Dat), Tk n d → Wf (F__law_plain (n + 1)) [.fz d] (fun r out => r = .fz (.str (txt n d)) ∧ out = .fz .non) nX
  | n, .non, _ => by
    refine Wf.run ?_
    show Ws (G__law_plain _) [.vl _, .un] _
    unfold G__law_plain
    walk_at "WP"
    exact ⟨by rw [txtN n], rfl⟩
  | n, .bl b, _ => by
    refine Wf.run ?_
    show Ws (G__law_plain _) [.vl _, .un] _
    unfold G__law_plain
    walk_at "WP"
    cases b
    · walk_at "WP"
      exact ⟨by rw [txtF n], rfl⟩
    · walk_at "WP"
      exact ⟨by rw [txtT n], rfl⟩
  | n, .int i, h => by
    have hi : i.natAbs < 10 ^ 21 := by
      have := h.ok
      cases n <;> exact of_decide_eq_true this
    refine Wf.run ?_
    show Ws (G__law_plain _) [.vl _, .un] _
    unfold G__law_plain
    walk_at "WP"
    refine o_strI (int_small hi) ?_
    walk_at "WP"
    exact ⟨by rw [← txtI n], rfl⟩
  | n, .str s, h => by
    have hs : s.length ≤ 60 := by
      have := h.ok
      cases n <;> exact of_decide_eq_true this
    refine Wf.run ?_
    show Ws (G__law_plain _) [.vl _, .un] _
    unfold G__law_plain
    walk_at "WP"
    obtain ⟨k1, k2, k3⟩ := quoted_lens hs
    refine o_repl (by rw [l92]; omega) ?_
    walk_at "WP"
    refine o_repl (by rw [l34]; omega) ?_
    walk_at "WP"
    refine o_repl (by rw [l10]; omega) ?_
    walk_at "WP"
    refine o_addS (by rw [lq]; show _ ≤ 16777216; omega) ?_
    walk_at "WP"
    refine o_addS (by rw [strLen_append, lq]; show _ ≤ 16777216; omega) ?_
    walk_at "WP"
    exact ⟨by rw [← txtS n hs]; rfl, rfl⟩
  | n + 1, .tup xs, h => by
    obtain ⟨h1, h2, h3⟩ := h.tup
    obtain ⟨j1, j2⟩ := h.join
    refine Wf.run ?_
    show Ws (G__law_plain _) [.vl _, .un] _
    unfold G__law_plain
    walk_at "WP"
    refine w_LcP ?_
    walk_at "WP"
    refine ⟨⟨by show xs.length ≤ 16777216; omega, fun _ h => nomatch h⟩, fun d => some (.fz (.str (txt n d))), fun d hd => ?_, rfl, ?_⟩
    · walk_at "WP"
      refine (plain_spec n d (h3 d hd)).go fun r out h => ?_
      obtain ⟨rfl, rfl⟩ := h
      walk_at "WP"
      walk_at "FIN"
    · simp only [fm_some]
      walk_at "WP"
      simp only [fzI, frz_txt]
      refine o_join (ds := (xs.map (txt n)).map Dat.str) (ys := xs.map (txt n)) (asL_map _) (strsD_map _) j1 ?_
      walk_at "WP"
      refine o_addS (by rw [paT]; show _ ≤ 16777216; omega) ?_
      walk_at "WP"
      refine o_addS (by rw [strLen_append, paT, pbT]; show _ ≤ 16777216; omega) ?_
      walk_at "WP"
      exact ⟨by rw [tup_txt], rfl⟩
  | n, .lst xs, h => by have := h.ok; cases n <;> cases this
  | n, .dic xs, h => by have := h.ok; cases n <;> cases this
  | n, .kst xs, h => by have := h.ok; cases n <;> cases this
  | 0, .tup xs, h => by cases h.ok
theorem num_figs (n : Nat) : ∀ c ∈ numL n, 48 ≤ c ∧ c ≤ 57 := by
  induction n using Nat.strongRecOn with
  | _ n ih =>
    by_cases h : n < 10
    · rw [numL_lt h]
      intro c hc
      have : c = 48 + n := by simpa using hc
      omega
    · rw [numL_step (by omega)]
      intro c hc
      rcases List.mem_append.mp hc with hc | hc
      · exact ih (n / 10) (by omega) c hc
      · have : c = 48 + n % 10 := by simpa using hc
        omega
theorem pl_scal (n : Nat) (d : Dat) (h : ∀ xs, d ≠ .tup xs) : pl n d = pl 0 d := by
  cases d with
  | tup xs => exact absurd rfl (h xs)
  | _ => cases n <;> rfl
theorem esc_le : ∀ l : List Nat, (esc l).length ≤ 2 * l.length
  | [] => Nat.le_refl _
  | k :: l => by
    have ih := esc_le l
    have e : esc (k :: l) = esc1 k ++ esc l := rfl
    rw [e, List.length_append, List.length_cons]
    have : (esc1 k).length ≤ 2 := by
      unfold esc1
      split
      · decide
      · split
        · decide
        · split <;> simp
    omega
theorem numL_small {m : Nat} (h : m < 10 ^ 21) : (numL m).length ≤ 22 := by
  have := numL_len (n := m) (k := 21) (by decide) h
  omega
theorem joinL_le {b : Nat} : ∀ (ps : List (List Nat)), (∀ p ∈ ps, p.length ≤ b) → (joinL [32] ps).length ≤ ps.length * (b + 1)
  | [], _ => by simp [joinL]
  | [q], h => by
    have := h q List.mem_cons_self
    simp [joinL]; omega
  | q :: r :: ps, h => by
    have ih := joinL_le (b := b) (r :: ps) fun p hp => h p (List.mem_cons_of_mem _ hp)
    have := h q List.mem_cons_self
    show (q ++ ([32] ++ joinL [32] (r :: ps))).length ≤ _
    have e : (q :: r :: ps).length * (b + 1) = (r :: ps).length * (b + 1) + (b + 1) := by
      rw [List.length_cons (a := q), Nat.add_mul, Nat.one_mul]
    rw [List.length_append, List.length_append, e]
    simp only [List.length_cons, List.length_nil] at ih ⊢
    omega
theorem map_frz (xs : List Dat) : List.map (fun o => OT.fz (frz o)) (List.map OT.fz xs) = xs.map .fz := by
  rw [List.map_map]
  rfl
theorem okV_tup {n : Nat} {xs : List Dat} (h : okV (n + 1) (.tup xs) = true) : xs.length ≤ 60 ∧ ∀ d ∈ xs, okV n d = true := by
  have h : (decide (xs.length ≤ 60) && xs.all (okV n)) = true := h
  simp only [Bool.and_eq_true, decide_eq_true_eq, List.all_eq_true] at h
  exact h
end K22

namespace K22
open PySem PySem.Spec L2 Lay Com TL T21 T22
local macro_rules | `(tactic| walk_at "WP") => `(tactic| (repeat (first | with_reducible refine ws_seq ?_ | with_reducible refine ws_asg ?_ | with_reducible refine ws_if ?_ | with_reducible refine ws_ret ?_ | with_reducible refine ws_expr ?_ | with_reducible refine ws_par ?_ | with_reducible refine ws_nx ?_ | with_reducible refine ws_raise ?_ | with_reducible refine o_TT ?_ | with_reducible refine ws_bk ?_ | with_reducible refine ws_ct ?_ | with_reducible refine ws_retN ?_ | with_reducible refine ws_st_nil ?_ | with_reducible refine ws_st_cons ?_ | with_reducible refine w_D ?_ | with_reducible refine w_x2 ?_ | with_reducible refine w_x1 ?_ | with_reducible refine w_notV ?_ | with_reducible refine w_Nil ?_ | with_reducible refine w_Cons ?_ | with_reducible refine w_N ?_ | with_reducible refine w_M ?_ | with_reducible refine w_Ty ?_ | with_reducible refine w_Tup ?_ | with_reducible refine w_LstF ?_ | with_reducible refine w_Fz ?_ | with_reducible refine w_T ?_ | with_reducible refine w_Tru ?_ | with_reducible refine w_And ?_ | with_reducible refine w_Or ?_ | with_reducible refine w_Not ?_ | with_reducible refine w_If ?_ | with_reducible refine w_OrV ?_ | with_reducible refine w_AndV ?_ | with_reducible refine w_Js_nil ?_ | with_reducible refine w_Js_cons ?_ | with_reducible refine w_Call ?_ | with_reducible refine w_Mut ?_ | with_reducible refine w_Yes ?_ | with_reducible refine w_gIx ?_ | with_reducible refine w_gS_nil ?_ | with_reducible refine w_gS_cons ?_ | with_reducible refine w_Sq ?_ | with_reducible refine w_Rg1 ?_ | with_reducible refine w_Rg2 ?_ | with_reducible refine w_NoPart ?_ | with_reducible refine w_Part ?_ | with_reducible refine w_Sl ?_ | with_reducible refine ws_aug ?_ | with_reducible refine o_addI ?_ | with_reducible refine o_find2 ?_ | with_reducible refine o_find3 ?_ | with_reducible refine o_add ?_ | with_reducible refine o_sub ?_ | with_reducible refine o_lt ?_ | with_reducible refine o_le ?_ | with_reducible refine o_gt ?_ | with_reducible refine o_ge ?_ | with_reducible refine o_eqI ?_ | with_reducible refine o_neI ?_ | with_reducible refine o_int ?_ | with_reducible refine o_intB ?_ | with_reducible refine o_gcd ?_ | with_reducible refine o_lenT ?_ | with_reducible refine o_lenL ?_ | with_reducible refine o_lenK ?_ | with_reducible refine o_lenO ?_ | with_reducible refine o_isN ?_ | with_reducible refine o_isB ?_ | with_reducible refine o_isnN ?_ | with_reducible refine o_isnB ?_ | with_reducible refine o_neg ?_ | with_reducible refine o_eqS ?_ | with_reducible refine o_neS ?_ | refine w_var rfl ?_ | refine w_gLs rfl ?_ | refine w_gS_cons ?_ | refine w_gS_nil ?_ | refine ws_st_cons ?_ | refine ws_st_nil ?_ | refine w_Js_cons ?_ | refine w_Js_nil ?_ | refine w_gNm rfl ?_ | refine w_gJ rfl (by assumption) ?_ | refine w_gTu rfl ?_ | refine o_isi (by decide) ?_ | refine o_mul (by first | exact cMul_r (by omega) (by omega) | exact cMul_l (by omega) (by omega)) ?_ | refine o_mul (by assumption) ?_ | refine o_mod (by omega) ?_ | refine o_fdivS (by omega) (by omega) ?_ | refine o_absN ?_ | refine ⟨⟨by omega, by omega⟩, ?_⟩ | refine ⟨⟨⟨by omega, by omega⟩, by omega, by omega⟩, ?_⟩ | refine ⟨@rfl _ _, ?_⟩ | refine ⟨⟨@rfl _ _, @rfl _ _⟩, ?_⟩ | refine ⟨_, rfl, ?_⟩ | refine ⟨⟨Nat.le_of_ble_eq_true rfl, fun _ h => nomatch h⟩, ?_⟩ | refine ⟨Nat.le_of_ble_eq_true rfl, ?_⟩ | refine br_true ?_ | refine br_false ?_ | refine w_back rfl ?_ | refine wo rfl ?_)))
local macro_rules | `(tactic| walk_at "WQ") => `(tactic| (repeat (first | with_reducible refine ws_seq ?_ | with_reducible refine ws_asg ?_ | with_reducible refine ws_ret ?_ | with_reducible refine ws_expr ?_ | with_reducible refine ws_par ?_ | with_reducible refine ws_nx ?_ | with_reducible refine ws_raise ?_ | with_reducible refine o_TT ?_ | with_reducible refine ws_bk ?_ | with_reducible refine ws_ct ?_ | with_reducible refine ws_retN ?_ | with_reducible refine ws_st_nil ?_ | with_reducible refine ws_st_cons ?_ | with_reducible refine w_D ?_ | with_reducible refine w_x2 ?_ | with_reducible refine w_x1 ?_ | with_reducible refine w_notV ?_ | with_reducible refine w_Nil ?_ | with_reducible refine w_Cons ?_ | with_reducible refine w_N ?_ | with_reducible refine w_M ?_ | with_reducible refine w_Ty ?_ | with_reducible refine w_Tup ?_ | with_reducible refine w_LstF ?_ | with_reducible refine w_Fz ?_ | with_reducible refine w_T ?_ | with_reducible refine w_Tru ?_ | with_reducible refine w_And ?_ | with_reducible refine w_Or ?_ | with_reducible refine w_Not ?_ | with_reducible refine w_If ?_ | with_reducible refine w_OrV ?_ | with_reducible refine w_AndV ?_ | with_reducible refine w_Js_nil ?_ | with_reducible refine w_Js_cons ?_ | with_reducible refine w_Call ?_ | with_reducible refine w_Mut ?_ | with_reducible refine w_Yes ?_ | with_reducible refine w_gIx ?_ | with_reducible refine w_gS_nil ?_ | with_reducible refine w_gS_cons ?_ | with_reducible refine w_Sq ?_ | with_reducible refine w_Rg1 ?_ | with_reducible refine w_Rg2 ?_ | with_reducible refine w_NoPart ?_ | with_reducible refine w_Part ?_ | with_reducible refine w_Sl ?_ | with_reducible refine ws_aug ?_ | with_reducible refine o_addI ?_ | with_reducible refine o_find2 ?_ | with_reducible refine o_find3 ?_ | with_reducible refine o_add ?_ | with_reducible refine o_sub ?_ | with_reducible refine o_lt ?_ | with_reducible refine o_le ?_ | with_reducible refine o_gt ?_ | with_reducible refine o_ge ?_ | with_reducible refine o_eqI ?_ | with_reducible refine o_neI ?_ | with_reducible refine o_int ?_ | with_reducible refine o_intB ?_ | with_reducible refine o_gcd ?_ | with_reducible refine o_lenT ?_ | with_reducible refine o_lenL ?_ | with_reducible refine o_lenK ?_ | with_reducible refine o_lenO ?_ | with_reducible refine o_isN ?_ | with_reducible refine o_isB ?_ | with_reducible refine o_isnN ?_ | with_reducible refine o_isnB ?_ | with_reducible refine o_neg ?_ | with_reducible refine o_eqS ?_ | with_reducible refine o_neS ?_ | refine w_var rfl ?_ | refine w_gLs rfl ?_ | refine w_gS_cons ?_ | refine w_gS_nil ?_ | refine ws_st_cons ?_ | refine ws_st_nil ?_ | refine w_Js_cons ?_ | refine w_Js_nil ?_ | refine w_gNm rfl ?_ | refine w_gJ rfl (by assumption) ?_ | refine w_gTu rfl ?_ | refine o_isi (by decide) ?_ | refine o_mul (by first | exact cMul_r (by omega) (by omega) | exact cMul_l (by omega) (by omega)) ?_ | refine o_mul (by assumption) ?_ | refine o_mod (by omega) ?_ | refine o_fdivS (by omega) (by omega) ?_ | refine o_absN ?_ | refine ⟨⟨by omega, by omega⟩, ?_⟩ | refine ⟨⟨⟨by omega, by omega⟩, by omega, by omega⟩, ?_⟩ | refine ⟨@rfl _ _, ?_⟩ | refine ⟨⟨@rfl _ _, @rfl _ _⟩, ?_⟩ | refine ⟨_, rfl, ?_⟩ | refine ⟨⟨Nat.le_of_ble_eq_true rfl, fun _ h => nomatch h⟩, ?_⟩ | refine ⟨Nat.le_of_ble_eq_true rfl, ?_⟩ | refine br_true ?_ | refine br_false ?_ | refine w_back rfl ?_ | refine wo rfl ?_)))
local macro_rules | `(tactic| walk_at "WI") => `(tactic| (repeat (first | with_reducible refine ws_seq ?_ | with_reducible refine ws_asg ?_ | with_reducible refine ws_if ?_ | with_reducible refine ws_ret ?_ | with_reducible refine ws_expr ?_ | with_reducible refine ws_par ?_ | with_reducible refine ws_nx ?_ | with_reducible refine ws_raise ?_ | with_reducible refine o_TT ?_ | with_reducible refine ws_bk ?_ | with_reducible refine ws_ct ?_ | with_reducible refine ws_retN ?_ | with_reducible refine ws_st_nil ?_ | with_reducible refine ws_st_cons ?_ | with_reducible refine w_D ?_ | with_reducible refine w_x2 ?_ | with_reducible refine w_x1 ?_ | with_reducible refine w_notV ?_ | with_reducible refine w_Nil ?_ | with_reducible refine w_Cons ?_ | with_reducible refine w_N ?_ | with_reducible refine w_M ?_ | with_reducible refine w_Ty ?_ | with_reducible refine w_Tup ?_ | with_reducible refine w_LstF ?_ | with_reducible refine w_Fz ?_ | with_reducible refine w_T ?_ | with_reducible refine w_Tru ?_ | with_reducible refine w_And ?_ | with_reducible refine w_Or ?_ | with_reducible refine w_Not ?_ | with_reducible refine w_OrV ?_ | with_reducible refine w_AndV ?_ | with_reducible refine w_Js_nil ?_ | with_reducible refine w_Js_cons ?_ | with_reducible refine w_Call ?_ | with_reducible refine w_Mut ?_ | with_reducible refine w_Yes ?_ | with_reducible refine w_gIx ?_ | with_reducible refine w_gS_nil ?_ | with_reducible refine w_gS_cons ?_ | with_reducible refine w_Sq ?_ | with_reducible refine w_Rg1 ?_ | with_reducible refine w_Rg2 ?_ | with_reducible refine w_NoPart ?_ | with_reducible refine w_Part ?_ | with_reducible refine w_Sl ?_ | with_reducible refine ws_aug ?_ | with_reducible refine o_addI ?_ | with_reducible refine o_find2 ?_ | with_reducible refine o_find3 ?_ | with_reducible refine o_add ?_ | with_reducible refine o_sub ?_ | with_reducible refine o_lt ?_ | with_reducible refine o_le ?_ | with_reducible refine o_gt ?_ | with_reducible refine o_ge ?_ | with_reducible refine o_eqI ?_ | with_reducible refine o_neI ?_ | with_reducible refine o_int ?_ | with_reducible refine o_intB ?_ | with_reducible refine o_gcd ?_ | with_reducible refine o_lenT ?_ | with_reducible refine o_lenL ?_ | with_reducible refine o_lenK ?_ | with_reducible refine o_lenO ?_ | with_reducible refine o_isN ?_ | with_reducible refine o_isB ?_ | with_reducible refine o_isnN ?_ | with_reducible refine o_isnB ?_ | with_reducible refine o_neg ?_ | with_reducible refine o_eqS ?_ | with_reducible refine o_neS ?_ | refine w_var rfl ?_ | refine w_gLs rfl ?_ | refine w_gS_cons ?_ | refine w_gS_nil ?_ | refine ws_st_cons ?_ | refine ws_st_nil ?_ | refine w_Js_cons ?_ | refine w_Js_nil ?_ | refine w_gNm rfl ?_ | refine w_gJ rfl (by assumption) ?_ | refine w_gTu rfl ?_ | refine o_isi (by decide) ?_ | refine o_mul (by first | exact cMul_r (by omega) (by omega) | exact cMul_l (by omega) (by omega)) ?_ | refine o_mul (by assumption) ?_ | refine o_mod (by omega) ?_ | refine o_fdivS (by omega) (by omega) ?_ | refine o_absN ?_ | refine ⟨⟨by omega, by omega⟩, ?_⟩ | refine ⟨⟨⟨by omega, by omega⟩, by omega, by omega⟩, ?_⟩ | refine ⟨@rfl _ _, ?_⟩ | refine ⟨⟨@rfl _ _, @rfl _ _⟩, ?_⟩ | refine ⟨_, rfl, ?_⟩ | refine ⟨⟨Nat.le_of_ble_eq_true rfl, fun _ h => nomatch h⟩, ?_⟩ | refine ⟨Nat.le_of_ble_eq_true rfl, ?_⟩ | refine br_true ?_ | refine br_false ?_ | refine w_back rfl ?_ | refine wo rfl ?_)))
local macro_rules | `(tactic| walk_at "NE") => `(tactic| (dsimp only [List.set_cons_succ, List.set_cons_zero, frz]))
local macro_rules | `(tactic| walk_at "FIN") => `(tactic| (first | rfl | exact ⟨rfl, rfl⟩ | exact trivial | exact ⟨trivial, rfl⟩ | exact ⟨trivial, trivial⟩ | exact ⟨rfl, trivial⟩))
/-- values, at most n deep, their tuples not too long -/
def vl : Nat → Dat → Bool
  | _, .non => true
  | _, .bl _ => true
  | _, .int _ => true
  | _, .str _ => true
  | n + 1, .tup xs => decide (xs.length ≤ 1000000) && xs.all (vl n)
  | _, _ => false
theorem vl_scal {d : Dat} (n : Nat) (h : (∃ s, d = .str s) ∨ (∃ i, d = .int i) ∨ (∃ b, d = .bl b) ∨ d = .non) : vl n d = true := by
  rcases h with ⟨s, rfl⟩ | ⟨i, rfl⟩ | ⟨b, rfl⟩ | rfl <;> cases n <;> rfl
mutual
theorem valP_ln {t : Str} (hl : t.length ≤ 1000000) : ∀ (f deep p : Nat) (S : List Nat) (d : Dat) (p' : Nat) (S' : List Nat), deep ≤ 40 → At t p S → valP f deep p S = .ok d p' S' → vl (40 - deep) d = true
  | 0, _, _, _, _, _, _, _, _, e => by unfold valP at e; cases e
  | f + 1, deep, p, [], d, p', S', hd, h, e => by unfold valP at e; cases e
  | f + 1, deep, p, c :: R, d, p', S', hd, h, e => by
    unfold valP at e
    simp only at e
    split at e
    · cases e; exact vl_scal _ (.inr (.inr (.inr rfl)))
    split at e
    · cases e; exact vl_scal _ (.inr (.inr (.inl ⟨_, rfl⟩)))
    split at e
    · cases e; exact vl_scal _ (.inr (.inr (.inl ⟨_, rfl⟩)))
    split at e
    · obtain ⟨h1, h2, s, rfl, _⟩ := textP_at R _ _ d p' S' h.next e
      exact vl_scal _ (.inl ⟨_, rfl⟩)
    split at e
    · split at e
      · cases e
      · rename_i h40
        obtain ⟨m, hm⟩ : ∃ m, 40 - deep = m + 1 := ⟨40 - deep - 1, by omega⟩
        split at e
        · cases e
          rw [hm]
          rfl
        · obtain ⟨xs, rfl, h2, h3⟩ := tupP_ln hl f (deep + 1) (p + 1) R [] d p' S' (by omega) h.next (by simp) e
          obtain ⟨b1, _⟩ := tupP_at f (deep + 1) (p + 1) R [] _ p' S' (by omega) h.next e
          have tn := b1.len
          rw [hm]
          show (decide (xs.length ≤ 1000000) && xs.all (vl m)) = true
          have := h3 (by simp)
          rw [show 40 - (deep + 1) = m by omega] at this
          rw [this, decide_eq_true (by omega)]
          rfl
    · obtain ⟨h1, h2, i, rfl⟩ := numP_at h e
      exact vl_scal _ (.inr (.inl ⟨_, rfl⟩))
theorem tupP_ln {t : Str} (hl : t.length ≤ 1000000) : ∀ (f deep p : Nat) (S : List Nat) (acc : List Dat) (d : Dat) (p' : Nat) (S' : List Nat), deep ≤ 40 → At t p S → acc.length ≤ p → tupP f deep p S acc = .ok d p' S' → ∃ xs, d = .tup xs ∧ xs.length ≤ p' ∧ (acc.all (vl (40 - deep)) = true → xs.all (vl (40 - deep)) = true)
  | 0, _, _, _, _, _, _, _, _, _, _, e => by unfold tupP at e; cases e
  | f + 1, deep, p, S, acc, d, p', S', hd, h, ha, e => by
    unfold tupP at e
    cases e1 : valP f deep p S with
    | bad q => rw [e1] at e; cases e
    | ok x p1 S1 =>
      rw [e1] at e
      obtain ⟨h1, h2, _⟩ := valP_at f deep p S x p1 S1 hd h e1
      have h3 := valP_ln hl f deep p S x p1 S1 hd h e1
      have app : acc.all (vl (40 - deep)) = true → (acc ++ [x]).all (vl (40 - deep)) = true := fun z => by
        rw [List.all_append, z, Bool.true_and]
        simp [h3]
      cases S1 with
      | nil => cases e
      | cons c R =>
        simp only at e
        split at e
        · cases e; exact ⟨_, rfl, by rw [List.length_append, List.length_singleton]; omega, app⟩
        split at e
        · obtain ⟨xs, rfl, g2, g3⟩ := tupP_ln hl f deep (p1 + 1) R (acc ++ [x]) d p' S' hd h1.next (by rw [List.length_append, List.length_singleton]; omega) e
          exact ⟨xs, rfl, g2, fun z => g3 (app z)⟩
        · cases e
end
theorem same_refl : ∀ (n : Nat) (d : Dat) (m : Nat), vl n d = true → n ≤ m → Wf (F__law_same (m + 1)) [.fz d, .fz d] (fun r out => r = .fz (.bl true) ∧ out = .fz .non) nX
  | n, .non, m, _, _ => by
    refine Wf.run ?_
    show Ws (G__law_same _) [.vl _, .vl _, .un] _
    unfold G__law_same
    walk_at "WP"
    walk_at "FIN"
  | n, .bl b, m, _, _ => by
    refine Wf.run ?_
    show Ws (G__law_same _) [.vl _, .vl _, .un] _
    unfold G__law_same
    walk_at "WP"
    cases b
    · walk_at "WP"
      walk_at "FIN"
    · walk_at "WP"
      walk_at "FIN"
  | n, .int i, m, _, _ => by
    refine Wf.run ?_
    show Ws (G__law_same _) [.vl _, .vl _, .un] _
    unfold G__law_same
    walk_at "WP"
    exact ⟨by simp, rfl⟩
  | n, .str s, m, _, _ => by
    refine Wf.run ?_
    show Ws (G__law_same _) [.vl _, .vl _, .un] _
    unfold G__law_same
    walk_at "WP"
    exact ⟨by simp, rfl⟩
  | n + 1, .tup xs, m, h, hm => by
    have h : (decide (xs.length ≤ 1000000) && xs.all (vl n)) = true := h
    rw [Bool.and_eq_true, decide_eq_true_eq] at h
    obtain ⟨hlen, h⟩ := h
    obtain ⟨m, rfl⟩ : ∃ k, m = k + 1 := ⟨m - 1, by omega⟩
    refine Wf.run ?_
    show Ws (G__law_same _) [.vl _, .vl _, .un] _
    unfold G__law_same
    walk_at "WP"
    refine br_not (br_dec (fun _ => ?_) (fun h => absurd rfl h))
    walk_at "WP"
    refine ws_for ?_
    walk_at "WP"
    refine ⟨fun k ρ => ∃ s, Jk s ∧ ρ = [.vl (.fz (.tup xs)), .vl (.fz (.tup xs)), s], ?_, ?_, ?_⟩
    · exact ⟨_, jk_un, rfl⟩
    · rintro k d ρ hd ⟨s, hs, rfl⟩
      obtain ⟨hk, rfl⟩ := rng_inv hd
      simp only [Int.zero_add]
      have hk : k < xs.length := by omega
      have hx := atI_int (xs := xs) (i := (k : Int)) (by omega) (by rw [Int.toNat_natCast]; exact List.getElem?_eq_getElem hk)
      have hm2 := List.getElem_mem hk
      walk_at "WP"
      walk_at "NE"
      refine o_ixT hx ?_
      walk_at "WP"
      refine o_ixT hx ?_
      walk_at "WP"
      refine (same_refl n _ m (List.all_eq_true.mp h _ hm2) (by omega)).go fun r out h => ?_
      obtain ⟨rfl, rfl⟩ := h
      walk_at "WP"
      exact ⟨_, jk_vl, rfl⟩
    · rintro ρ ⟨s, hs, rfl⟩
      walk_at "WP"
      walk_at "FIN"
  | n, .lst xs, m, h, _ => by cases n <;> cases h
  | n, .dic xs, m, h, _ => by cases n <;> cases h
  | n, .kst xs, m, h, _ => by cases n <;> cases h
  | 0, .tup xs, m, h, _ => by cases h
theorem read_vl {t : Str} (hl : t.length ≤ 1000000) : vl 41 (readP t) = true := by
  unfold readP
  cases e : valP (2 * t.length + 2) 0 0 (tl t) with
  | bad q => rfl
  | ok d p S =>
    have a3 : vl 40 d = true := valP_ln hl _ 0 0 (tl t) d p S (by omega) (at_zero t) e
    show vl 41 (if p < t.length then Dat.tup [.str "bad", .int (p : Int)] else .tup [.str "good", d]) = true
    split
    · rfl
    · show (decide (2 ≤ 1000000) && [Dat.str "good", d].all (vl 40)) = true
      simp only [List.all_cons, List.all_nil, a3]
      rfl
/-- what the law draws -/
def sg (c : Nat) : Prop := 32 ≤ c ∧ c ≤ 126 ∧ c ≠ 37
def bd : Nat → Nat
  | 0 => 40
  | n + 1 => 3 * bd n + 5
theorem bd_ge : ∀ n, 40 ≤ bd n
  | 0 => Nat.le_refl _
  | n + 1 => by have := bd_ge n; show 40 ≤ 3 * bd n + 5; omega
structure Dv (n : Nat) (d : Dat) : Prop where
  ok : okV n d = true
  len : (pl n d).length ≤ bd n
  sgs : ∀ c ∈ pl n d, sg c
theorem joinL_mem {c : Nat} : ∀ {ps : List (List Nat)}, c ∈ joinL [32] ps → c = 32 ∨ ∃ p ∈ ps, c ∈ p
  | [], h => by cases h
  | [q], h => .inr ⟨q, by simp, h⟩
  | q :: r :: ps, h => by
    have h : c ∈ q ++ ([32] ++ joinL [32] (r :: ps)) := h
    rcases List.mem_append.mp h with h | h
    · exact .inr ⟨q, by simp, h⟩
    · rcases List.mem_append.mp h with h | h
      · exact .inl (List.mem_singleton.mp h)
      · rcases joinL_mem h with h | ⟨p, h1, h2⟩
        · exact .inl h
        · exact .inr ⟨p, List.mem_cons_of_mem _ h1, h2⟩
theorem dv_tup {n : Nat} {xs : List Dat} (hx : ∀ d ∈ xs, Dv n d) (h3 : xs.length ≤ 3) : Dv (n + 1) (.tup xs) := ⟨by
  show (decide (xs.length ≤ 60) && xs.all (okV n)) = true
  simp only [Bool.and_eq_true, decide_eq_true_eq, List.all_eq_true]
  exact ⟨by omega, fun d hd => (hx d hd).ok⟩, by
  show (40 :: (joinL [32] (xs.map (pl n)) ++ [41])).length ≤ 3 * bd n + 5
  have := joinL_le (b := bd n) (xs.map (pl n)) fun p hp => by
    obtain ⟨d, hd, rfl⟩ := List.mem_map.mp hp
    exact (hx d hd).len
  rw [List.length_map] at this
  have : xs.length * (bd n + 1) ≤ 3 * (bd n + 1) := Nat.mul_le_mul_right _ h3
  simp only [List.length_cons, List.length_append, List.length_nil]
  omega, by
  intro c hc
  have hc : c ∈ 40 :: (joinL [32] (xs.map (pl n)) ++ [41]) := hc
  rcases List.mem_cons.mp hc with rfl | hc
  · exact ⟨by decide, by decide, by decide⟩
  rcases List.mem_append.mp hc with hc | hc
  · rcases joinL_mem hc with rfl | ⟨p, hp, h2⟩
    · exact ⟨by decide, by decide, by decide⟩
    · obtain ⟨d, hd, rfl⟩ := List.mem_map.mp hp
      exact (hx d hd).sgs c h2
  · rw [List.mem_singleton.mp hc]
    exact ⟨by decide, by decide, by decide⟩⟩
theorem dv_scal {n : Nat} {d : Dat} (h : ∀ xs, d ≠ .tup xs) (h1 : ∀ n, okV n d = true) (h2 : (pl 0 d).length ≤ 40) (h3 : ∀ c ∈ pl 0 d, sg c) : Dv n d := by
  have e := pl_scal n d h
  have := bd_ge n
  exact ⟨h1 n, by rw [e]; omega, by rw [e]; exact h3⟩
theorem dv_int {n : Nat} {i : Int} (h : i.natAbs < 10 ^ 21) : Dv n (.int i) := by
  have hs := numL_small h
  have hf := num_figs i.natAbs
  have e : pl 0 (.int i) = if i < 0 then 45 :: numL i.natAbs else numL i.natAbs := rfl
  refine dv_scal (by simp) (fun n => by cases n <;> exact decide_eq_true h) ?_ ?_
  · rw [e]
    split
    · rw [List.length_cons]; omega
    · omega
  · rw [e]
    intro c hc
    split at hc
    · rcases List.mem_cons.mp hc with rfl | hc
      · exact ⟨by decide, by decide, by decide⟩
      · have := hf c hc
        exact ⟨by omega, by omega, by omega⟩
    · have := hf c hc
      exact ⟨by omega, by omega, by omega⟩
instance (c : Nat) : Decidable (sg c) := by unfold sg; infer_instance
theorem dv_str {n : Nat} {s : Str} (h : s.length ≤ 8) (h2 : (pl 0 (.str s)).length ≤ 40) (h3 : ∀ c ∈ pl 0 (.str s), sg c) : Dv n (.str s) :=
  dv_scal (by simp) (fun n => by cases n <;> exact decide_eq_true (by omega)) h2 h3
def ELEVEN : List Dat := [.non, .bl true, .bl false, .int 0, .int (-7), .int 120, .str "", .str "a\"b", .str "x\ny", .str "\\", .str " ("]
theorem dv_eleven (n : Nat) : ∀ d ∈ ELEVEN, Dv n d := by
  intro d hd
  unfold ELEVEN at hd
  simp only [List.mem_cons, List.not_mem_nil, or_false] at hd
  rcases hd with rfl | rfl | rfl | rfl | rfl | rfl | rfl | rfl | rfl | rfl | rfl
  · exact dv_scal (by simp) (fun n => by cases n <;> rfl) (by decide) (by decide)
  · exact dv_scal (by simp) (fun n => by cases n <;> rfl) (by decide) (by decide)
  · exact dv_scal (by simp) (fun n => by cases n <;> rfl) (by decide) (by decide)
  · exact dv_int (by decide)
  · exact dv_int (by decide)
  · exact dv_int (by decide)
  · exact dv_str (by decide +kernel) (by decide +kernel) (by decide +kernel)
  · exact dv_str (by decide +kernel) (by decide +kernel) (by decide +kernel)
  · exact dv_str (by decide +kernel) (by decide +kernel) (by decide +kernel)
  · exact dv_str (by decide +kernel) (by decide +kernel) (by decide +kernel)
  · exact dv_str (by decide +kernel) (by decide +kernel) (by decide +kernel)
theorem value_draw : ∀ (n f : Nat) (o : OT), n < f → Box o → Wf (F__law_value f) [o, .fz (.int (n : Int))] (fun r out => Box out ∧ ∃ d, r = .fz d ∧ Dv n d) nX
  | n, 0, o, h, _ => absurd h (Nat.not_lt_zero _)
  | n, f + 1, o, hf, hb => by
    refine Wf.run ?_
    show Ws (G__law_value _) [.io _, .vl _, .un, .un] _
    unfold G__law_value
    walk_at "WP"
    refine (draw_spec hb (by decide)).go fun r out h => ?_
    obtain ⟨hb1, v, rfl, h1, h2⟩ := h
    obtain ⟨ds1, at1, rfl, hp1⟩ := hb1
    walk_at "WQ"
    walk_at "NE"
    refine ws_JE ?_ ?_
    · walk_at "WP"
      refine br_dec (fun h3 => ?_) (fun _ => ?_)
      · walk_at "WP"
        refine br_dec (fun h3 => ?_) (fun _ => ?_)
        · walk_at "WP"
          refine w_Lc ?_
          walk_at "WP"
          refine (draw_spec ⟨ds1, at1, rfl, hp1⟩ (by decide)).go fun r out h => ?_
          obtain ⟨⟨ds2, at2, rfl, hp2⟩, v2, rfl, k1, k2⟩ := h
          walk_at "WP"
          obtain ⟨m, rfl⟩ : ∃ m, n = m + 1 := ⟨n - 1, by omega⟩
          refine ⟨⟨by rw [rngL_length]; show _ ≤ 16777216; omega, fun _ h => nomatch h⟩, fun k os ρ => ∃ (o : OT) (xs : List Dat), Box o ∧ os = xs.map .fz ∧ xs.length = k ∧ (∀ d ∈ xs, Dv m d) ∧ ρ = [.io o, .vl (.fz (.int ((m + 1 : Nat) : Int))), .vl (.fz (.int v)), .un], ?_, ?_, ?_⟩
          · exact ⟨_, [], ⟨ds2, at2, rfl, hp2⟩, rfl, rfl, (fun _ h => nomatch h), rfl⟩
          · rintro k d os ρ hd ⟨o, xs, hb, rfl, hx, hxs, rfl⟩
            walk_at "WP"
            rw [show ((m + 1 : Nat) : Int) - 1 = (m : Int) by omega]
            refine (value_draw m f o (by omega) hb).go fun r out h => ?_
            obtain ⟨hb2, d, rfl, hd⟩ := h
            obtain ⟨ds3, at3, rfl, hp3⟩ := hb2
            walk_at "WP"
            refine ⟨_, xs ++ [d], ⟨ds3, at3, rfl, hp3⟩, by simp, by simp; omega, fun x hx => ?_, rfl⟩
            rcases List.mem_append.mp hx with h | h
            · exact hxs x h
            · rw [List.mem_singleton.mp h]; exact hd
          · rintro os ρ3 ⟨o, xs, hb, rfl, hx, hxs, rfl⟩
            rw [rngL_length] at hx
            refine ⟨rfl, ?_⟩
            walk_at "WP"
            rw [map_frz]
            refine o_tupL (ds := xs) ?_
            walk_at "WP"
            obtain ⟨ds3, at3, rfl, hp3⟩ := hb
            exact ⟨⟨ds3, at3, rfl, hp3⟩, _, rfl, dv_tup hxs (by omega)⟩
        · walk_at "WP"
          walk_at "FIN"
      · walk_at "WP"
        walk_at "FIN"
    -- behind the tuples
    walk_at "WP"
    refine (draw_spec ⟨ds1, at1, rfl, hp1⟩ (by decide)).go fun r out h => ?_
    obtain ⟨⟨ds2, at2, rfl, hp2⟩, v2, rfl, k1, k2⟩ := h
    walk_at "WP"
    obtain ⟨d, hd, hm⟩ := mem_of_atI (x := Dat.non) (xs := ELEVEN) (i := v2 % 11) (by omega) (by show v2 % 11 < 11; omega)
    refine o_ixO (xs := ELEVEN) rfl hd ?_
    walk_at "WP"
    exact ⟨⟨ds2, at2, rfl, hp2⟩, d, rfl, dv_eleven n d hm⟩
theorem digits_spec {ns : List Int} : Wf F__law_digits [.fz (.kst ns), .fz (.int 0), .fz (.int 63)] (fun r out => Dig 3780 r ∧ out = .fz .non) nX := by
  refine Wf.run ?_
  show Ws G__law_digits [.vl _, .vl _, .vl _, .un, .un, .un, .un, .un] _
  unfold G__law_digits
  walk_at "WP"
  walk_at "NE"
  refine ws_for ?_
  walk_at "WP"
  refine ⟨fun k ρ => ∃ o a b c d, Dig (60 * k) o ∧ Jk a ∧ Jk b ∧ Jk c ∧ Jk d ∧ ρ = [.vl (.fz (.kst ns)), .vl (.fz (.int 0)), .vl (.fz (.int 63)), .vl o, a, b, c, d], ?_, ?_, ?_⟩
  · exact ⟨_, _, _, _, _, ⟨[], rfl, Nat.le_refl _⟩, jk_un, jk_un, jk_un, jk_un, rfl⟩
  · rintro k d ρ hd ⟨o, a, b, c, e, ho, ha, hb, hc, he, rfl⟩
    obtain ⟨hk, rfl⟩ := rng_inv hd
    simp only [Int.zero_add]
    have hko : 60 * k ≤ 3780 := by omega
    obtain ⟨ds, rfl, hds⟩ := ho
    walk_at "WP"
    rw [List.length_map]
    refine br_dec (fun h => ?_) (fun h => ?_)
    · walk_at "WP"
      exact ⟨⟨ds, rfl, Nat.le_trans hds hko⟩, rfl⟩
    walk_at "WP"
    refine (cell_spec (by omega)).go fun r out h => ?_
    obtain ⟨⟨x, rfl⟩, rfl⟩ := h
    walk_at "WQ"
    walk_at "NE"
    refine ws_J (fun ρ => ∃ (y : Int) (b e : Sl), Jk b ∧ Jk e ∧ ρ = [.vl (.fz (.kst ns)), .vl (.fz (.int 0)), .vl (.fz (.int 63)), .vl (.lst (ds.map fun d => .fz (.int d))), .vl (.fz (.int (k : Int))), .vl (.fz (.int y)), b, e]) ?_ (fun ρ h => ?_)
    · walk_at "WP"
      refine br_dec (fun h => ?_) (fun h => ?_)
      · walk_at "WP"
        walk_at "NE"
        exact ⟨_, _, _, hc, he, rfl⟩
      · walk_at "WP"
        exact ⟨_, _, _, hc, he, rfl⟩
    obtain ⟨y, b, e, hb, he, rfl⟩ := h
    · walk_at "WP"
      refine br_dec (fun h => ?_) (fun h => ?_)
      · refine ws_for ?_
        walk_at "WP"
        refine ⟨fun j ρ => ∃ (o : OT) (y : Int) (b e : Sl), Dig (60 * k + j) o ∧ Jk b ∧ Jk e ∧ ρ = [.vl (.fz (.kst ns)), .vl (.fz (.int 0)), .vl (.fz (.int 63)), .vl o, .vl (.fz (.int (k : Int))), .vl (.fz (.int y)), b, e], ?_, ?_, ?_⟩
        · exact ⟨_, _, _, _, ⟨ds, rfl, hds⟩, hb, he, rfl⟩
        · rintro j d ρ hd ⟨o, y, b, e, ho, hb, he, rfl⟩
          obtain ⟨hj, rfl⟩ := rng_inv hd
          obtain ⟨ds, rfl, hds⟩ := ho
          walk_at "WP"
          refine br_dec (fun h => ?_) (fun h => ?_)
          · walk_at "WP"
            refine o_app ?_ ?_
            · rw [List.length_map]; show ds.length < 16777216; omega
            walk_at "WP"
            walk_at "NE"
            exact ⟨_, _, _, _, Dig.app hds (by omega), jk_vl, he, rfl⟩
          · walk_at "WP"
            walk_at "NE"
            exact ⟨_, _, _, _, ⟨ds, rfl, by omega⟩, jk_vl, he, rfl⟩
        · rintro ρ ⟨o, y, b, e, ho, hb, he, rfl⟩
          have ho : Dig (60 * k + 60) o := ho
          exact ⟨_, _, _, _, _, ho.mono (by omega), jk_vl, jk_vl, hb, he, rfl⟩
      · walk_at "WP"
        walk_at "NE"
        refine ws_for ?_
        walk_at "WP"
        refine ⟨fun j ρ => ∃ (o : OT) (y z : Int) (b : Sl), Dig (60 * k + j) o ∧ Jk b ∧ ρ = [.vl (.fz (.kst ns)), .vl (.fz (.int 0)), .vl (.fz (.int 63)), .vl o, .vl (.fz (.int (k : Int))), .vl (.fz (.int y)), b, .vl (.fz (.int z))], ?_, ?_, ?_⟩
        · exact ⟨_, _, _, _, ⟨ds, rfl, hds⟩, hb, rfl⟩
        · rintro j d ρ hd ⟨o, y, z, b, ho, hb, rfl⟩
          obtain ⟨hj, rfl⟩ := rng_inv hd
          obtain ⟨ds, rfl, hds⟩ := ho
          walk_at "WP"
          refine o_app ?_ ?_
          · rw [List.length_map]; show ds.length < 16777216; omega
          walk_at "WP"
          walk_at "NE"
          exact ⟨_, _, _, _, Dig.app hds (by omega), jk_vl, rfl⟩
        · rintro ρ ⟨o, y, z, b, ho, hb, rfl⟩
          have ho : Dig (60 * k + 12) o := ho
          exact ⟨_, _, _, _, _, ho.mono (by omega), jk_vl, jk_vl, hb, jk_vl, rfl⟩
  · rintro ρ ⟨o, a, b, c, e, ho, ha, hb, hc, he, rfl⟩
    walk_at "WP"
    exact ⟨ho, rfl⟩
end K22

namespace K22
open PySem PySem.Spec L2 Lay Com TL T21 T22
local macro_rules | `(tactic| walk_at "WP") => `(tactic| (repeat (first | with_reducible refine ws_seq ?_ | with_reducible refine ws_asg ?_ | with_reducible refine ws_if ?_ | with_reducible refine ws_ret ?_ | with_reducible refine ws_expr ?_ | with_reducible refine ws_par ?_ | with_reducible refine ws_nx ?_ | with_reducible refine ws_raise ?_ | with_reducible refine o_TT ?_ | with_reducible refine ws_bk ?_ | with_reducible refine ws_ct ?_ | with_reducible refine ws_retN ?_ | with_reducible refine ws_st_nil ?_ | with_reducible refine ws_st_cons ?_ | with_reducible refine w_D ?_ | with_reducible refine w_x2 ?_ | with_reducible refine w_x1 ?_ | with_reducible refine w_notV ?_ | with_reducible refine w_Nil ?_ | with_reducible refine w_Cons ?_ | with_reducible refine w_N ?_ | with_reducible refine w_M ?_ | with_reducible refine w_Ty ?_ | with_reducible refine w_Tup ?_ | with_reducible refine w_LstF ?_ | with_reducible refine w_Fz ?_ | with_reducible refine w_T ?_ | with_reducible refine w_Tru ?_ | with_reducible refine w_And ?_ | with_reducible refine w_Or ?_ | with_reducible refine w_Not ?_ | with_reducible refine w_If ?_ | with_reducible refine w_OrV ?_ | with_reducible refine w_AndV ?_ | with_reducible refine w_Js_nil ?_ | with_reducible refine w_Js_cons ?_ | with_reducible refine w_Call ?_ | with_reducible refine w_Mut ?_ | with_reducible refine w_Yes ?_ | with_reducible refine w_gIx ?_ | with_reducible refine w_gS_nil ?_ | with_reducible refine w_gS_cons ?_ | with_reducible refine w_Sq ?_ | with_reducible refine w_Rg1 ?_ | with_reducible refine w_Rg2 ?_ | with_reducible refine w_NoPart ?_ | with_reducible refine w_Part ?_ | with_reducible refine w_Sl ?_ | with_reducible refine ws_aug ?_ | with_reducible refine o_addI ?_ | with_reducible refine o_find2 ?_ | with_reducible refine o_find3 ?_ | with_reducible refine o_add ?_ | with_reducible refine o_sub ?_ | with_reducible refine o_lt ?_ | with_reducible refine o_le ?_ | with_reducible refine o_gt ?_ | with_reducible refine o_ge ?_ | with_reducible refine o_eqI ?_ | with_reducible refine o_neI ?_ | with_reducible refine o_int ?_ | with_reducible refine o_intB ?_ | with_reducible refine o_gcd ?_ | with_reducible refine o_lenT ?_ | with_reducible refine o_lenL ?_ | with_reducible refine o_lenK ?_ | with_reducible refine o_lenO ?_ | with_reducible refine o_isN ?_ | with_reducible refine o_isB ?_ | with_reducible refine o_isnN ?_ | with_reducible refine o_isnB ?_ | with_reducible refine o_neg ?_ | with_reducible refine o_eqS ?_ | with_reducible refine o_neS ?_ | refine w_var rfl ?_ | refine w_gLs rfl ?_ | refine w_gS_cons ?_ | refine w_gS_nil ?_ | refine ws_st_cons ?_ | refine ws_st_nil ?_ | refine w_Js_cons ?_ | refine w_Js_nil ?_ | refine w_gNm rfl ?_ | refine w_gJ rfl (by assumption) ?_ | refine w_gTu rfl ?_ | refine o_isi (by decide) ?_ | refine o_mul (by first | exact cMul_r (by omega) (by omega) | exact cMul_l (by omega) (by omega)) ?_ | refine o_mul (by assumption) ?_ | refine o_mod (by omega) ?_ | refine o_fdivS (by omega) (by omega) ?_ | refine o_absN ?_ | refine ⟨⟨by omega, by omega⟩, ?_⟩ | refine ⟨⟨⟨by omega, by omega⟩, by omega, by omega⟩, ?_⟩ | refine ⟨@rfl _ _, ?_⟩ | refine ⟨⟨@rfl _ _, @rfl _ _⟩, ?_⟩ | refine ⟨_, rfl, ?_⟩ | refine ⟨⟨Nat.le_of_ble_eq_true rfl, fun _ h => nomatch h⟩, ?_⟩ | refine ⟨Nat.le_of_ble_eq_true rfl, ?_⟩ | refine br_true ?_ | refine br_false ?_ | refine w_back rfl ?_ | refine wo rfl ?_)))
local macro_rules | `(tactic| walk_at "WQ") => `(tactic| (repeat (first | with_reducible refine ws_seq ?_ | with_reducible refine ws_asg ?_ | with_reducible refine ws_ret ?_ | with_reducible refine ws_expr ?_ | with_reducible refine ws_par ?_ | with_reducible refine ws_nx ?_ | with_reducible refine ws_raise ?_ | with_reducible refine o_TT ?_ | with_reducible refine ws_bk ?_ | with_reducible refine ws_ct ?_ | with_reducible refine ws_retN ?_ | with_reducible refine ws_st_nil ?_ | with_reducible refine ws_st_cons ?_ | with_reducible refine w_D ?_ | with_reducible refine w_x2 ?_ | with_reducible refine w_x1 ?_ | with_reducible refine w_notV ?_ | with_reducible refine w_Nil ?_ | with_reducible refine w_Cons ?_ | with_reducible refine w_N ?_ | with_reducible refine w_M ?_ | with_reducible refine w_Ty ?_ | with_reducible refine w_Tup ?_ | with_reducible refine w_LstF ?_ | with_reducible refine w_Fz ?_ | with_reducible refine w_T ?_ | with_reducible refine w_Tru ?_ | with_reducible refine w_And ?_ | with_reducible refine w_Or ?_ | with_reducible refine w_Not ?_ | with_reducible refine w_If ?_ | with_reducible refine w_OrV ?_ | with_reducible refine w_AndV ?_ | with_reducible refine w_Js_nil ?_ | with_reducible refine w_Js_cons ?_ | with_reducible refine w_Call ?_ | with_reducible refine w_Mut ?_ | with_reducible refine w_Yes ?_ | with_reducible refine w_gIx ?_ | with_reducible refine w_gS_nil ?_ | with_reducible refine w_gS_cons ?_ | with_reducible refine w_Sq ?_ | with_reducible refine w_Rg1 ?_ | with_reducible refine w_Rg2 ?_ | with_reducible refine w_NoPart ?_ | with_reducible refine w_Part ?_ | with_reducible refine w_Sl ?_ | with_reducible refine ws_aug ?_ | with_reducible refine o_addI ?_ | with_reducible refine o_find2 ?_ | with_reducible refine o_find3 ?_ | with_reducible refine o_add ?_ | with_reducible refine o_sub ?_ | with_reducible refine o_lt ?_ | with_reducible refine o_le ?_ | with_reducible refine o_gt ?_ | with_reducible refine o_ge ?_ | with_reducible refine o_eqI ?_ | with_reducible refine o_neI ?_ | with_reducible refine o_int ?_ | with_reducible refine o_intB ?_ | with_reducible refine o_gcd ?_ | with_reducible refine o_lenT ?_ | with_reducible refine o_lenL ?_ | with_reducible refine o_lenK ?_ | with_reducible refine o_lenO ?_ | with_reducible refine o_isN ?_ | with_reducible refine o_isB ?_ | with_reducible refine o_isnN ?_ | with_reducible refine o_isnB ?_ | with_reducible refine o_neg ?_ | with_reducible refine o_eqS ?_ | with_reducible refine o_neS ?_ | refine w_var rfl ?_ | refine w_gLs rfl ?_ | refine w_gS_cons ?_ | refine w_gS_nil ?_ | refine ws_st_cons ?_ | refine ws_st_nil ?_ | refine w_Js_cons ?_ | refine w_Js_nil ?_ | refine w_gNm rfl ?_ | refine w_gJ rfl (by assumption) ?_ | refine w_gTu rfl ?_ | refine o_isi (by decide) ?_ | refine o_mul (by first | exact cMul_r (by omega) (by omega) | exact cMul_l (by omega) (by omega)) ?_ | refine o_mul (by assumption) ?_ | refine o_mod (by omega) ?_ | refine o_fdivS (by omega) (by omega) ?_ | refine o_absN ?_ | refine ⟨⟨by omega, by omega⟩, ?_⟩ | refine ⟨⟨⟨by omega, by omega⟩, by omega, by omega⟩, ?_⟩ | refine ⟨@rfl _ _, ?_⟩ | refine ⟨⟨@rfl _ _, @rfl _ _⟩, ?_⟩ | refine ⟨_, rfl, ?_⟩ | refine ⟨⟨Nat.le_of_ble_eq_true rfl, fun _ h => nomatch h⟩, ?_⟩ | refine ⟨Nat.le_of_ble_eq_true rfl, ?_⟩ | refine br_true ?_ | refine br_false ?_ | refine w_back rfl ?_ | refine wo rfl ?_)))
local macro_rules | `(tactic| walk_at "WI") => `(tactic| (repeat (first | with_reducible refine ws_seq ?_ | with_reducible refine ws_asg ?_ | with_reducible refine ws_if ?_ | with_reducible refine ws_ret ?_ | with_reducible refine ws_expr ?_ | with_reducible refine ws_par ?_ | with_reducible refine ws_nx ?_ | with_reducible refine ws_raise ?_ | with_reducible refine o_TT ?_ | with_reducible refine ws_bk ?_ | with_reducible refine ws_ct ?_ | with_reducible refine ws_retN ?_ | with_reducible refine ws_st_nil ?_ | with_reducible refine ws_st_cons ?_ | with_reducible refine w_D ?_ | with_reducible refine w_x2 ?_ | with_reducible refine w_x1 ?_ | with_reducible refine w_notV ?_ | with_reducible refine w_Nil ?_ | with_reducible refine w_Cons ?_ | with_reducible refine w_N ?_ | with_reducible refine w_M ?_ | with_reducible refine w_Ty ?_ | with_reducible refine w_Tup ?_ | with_reducible refine w_LstF ?_ | with_reducible refine w_Fz ?_ | with_reducible refine w_T ?_ | with_reducible refine w_Tru ?_ | with_reducible refine w_And ?_ | with_reducible refine w_Or ?_ | with_reducible refine w_Not ?_ | with_reducible refine w_OrV ?_ | with_reducible refine w_AndV ?_ | with_reducible refine w_Js_nil ?_ | with_reducible refine w_Js_cons ?_ | with_reducible refine w_Call ?_ | with_reducible refine w_Mut ?_ | with_reducible refine w_Yes ?_ | with_reducible refine w_gIx ?_ | with_reducible refine w_gS_nil ?_ | with_reducible refine w_gS_cons ?_ | with_reducible refine w_Sq ?_ | with_reducible refine w_Rg1 ?_ | with_reducible refine w_Rg2 ?_ | with_reducible refine w_NoPart ?_ | with_reducible refine w_Part ?_ | with_reducible refine w_Sl ?_ | with_reducible refine ws_aug ?_ | with_reducible refine o_addI ?_ | with_reducible refine o_find2 ?_ | with_reducible refine o_find3 ?_ | with_reducible refine o_add ?_ | with_reducible refine o_sub ?_ | with_reducible refine o_lt ?_ | with_reducible refine o_le ?_ | with_reducible refine o_gt ?_ | with_reducible refine o_ge ?_ | with_reducible refine o_eqI ?_ | with_reducible refine o_neI ?_ | with_reducible refine o_int ?_ | with_reducible refine o_intB ?_ | with_reducible refine o_gcd ?_ | with_reducible refine o_lenT ?_ | with_reducible refine o_lenL ?_ | with_reducible refine o_lenK ?_ | with_reducible refine o_lenO ?_ | with_reducible refine o_isN ?_ | with_reducible refine o_isB ?_ | with_reducible refine o_isnN ?_ | with_reducible refine o_isnB ?_ | with_reducible refine o_neg ?_ | with_reducible refine o_eqS ?_ | with_reducible refine o_neS ?_ | refine w_var rfl ?_ | refine w_gLs rfl ?_ | refine w_gS_cons ?_ | refine w_gS_nil ?_ | refine ws_st_cons ?_ | refine ws_st_nil ?_ | refine w_Js_cons ?_ | refine w_Js_nil ?_ | refine w_gNm rfl ?_ | refine w_gJ rfl (by assumption) ?_ | refine w_gTu rfl ?_ | refine o_isi (by decide) ?_ | refine o_mul (by first | exact cMul_r (by omega) (by omega) | exact cMul_l (by omega) (by omega)) ?_ | refine o_mul (by assumption) ?_ | refine o_mod (by omega) ?_ | refine o_fdivS (by omega) (by omega) ?_ | refine o_absN ?_ | refine ⟨⟨by omega, by omega⟩, ?_⟩ | refine ⟨⟨⟨by omega, by omega⟩, by omega, by omega⟩, ?_⟩ | refine ⟨@rfl _ _, ?_⟩ | refine ⟨⟨@rfl _ _, @rfl _ _⟩, ?_⟩ | refine ⟨_, rfl, ?_⟩ | refine ⟨⟨Nat.le_of_ble_eq_true rfl, fun _ h => nomatch h⟩, ?_⟩ | refine ⟨Nat.le_of_ble_eq_true rfl, ?_⟩ | refine br_true ?_ | refine br_false ?_ | refine w_back rfl ?_ | refine wo rfl ?_)))
local macro_rules | `(tactic| walk_at "NE") => `(tactic| (dsimp only [List.set_cons_succ, List.set_cons_zero, frz]))
local macro_rules | `(tactic| walk_at "FIN") => `(tactic| (first | rfl | exact ⟨rfl, rfl⟩ | exact trivial | exact ⟨trivial, rfl⟩ | exact ⟨trivial, trivial⟩ | exact ⟨rfl, trivial⟩))
theorem ok_mono : ∀ (n : Nat) (d : Dat) (k : Nat), okV n d = true → okV (n + k) d = true ∧ pl (n + k) d = pl n d
  | n, .non, k, _ => ⟨by cases n + k <;> rfl, by rw [pl_scal n _ (by simp), pl_scal (n + k) _ (by simp)]⟩
  | n, .bl b, k, _ => ⟨by cases n + k <;> rfl, by rw [pl_scal n _ (by simp), pl_scal (n + k) _ (by simp)]⟩
  | n, .int i, k, h => ⟨by
      have h : i.natAbs < 10 ^ 21 := by cases n <;> exact of_decide_eq_true h
      cases n + k <;> exact decide_eq_true h, by rw [pl_scal n _ (by simp), pl_scal (n + k) _ (by simp)]⟩
  | n, .str s, k, h => ⟨by
      have h : s.length ≤ 60 := by cases n <;> exact of_decide_eq_true h
      cases n + k <;> exact decide_eq_true h, by rw [pl_scal n _ (by simp), pl_scal (n + k) _ (by simp)]⟩
  | n + 1, .tup xs, k, h => by
    obtain ⟨h60, ok⟩ := okV_tup h
    rw [show n + 1 + k = (n + k) + 1 by omega]
    refine ⟨?_, ?_⟩
    · show (decide (xs.length ≤ 60) && xs.all (okV (n + k))) = true
      simp only [Bool.and_eq_true, decide_eq_true_eq, List.all_eq_true]
      exact ⟨h60, fun d hd => (ok_mono n d k (ok d hd)).1⟩
    · show 40 :: (joinL [32] (xs.map (pl (n + k))) ++ [41]) = 40 :: (joinL [32] (xs.map (pl n)) ++ [41])
      rw [List.map_congr_left fun d hd => (ok_mono n d k (ok d hd)).2]
  | n, .lst xs, _, h => by cases n <;> cases h
  | n, .dic xs, _, h => by cases n <;> cases h
  | n, .kst xs, _, h => by cases n <;> cases h
  | 0, .tup xs, _, h => by cases h
/-- signs, and how many -/
structure GT (m : Nat) (s : Str) : Prop where
  sg : ∀ c ∈ tl s, sg c
  len : s.length ≤ m
theorem GT.ok {m : Nat} {s : Str} (h : GT m s) (hm : m ≤ 5000) : OkT s := ⟨h.sg, Nat.le_trans h.len hm⟩
theorem GT.app {m k : Nat} {s t : Str} (h : GT m s) (g : GT k t) : GT (m + k) (s ++ t) := ⟨fun c hc => by
  rw [tl_append] at hc
  exact (List.mem_append.mp hc).elim (h.sg c) (g.sg c), by
  rw [strLen_append]
  have := h.len
  have := g.len
  omega⟩
theorem GT.cut {m : Nat} {s : Str} (h : GT m s) (lo hi : Option Int) : GT m (cutS s lo hi) := by
  have e : ∃ i j, tl (cutS s lo hi) = ((tl s).drop i).take j := by
    unfold cutS
    exact ⟨_, _, rfl⟩
  obtain ⟨i, j, e⟩ := e
  refine ⟨fun c hc => ?_, ?_⟩
  · rw [e] at hc
    exact h.sg c (List.mem_of_mem_drop (List.mem_of_mem_take hc))
  · rw [len_tl, e, List.length_take, List.length_drop]
    have := h.len
    rw [len_tl] at this
    omega
theorem GT.one {c : Nat} (h : K22.sg c) : GT 1 ⟨#[c]⟩ := ⟨fun x hx => by
  have : x = c := by simpa [tl] using hx
  rw [this]; exact h, Nat.le_refl _⟩
theorem rep_mem (a : Array Nat) : ∀ (k : Nat) (acc : Array Nat), (∀ c ∈ ((List.replicate k a).foldl (· ++ ·) acc).toList, c ∈ acc.toList ∨ c ∈ a.toList) ∧ ((List.replicate k a).foldl (· ++ ·) acc).size = acc.size + k * a.size
  | 0, acc => ⟨fun c h => .inl h, by simp⟩
  | k + 1, acc => by
    obtain ⟨h1, h2⟩ := rep_mem a k (acc ++ a)
    rw [List.replicate_succ, List.foldl_cons]
    refine ⟨fun c hc => ?_, ?_⟩
    · rcases h1 c hc with h | h
      · rw [Array.toList_append] at h
        exact List.mem_append.mp h
      · exact .inr h
    · rw [h2, Array.size_append, Nat.add_mul]; omega
theorem GT.rep {s : Str} {n : Int} (h : GT 1 s) : GT n.toNat (repS s n) := by
  obtain ⟨h1, h2⟩ := rep_mem s.cps n.toNat #[]
  unfold repS
  refine ⟨fun c hc => ?_, ?_⟩
  · rcases h1 c hc with z | z
    · cases z
    · exact h.sg c z
  · show ((List.replicate n.toNat s.cps).foldl (· ++ ·) #[]).size ≤ _
    rw [h2]
    have := h.len
    have e : s.cps.size = s.length := rfl
    rw [e]
    have := Nat.mul_le_mul_left n.toNat this
    simp only [Array.size_empty]
    omega
def GD (d : Dat) : Prop := ∃ s, d = .str s ∧ OkT s
theorem gd_rep {s t : Str} {n m : Int} (h : GT 1 s) (g : GT 1 t) (hn : n.toNat + m.toNat ≤ 5000) : GD (.str (repS s n ++ repS t m)) := ⟨_, rfl, (h.rep.app g.rep).ok hn⟩
def GREAT : List Dat := [.str (repS "1" 2001), .str (Str.ofString "-" ++ repS "9" 2001), .str (repS "(" 41 ++ repS ")" 41), .str (repS "(" 40 ++ repS ")" 40), .str "(1  2)", .str "(1 )", .str "( 1)", .str "01", .str "-0", .str "--1", .str "T T", .str "\"a", .str (repS "1" 2000), .str (Str.ofString "-" ++ repS "9" 2000)]
theorem gt_c {s : Str} (h : ((tl s).all fun c => decide (K22.sg c)) = true) (h2 : s.length ≤ 1) : GT 1 s := ⟨fun c hc => of_decide_eq_true (List.all_eq_true.mp h c hc), h2⟩
theorem gd_c {s : Str} (h : ((tl s).all fun c => decide (K22.sg c)) = true) (h2 : s.length ≤ 60) : GD (.str s) := ⟨s, rfl, ⟨fun c hc => of_decide_eq_true (List.all_eq_true.mp h c hc), by omega⟩⟩
theorem great_ok : ∀ d ∈ GREAT, GD d := by
  intro d hd
  unfold GREAT at hd
  simp only [List.mem_cons, List.not_mem_nil, or_false] at hd
  have g1 : GT 1 (Str.ofString "1") := gt_c (by decide +kernel) (by decide +kernel)
  have g9 : GT 1 (Str.ofString "9") := gt_c (by decide +kernel) (by decide +kernel)
  have gm : GT 1 (Str.ofString "-") := gt_c (by decide +kernel) (by decide +kernel)
  have ga : GT 1 (Str.ofString "(") := gt_c (by decide +kernel) (by decide +kernel)
  have gb : GT 1 (Str.ofString ")") := gt_c (by decide +kernel) (by decide +kernel)
  rcases hd with rfl | rfl | rfl | rfl | rfl | rfl | rfl | rfl | rfl | rfl | rfl | rfl | rfl | rfl
  · exact ⟨_, rfl, g1.rep.ok (by decide)⟩
  · exact ⟨_, rfl, (gm.app g9.rep).ok (by decide)⟩
  · exact gd_rep ga gb (by decide)
  · exact gd_rep ga gb (by decide)
  · exact gd_c (by decide +kernel) (by decide +kernel)
  · exact gd_c (by decide +kernel) (by decide +kernel)
  · exact gd_c (by decide +kernel) (by decide +kernel)
  · exact gd_c (by decide +kernel) (by decide +kernel)
  · exact gd_c (by decide +kernel) (by decide +kernel)
  · exact gd_c (by decide +kernel) (by decide +kernel)
  · exact gd_c (by decide +kernel) (by decide +kernel)
  · exact gd_c (by decide +kernel) (by decide +kernel)
  · exact ⟨_, rfl, g1.rep.ok (by decide)⟩
  · exact ⟨_, rfl, (gm.app g9.rep).ok (by decide)⟩
def SIGNS : Str := "()\" TFN-0195\\n;x~"
theorem signs_ok : ∀ c ∈ SIGNS.cps.toList, K22.sg c := by
  have h : (SIGNS.cps.toList.all fun c => decide (K22.sg c)) = true := by decide +kernel
  exact fun c hc => of_decide_eq_true (List.all_eq_true.mp h c hc)
end K22

namespace K22
open PySem PySem.Spec L2 Lay Com TL T21 T22
local macro_rules | `(tactic| walk_at "WP") => `(tactic| (repeat (first | with_reducible refine ws_seq ?_ | with_reducible refine ws_asg ?_ | with_reducible refine ws_if ?_ | with_reducible refine ws_ret ?_ | with_reducible refine ws_expr ?_ | with_reducible refine ws_par ?_ | with_reducible refine ws_nx ?_ | with_reducible refine ws_raise ?_ | with_reducible refine o_TT ?_ | with_reducible refine ws_bk ?_ | with_reducible refine ws_ct ?_ | with_reducible refine ws_retN ?_ | with_reducible refine ws_st_nil ?_ | with_reducible refine ws_st_cons ?_ | with_reducible refine w_D ?_ | with_reducible refine w_x2 ?_ | with_reducible refine w_x1 ?_ | with_reducible refine w_notV ?_ | with_reducible refine w_Nil ?_ | with_reducible refine w_Cons ?_ | with_reducible refine w_N ?_ | with_reducible refine w_M ?_ | with_reducible refine w_Ty ?_ | with_reducible refine w_Tup ?_ | with_reducible refine w_LstF ?_ | with_reducible refine w_Fz ?_ | with_reducible refine w_T ?_ | with_reducible refine w_Tru ?_ | with_reducible refine w_And ?_ | with_reducible refine w_Or ?_ | with_reducible refine w_Not ?_ | with_reducible refine w_If ?_ | with_reducible refine w_OrV ?_ | with_reducible refine w_AndV ?_ | with_reducible refine w_Js_nil ?_ | with_reducible refine w_Js_cons ?_ | with_reducible refine w_Call ?_ | with_reducible refine w_Mut ?_ | with_reducible refine w_Yes ?_ | with_reducible refine w_gIx ?_ | with_reducible refine w_gS_nil ?_ | with_reducible refine w_gS_cons ?_ | with_reducible refine w_Sq ?_ | with_reducible refine w_Rg1 ?_ | with_reducible refine w_Rg2 ?_ | with_reducible refine w_NoPart ?_ | with_reducible refine w_Part ?_ | with_reducible refine w_Sl ?_ | with_reducible refine ws_aug ?_ | with_reducible refine o_addI ?_ | with_reducible refine o_find2 ?_ | with_reducible refine o_find3 ?_ | with_reducible refine o_add ?_ | with_reducible refine o_sub ?_ | with_reducible refine o_lt ?_ | with_reducible refine o_le ?_ | with_reducible refine o_gt ?_ | with_reducible refine o_ge ?_ | with_reducible refine o_eqI ?_ | with_reducible refine o_neI ?_ | with_reducible refine o_int ?_ | with_reducible refine o_intB ?_ | with_reducible refine o_gcd ?_ | with_reducible refine o_lenT ?_ | with_reducible refine o_lenL ?_ | with_reducible refine o_lenK ?_ | with_reducible refine o_lenO ?_ | with_reducible refine o_isN ?_ | with_reducible refine o_isB ?_ | with_reducible refine o_isnN ?_ | with_reducible refine o_isnB ?_ | with_reducible refine o_neg ?_ | with_reducible refine o_eqS ?_ | with_reducible refine o_neS ?_ | refine w_var rfl ?_ | refine w_gLs rfl ?_ | refine w_gS_cons ?_ | refine w_gS_nil ?_ | refine ws_st_cons ?_ | refine ws_st_nil ?_ | refine w_Js_cons ?_ | refine w_Js_nil ?_ | refine w_gNm rfl ?_ | refine w_gJ rfl (by assumption) ?_ | refine w_gTu rfl ?_ | refine o_isi (by decide) ?_ | refine o_mul (by first | exact cMul_r (by omega) (by omega) | exact cMul_l (by omega) (by omega)) ?_ | refine o_mul (by assumption) ?_ | refine o_mod (by omega) ?_ | refine o_fdivS (by omega) (by omega) ?_ | refine o_absN ?_ | refine ⟨⟨by omega, by omega⟩, ?_⟩ | refine ⟨⟨⟨by omega, by omega⟩, by omega, by omega⟩, ?_⟩ | refine ⟨@rfl _ _, ?_⟩ | refine ⟨⟨@rfl _ _, @rfl _ _⟩, ?_⟩ | refine ⟨_, rfl, ?_⟩ | refine ⟨⟨Nat.le_of_ble_eq_true rfl, fun _ h => nomatch h⟩, ?_⟩ | refine ⟨Nat.le_of_ble_eq_true rfl, ?_⟩ | refine br_true ?_ | refine br_false ?_ | refine w_back rfl ?_ | refine wo rfl ?_)))
local macro_rules | `(tactic| walk_at "WQ") => `(tactic| (repeat (first | with_reducible refine ws_seq ?_ | with_reducible refine ws_asg ?_ | with_reducible refine ws_ret ?_ | with_reducible refine ws_expr ?_ | with_reducible refine ws_par ?_ | with_reducible refine ws_nx ?_ | with_reducible refine ws_raise ?_ | with_reducible refine o_TT ?_ | with_reducible refine ws_bk ?_ | with_reducible refine ws_ct ?_ | with_reducible refine ws_retN ?_ | with_reducible refine ws_st_nil ?_ | with_reducible refine ws_st_cons ?_ | with_reducible refine w_D ?_ | with_reducible refine w_x2 ?_ | with_reducible refine w_x1 ?_ | with_reducible refine w_notV ?_ | with_reducible refine w_Nil ?_ | with_reducible refine w_Cons ?_ | with_reducible refine w_N ?_ | with_reducible refine w_M ?_ | with_reducible refine w_Ty ?_ | with_reducible refine w_Tup ?_ | with_reducible refine w_LstF ?_ | with_reducible refine w_Fz ?_ | with_reducible refine w_T ?_ | with_reducible refine w_Tru ?_ | with_reducible refine w_And ?_ | with_reducible refine w_Or ?_ | with_reducible refine w_Not ?_ | with_reducible refine w_If ?_ | with_reducible refine w_OrV ?_ | with_reducible refine w_AndV ?_ | with_reducible refine w_Js_nil ?_ | with_reducible refine w_Js_cons ?_ | with_reducible refine w_Call ?_ | with_reducible refine w_Mut ?_ | with_reducible refine w_Yes ?_ | with_reducible refine w_gIx ?_ | with_reducible refine w_gS_nil ?_ | with_reducible refine w_gS_cons ?_ | with_reducible refine w_Sq ?_ | with_reducible refine w_Rg1 ?_ | with_reducible refine w_Rg2 ?_ | with_reducible refine w_NoPart ?_ | with_reducible refine w_Part ?_ | with_reducible refine w_Sl ?_ | with_reducible refine ws_aug ?_ | with_reducible refine o_addI ?_ | with_reducible refine o_find2 ?_ | with_reducible refine o_find3 ?_ | with_reducible refine o_add ?_ | with_reducible refine o_sub ?_ | with_reducible refine o_lt ?_ | with_reducible refine o_le ?_ | with_reducible refine o_gt ?_ | with_reducible refine o_ge ?_ | with_reducible refine o_eqI ?_ | with_reducible refine o_neI ?_ | with_reducible refine o_int ?_ | with_reducible refine o_intB ?_ | with_reducible refine o_gcd ?_ | with_reducible refine o_lenT ?_ | with_reducible refine o_lenL ?_ | with_reducible refine o_lenK ?_ | with_reducible refine o_lenO ?_ | with_reducible refine o_isN ?_ | with_reducible refine o_isB ?_ | with_reducible refine o_isnN ?_ | with_reducible refine o_isnB ?_ | with_reducible refine o_neg ?_ | with_reducible refine o_eqS ?_ | with_reducible refine o_neS ?_ | refine w_var rfl ?_ | refine w_gLs rfl ?_ | refine w_gS_cons ?_ | refine w_gS_nil ?_ | refine ws_st_cons ?_ | refine ws_st_nil ?_ | refine w_Js_cons ?_ | refine w_Js_nil ?_ | refine w_gNm rfl ?_ | refine w_gJ rfl (by assumption) ?_ | refine w_gTu rfl ?_ | refine o_isi (by decide) ?_ | refine o_mul (by first | exact cMul_r (by omega) (by omega) | exact cMul_l (by omega) (by omega)) ?_ | refine o_mul (by assumption) ?_ | refine o_mod (by omega) ?_ | refine o_fdivS (by omega) (by omega) ?_ | refine o_absN ?_ | refine ⟨⟨by omega, by omega⟩, ?_⟩ | refine ⟨⟨⟨by omega, by omega⟩, by omega, by omega⟩, ?_⟩ | refine ⟨@rfl _ _, ?_⟩ | refine ⟨⟨@rfl _ _, @rfl _ _⟩, ?_⟩ | refine ⟨_, rfl, ?_⟩ | refine ⟨⟨Nat.le_of_ble_eq_true rfl, fun _ h => nomatch h⟩, ?_⟩ | refine ⟨Nat.le_of_ble_eq_true rfl, ?_⟩ | refine br_true ?_ | refine br_false ?_ | refine w_back rfl ?_ | refine wo rfl ?_)))
local macro_rules | `(tactic| walk_at "WI") => `(tactic| (repeat (first | with_reducible refine ws_seq ?_ | with_reducible refine ws_asg ?_ | with_reducible refine ws_if ?_ | with_reducible refine ws_ret ?_ | with_reducible refine ws_expr ?_ | with_reducible refine ws_par ?_ | with_reducible refine ws_nx ?_ | with_reducible refine ws_raise ?_ | with_reducible refine o_TT ?_ | with_reducible refine ws_bk ?_ | with_reducible refine ws_ct ?_ | with_reducible refine ws_retN ?_ | with_reducible refine ws_st_nil ?_ | with_reducible refine ws_st_cons ?_ | with_reducible refine w_D ?_ | with_reducible refine w_x2 ?_ | with_reducible refine w_x1 ?_ | with_reducible refine w_notV ?_ | with_reducible refine w_Nil ?_ | with_reducible refine w_Cons ?_ | with_reducible refine w_N ?_ | with_reducible refine w_M ?_ | with_reducible refine w_Ty ?_ | with_reducible refine w_Tup ?_ | with_reducible refine w_LstF ?_ | with_reducible refine w_Fz ?_ | with_reducible refine w_T ?_ | with_reducible refine w_Tru ?_ | with_reducible refine w_And ?_ | with_reducible refine w_Or ?_ | with_reducible refine w_Not ?_ | with_reducible refine w_OrV ?_ | with_reducible refine w_AndV ?_ | with_reducible refine w_Js_nil ?_ | with_reducible refine w_Js_cons ?_ | with_reducible refine w_Call ?_ | with_reducible refine w_Mut ?_ | with_reducible refine w_Yes ?_ | with_reducible refine w_gIx ?_ | with_reducible refine w_gS_nil ?_ | with_reducible refine w_gS_cons ?_ | with_reducible refine w_Sq ?_ | with_reducible refine w_Rg1 ?_ | with_reducible refine w_Rg2 ?_ | with_reducible refine w_NoPart ?_ | with_reducible refine w_Part ?_ | with_reducible refine w_Sl ?_ | with_reducible refine ws_aug ?_ | with_reducible refine o_addI ?_ | with_reducible refine o_find2 ?_ | with_reducible refine o_find3 ?_ | with_reducible refine o_add ?_ | with_reducible refine o_sub ?_ | with_reducible refine o_lt ?_ | with_reducible refine o_le ?_ | with_reducible refine o_gt ?_ | with_reducible refine o_ge ?_ | with_reducible refine o_eqI ?_ | with_reducible refine o_neI ?_ | with_reducible refine o_int ?_ | with_reducible refine o_intB ?_ | with_reducible refine o_gcd ?_ | with_reducible refine o_lenT ?_ | with_reducible refine o_lenL ?_ | with_reducible refine o_lenK ?_ | with_reducible refine o_lenO ?_ | with_reducible refine o_isN ?_ | with_reducible refine o_isB ?_ | with_reducible refine o_isnN ?_ | with_reducible refine o_isnB ?_ | with_reducible refine o_neg ?_ | with_reducible refine o_eqS ?_ | with_reducible refine o_neS ?_ | refine w_var rfl ?_ | refine w_gLs rfl ?_ | refine w_gS_cons ?_ | refine w_gS_nil ?_ | refine ws_st_cons ?_ | refine ws_st_nil ?_ | refine w_Js_cons ?_ | refine w_Js_nil ?_ | refine w_gNm rfl ?_ | refine w_gJ rfl (by assumption) ?_ | refine w_gTu rfl ?_ | refine o_isi (by decide) ?_ | refine o_mul (by first | exact cMul_r (by omega) (by omega) | exact cMul_l (by omega) (by omega)) ?_ | refine o_mul (by assumption) ?_ | refine o_mod (by omega) ?_ | refine o_fdivS (by omega) (by omega) ?_ | refine o_absN ?_ | refine ⟨⟨by omega, by omega⟩, ?_⟩ | refine ⟨⟨⟨by omega, by omega⟩, by omega, by omega⟩, ?_⟩ | refine ⟨@rfl _ _, ?_⟩ | refine ⟨⟨@rfl _ _, @rfl _ _⟩, ?_⟩ | refine ⟨_, rfl, ?_⟩ | refine ⟨⟨Nat.le_of_ble_eq_true rfl, fun _ h => nomatch h⟩, ?_⟩ | refine ⟨Nat.le_of_ble_eq_true rfl, ?_⟩ | refine br_true ?_ | refine br_false ?_ | refine w_back rfl ?_ | refine wo rfl ?_)))
local macro_rules | `(tactic| walk_at "NE") => `(tactic| (dsimp only [List.set_cons_succ, List.set_cons_zero, frz]))
local macro_rules | `(tactic| walk_at "FIN") => `(tactic| (first | rfl | exact ⟨rfl, rfl⟩ | exact trivial | exact ⟨trivial, rfl⟩ | exact ⟨trivial, trivial⟩ | exact ⟨rfl, trivial⟩))
mutual
theorem vl_solid : ∀ (n : Nat) (d : Dat), vl n d = true → solid d = true
  | n, .non, _ => rfl
  | n, .bl _, _ => rfl
  | n, .int _, _ => rfl
  | n, .str _, _ => rfl
  | n + 1, .tup xs, h => by
    have h : (decide (xs.length ≤ 1000000) && xs.all (vl n)) = true := h
    rw [Bool.and_eq_true] at h
    show solids xs = true
    exact vls_solid n xs h.2
  | 0, .tup xs, h => by cases h
  | n, .lst _, h => by cases n <;> cases h
  | n, .dic _, h => by cases n <;> cases h
  | n, .kst _, h => by cases n <;> cases h
theorem vls_solid : ∀ (n : Nat) (ds : List Dat), ds.all (vl n) = true → solids ds = true
  | n, [], _ => rfl
  | n, d :: ds, h => by
    rw [List.all_cons, Bool.and_eq_true] at h
    show (solid d && solids ds) = true
    rw [vl_solid n d h.1, vls_solid n ds h.2]
    rfl
end
theorem law_run (ns : List Int) : Wf F_law [.fz (.kst ns)] (fun r _ => r = .fz (.bl true)) nX := by
  refine Wf.run ?_
  show Ws G_law [.vl _, .un, .un, .un, .un, .un, .un, .un, .un] _
  unfold G_law
  walk_at "WP"
  refine (digits_spec).go fun r out h => ?_
  obtain ⟨⟨ds, rfl, hds⟩, rfl⟩ := h
  refine w_backT (by rw [solid_ints]; rfl) ?_
  walk_at "WP"
  dsimp only [List.set_cons_succ, List.set_cons_zero, List.map, frz]
  rw [frzs_ints]
  refine ws_for ?_
  walk_at "WP"
  refine ⟨fun k ρ => ∃ (o : OT) (s2 s3 s4 s5 s6 s7 s8 : Sl), Box o ∧ Jk s2 ∧ Jk s3 ∧ Jk s4 ∧ Jk s5 ∧ Jk s6 ∧ Jk s7 ∧ Jk s8 ∧ ρ = [.vl (.fz (.kst ns)), .vl o, s2, s3, s4, s5, s6, s7, s8], ?_, ?_, ?_⟩
  · exact ⟨_, _, _, _, _, _, _, _, ⟨ds, 0, rfl, Int.le_refl _⟩, jk_un, jk_un, jk_un, jk_un, jk_un, jk_un, jk_un, rfl⟩
  · rintro k d ρ hd ⟨o, s2, s3, s4, s5, s6, s7, s8, hb, j2, j3, j4, j5, j6, j7, j8, rfl⟩
    obtain ⟨hk, rfl⟩ := rng_inv hd
    simp only [Int.zero_add]
    obtain ⟨ds, at', rfl, hp⟩ := hb
    walk_at "WP"
    refine (value_draw 3 64 _ (by decide) ⟨ds, at', rfl, hp⟩).go fun r out h => ?_
    obtain ⟨⟨ds1, at1, rfl, hp1⟩, v, rfl, hv⟩ := h
    obtain ⟨m1, m2⟩ := ok_mono 3 v 60 hv.ok
    have b3 : bd 3 = 1145 := by decide
    have vlen := hv.len
    rw [b3] at vlen
    have g0 : GT 1145 (txt 63 v) := ⟨by rw [tl_txt, m2]; exact hv.sgs, by rw [txt_len, m2]; exact vlen⟩
    walk_at "WP"
    refine (plain_spec 63 v ⟨m1, by rw [m2]; omega⟩).go fun r out h => ?_
    obtain ⟨rfl, rfl⟩ := h
    generalize txt 63 v = t0 at g0
    have l0 := g0.len
    walk_at "WP"
    walk_at "NE"
    refine (draw_spec ⟨ds1, at1, rfl, hp1⟩ (by decide)).go fun r out h => ?_
    obtain ⟨⟨ds2, at2, rfl, hp2⟩, v2, rfl, k1, k2⟩ := h
    walk_at "WP"
    refine o_lenS (by show _ ≤ 16777216; omega) ?_
    walk_at "WP"
    walk_at "NE"
    generalize hA : v2 % ((t0.length : Int) + 1) = A
    refine (draw_spec ⟨ds2, at2, rfl, hp2⟩ (by decide)).go fun r out h => ?_
    obtain ⟨⟨ds3, at3, rfl, hp3⟩, v3, rfl, k3, k4⟩ := h
    walk_at "WP"
    have sl : SIGNS.cps.toList.length = 17 := by decide +kernel
    obtain ⟨c, hc, hcm⟩ := mem_of_atI (x := 0) (xs := SIGNS.cps.toList) (i := v3 % 17) (by omega) (by rw [sl]; omega)
    have hs := signs_ok c hcm
    have g1 := GT.one hs
    have l1 := g1.len
    refine o_ixS (s := SIGNS) (by decide +kernel) hc ?_
    walk_at "WP"
    walk_at "NE"
    have cl : ∀ lo hi, (cutS t0 lo hi).length ≤ 1145 := fun lo hi => (g0.cut lo hi).len
    refine o_slS (by show _ ≤ 16777216; omega) ?_
    walk_at "WP"
    refine o_slS (by show _ ≤ 16777216; omega) ?_
    walk_at "WP"
    refine o_slS (by show _ ≤ 16777216; omega) ?_
    walk_at "WP"
    have c1 := cl none (some A)
    have c2 := cl (some (A + 1)) none
    have c3 := cl (some A) none
    have e1 : (⟨#[c]⟩ : Str).length = 1 := rfl
    refine o_addS (by show _ ≤ 16777216; omega) ?_
    walk_at "WP"
    refine o_slS (by show _ ≤ 16777216; omega) ?_
    walk_at "WP"
    refine o_addS (by rw [e1]; show _ ≤ 16777216; omega) ?_
    walk_at "WP"
    refine o_slS (by show _ ≤ 16777216; omega) ?_
    walk_at "WP"
    refine o_addS (by rw [strLen_append, e1]; show _ ≤ 16777216; omega) ?_
    walk_at "WP"
    refine o_slS (by show _ ≤ 16777216; omega) ?_
    walk_at "WP"
    refine o_addS (by rw [e1]; show _ ≤ 16777216; omega) ?_
    walk_at "WP"
    refine o_slS (by show _ ≤ 16777216; omega) ?_
    walk_at "WP"
    refine o_addS (by rw [strLen_append, e1]; show _ ≤ 16777216; omega) ?_
    walk_at "WP"
    refine o_addS (by rw [e1]; show _ ≤ 16777216; omega) ?_
    walk_at "WP"
    walk_at "NE"
    have q9 : GT 1 (Str.ofString "9") := gt_c (by decide +kernel) (by decide +kernel)
    have qm : (Str.ofString "-").length = 1 := by decide +kernel
    have qa : GT 1 (Str.ofString "(") := gt_c (by decide +kernel) (by decide +kernel)
    have qb : GT 1 (Str.ofString ")") := gt_c (by decide +kernel) (by decide +kernel)
    have r9 : (repS (Str.ofString "9") 2001).length ≤ 2001 := q9.rep.len
    have r9' : (repS (Str.ofString "9") 2000).length ≤ 2000 := q9.rep.len
    have ra : (repS (Str.ofString "(") 41).length ≤ 41 := qa.rep.len
    have rb : (repS (Str.ofString ")") 41).length ≤ 41 := qb.rep.len
    have ra' : (repS (Str.ofString "(") 40).length ≤ 40 := qa.rep.len
    have rb' : (repS (Str.ofString ")") 40).length ≤ 40 := qb.rep.len
    refine o_addS (by rw [qm]; show _ ≤ 16777216; omega) ?_
    walk_at "WP"
    refine o_addS (by show _ ≤ 16777216; omega) ?_
    walk_at "WP"
    refine o_addS (by show _ ≤ 16777216; omega) ?_
    walk_at "WP"
    refine o_addS (by rw [qm]; show _ ≤ 16777216; omega) ?_
    walk_at "WP"
    walk_at "NE"
    refine (draw_spec ⟨ds3, at3, rfl, hp3⟩ (by decide)).go fun r out h => ?_
    obtain ⟨⟨ds4, at4, rfl, hp4⟩, v4, rfl, k5, k6⟩ := h
    walk_at "WP"
    have gl : GREAT.length = 14 := rfl
    obtain ⟨d1, hd1, hm1⟩ := mem_of_atI (x := Dat.non) (xs := GREAT) (i := 4 + v4 % 8) (by omega) (by rw [gl]; omega)
    refine o_ixO (xs := GREAT) rfl hd1 ?_
    walk_at "WQ"
    have five : ∀ d2, GD d2 → ∀ d ∈ [Dat.str (cutS t0 none (some A)), .str (cutS t0 none (some A) ++ cutS t0 (some (A + 1)) none), .str (cutS t0 none (some A) ++ (⟨#[c]⟩ : Str) ++ cutS t0 (some A) none), .str (cutS t0 none (some A) ++ (⟨#[c]⟩ : Str) ++ cutS t0 (some (A + 1)) none), .str (t0 ++ (⟨#[c]⟩ : Str)), d2], GD d := by
      intro d2 hd2 d hd
      simp only [List.mem_cons, List.not_mem_nil, or_false] at hd
      rcases hd with rfl | rfl | rfl | rfl | rfl | rfl
      · exact ⟨_, rfl, (g0.cut _ _).ok (by decide)⟩
      · exact ⟨_, rfl, ((g0.cut _ _).app (g0.cut _ _)).ok (by decide)⟩
      · exact ⟨_, rfl, (((g0.cut _ _).app g1).app (g0.cut _ _)).ok (by decide)⟩
      · exact ⟨_, rfl, (((g0.cut _ _).app g1).app (g0.cut _ _)).ok (by decide)⟩
      · exact ⟨_, rfl, (g0.app g1).ok (by decide)⟩
      · exact hd2
    refine ws_J (fun ρ => ∃ (o : OT) (six : List Dat) (s7 : Sl), Box o ∧ six.length = 6 ∧ (∀ d ∈ six, GD d) ∧ Jk s7 ∧ ρ = [.vl (.fz (.kst ns)), .vl o, .vl (.fz (.int (k : Int))), .vl (.fz (.str t0)), .vl (.fz (.int A)), .vl (.fz (.str ⟨#[c]⟩)), .vl (.lst (six.map .fz)), s7, s8]) ?_ ?_
    · walk_at "WP"
      refine br_dec (fun h0 => ?_) (fun h0 => ?_)
      · walk_at "WP"
        refine (draw_spec ⟨ds4, at4, rfl, hp4⟩ (by decide)).go fun r out h => ?_
        obtain ⟨⟨ds5, at5, rfl, hp5⟩, v5, rfl, k7, k8⟩ := h
        walk_at "WP"
        obtain ⟨d2, hd2, hm2⟩ := mem_of_atI (x := Dat.non) (xs := GREAT) (i := v5 % 14) (by omega) (by rw [gl]; omega)
        refine o_ixO (xs := GREAT) rfl hd2 ?_
        walk_at "WP"
        exact ⟨_, _, _, ⟨ds5, at5, rfl, hp5⟩, rfl, five d2 (great_ok d2 hm2), jk_vl, rfl⟩
      · walk_at "WP"
        exact ⟨_, _, _, ⟨ds4, at4, rfl, hp4⟩, rfl, five d1 (great_ok d1 hm1), jk_vl, rfl⟩
    rintro ρ ⟨o, six, s7, ⟨ds5, at5, rfl, hp5⟩, h6, hsix, j7, rfl⟩
    walk_at "WP"
    refine (draw_spec ⟨ds5, at5, rfl, hp5⟩ (by decide)).go fun r out h => ?_
    obtain ⟨⟨ds6, at6, rfl, hp6⟩, v6, rfl, k9, k10⟩ := h
    walk_at "WP"
    obtain ⟨d3, hd3, hm3⟩ := mem_of_atI (x := Dat.non) (xs := six) (i := v6) k9 (by rw [h6]; exact k10)
    obtain ⟨t, rfl, okt⟩ := hsix d3 hm3
    refine o_ixO (xs := six) (allFz_map six) hd3 ?_
    walk_at "WP"
    walk_at "NE"
    have tl5 := okt.len
    have vr := read_vl (t := t) (by omega)
    have sr : solid (readP t) = true := vl_solid _ _ vr
    refine (lread_spec okt).go fun r out h => ?_
    obtain ⟨rfl, rfl⟩ := h
    refine w_backT (by show (solid (readP t) && true) = true; rw [sr]; rfl) ?_
    walk_at "WP"
    refine (told_spec okt).go fun r out h => ?_
    obtain ⟨rfl, rfl⟩ := h
    refine w_backT (by show (solid (readP t) && true) = true; rw [sr]; rfl) ?_
    walk_at "WP"
    refine (same_refl 41 _ 63 vr (by decide)).go fun r out h => ?_
    obtain ⟨rfl, rfl⟩ := h
    walk_at "WP"
    exact ⟨_, _, _, _, _, _, _, _, ⟨ds6, at6, rfl, hp6⟩, jk_vl, jk_vl, jk_vl, jk_vl, jk_vl, j7, jk_vl, rfl⟩
  · rintro ρ ⟨o, s2, s3, s4, s5, s6, s7, s8, hb, j2, j3, j4, j5, j6, j7, j8, rfl⟩
    walk_at "WP"
    walk_at "FIN"
theorem law_ok : LawOk F_law := law_of fun ns _ _ => law_run ns
end K22

open PySem PySem.W PyProof.Rows
set_option maxRecDepth 100000 in
set_option maxHeartbeats 0 in
theorem PySem.Challenge.cw_tileyard_k22_plain_wrong_texts_holds : PySem.Challenge.rw_tileyard_k22_plain_wrong_texts.Holds := by
  w_on; o_law; k_head; (case hw => w_witness2)
  k_fill
  refine Lay.law_walk (l := PySem.Challenge.rw_tileyard_k22_plain_wrong_texts) (k := 134) K22.law_ok rfl rfl ⟨rfl, by decide, by decide⟩ (fun w h Y => PySem.W.kIn_of Y) ?F
  case F =>
    intro w mg fa h KX G hmg
    refine' K22.all_mk KX G hmg ?a__law_cell ?l__law_cell ?c__law_cell ?k__law_cell ?a__law_digits ?l__law_digits ?c__law_digits ?k__law_digits ?a__law_plain ?l__law_plain ?c__law_plain ?k__law_plain ?a__law_text_at ?l__law_text_at ?c__law_text_at ?k__law_text_at ?a__law_digits_at ?l__law_digits_at ?c__law_digits_at ?k__law_digits_at ?a__law_value_at ?l__law_value_at ?c__law_value_at ?k__law_value_at ?a__law_read ?l__law_read ?c__law_read ?k__law_read ?a__law_draw ?l__law_draw ?c__law_draw ?k__law_draw ?a__law_value ?l__law_value ?c__law_value ?k__law_value ?a__law_same ?l__law_same ?c__law_same ?k__law_same ?a_integer_at ?l_integer_at ?c_integer_at ?k_integer_at ?a_text_at ?l_text_at ?c_text_at ?k_text_at ?a_value_at ?l_value_at ?c_value_at ?k_value_at ?a_tuple_at ?l_tuple_at ?c_tuple_at ?k_tuple_at ?a_read_plain ?l_read_plain ?c_read_plain ?k_read_plain ?a__law_told ?l__law_told ?c__law_told ?k__law_told ?a_law ?l_law ?c_law ?k_law ?z_ValueError ?z_bool ?z_int ?z_isinstance ?z_len ?z_ord ?z_range ?z_str ?z_tuple ?x_FIGURES ?x_MOST_BRACKETS ?x_MOST_FIGURES ?z_idl ?a_BadPlain ?ty_BadPlain ?cl_BadPlain ?a_BadText ?ty_BadText ?cl_BadText ?a_TileError ?ty_TileError ?cl_TileError ?ex_BadPlain ?no_BadPlain_place ?lk_BadPlain ?rv_BadPlain ?sa_BadPlain ?kp_BadPlain ?in_BadPlain ?ti_BadPlain ?li_BadPlain ?ci_BadPlain ?ce_BadPlain ?mr_BadPlain ?up_BadPlain ?sv_BadPlain ?kd_BadPlain ?v2_BadPlain ?fi_BadPlain ?z_3p ?z_super ?ts_super ?ga_BadPlain ?gg_BadPlain ?hd_BadPlain ?hc_BadPlain ?mo_BadPlain ?ss_BadPlain ?hn_cls ?ht_cls ?ne_BadPlain_BadText ?su_BadPlain_BadText ?ne_BadPlain_TileError ?su_BadPlain_TileError ?su_BadPlain_ValueError
    (case a__law_cell => k_is); (case l__law_cell => k_is); (case c__law_cell => k_is); (case k__law_cell => k_is); (case a__law_digits => k_is); (case l__law_digits => k_is)
    (case c__law_digits => k_is); (case k__law_digits => k_is); (case a__law_plain => k_is); (case l__law_plain => k_is); (case c__law_plain => k_is); (case k__law_plain => k_is)
    (case a__law_text_at => k_is); (case l__law_text_at => k_is); (case c__law_text_at => k_is); (case k__law_text_at => k_is); (case a__law_digits_at => k_is); (case l__law_digits_at => k_is)
    (case c__law_digits_at => k_is); (case k__law_digits_at => k_is); (case a__law_value_at => k_is); (case l__law_value_at => k_is); (case c__law_value_at => k_is); (case k__law_value_at => k_is)
    (case a__law_read => k_is); (case l__law_read => k_is); (case c__law_read => k_is); (case k__law_read => k_is); (case a__law_draw => k_is); (case l__law_draw => k_is)
    (case c__law_draw => k_is); (case k__law_draw => k_is); (case a__law_value => k_is); (case l__law_value => k_is); (case c__law_value => k_is); (case k__law_value => k_is)
    (case a__law_same => k_is); (case l__law_same => k_is); (case c__law_same => k_is); (case k__law_same => k_is); (case a_integer_at => k_is); (case l_integer_at => k_is)
    (case c_integer_at => k_is); (case k_integer_at => k_is); (case a_text_at => k_is); (case l_text_at => k_is); (case c_text_at => k_is); (case k_text_at => k_is)
    (case a_value_at => k_is); (case l_value_at => k_is); (case c_value_at => k_is); (case k_value_at => k_is); (case a_tuple_at => k_is); (case l_tuple_at => k_is)
    (case c_tuple_at => k_is); (case k_tuple_at => k_is); (case a_read_plain => k_is); (case l_read_plain => k_is); (case c_read_plain => k_is); (case k_read_plain => k_is)
    (case a__law_told => k_is); (case l__law_told => k_is); (case c__law_told => k_is); (case k__law_told => k_is); (case a_law => k_is); (case l_law => k_is)
    (case c_law => k_is); (case k_law => k_is); (case z_ValueError => k_is); (case z_bool => k_is); (case z_int => k_is); (case z_isinstance => k_is)
    (case z_len => k_is); (case z_ord => k_is); (case z_range => k_is); (case z_str => k_is); (case z_tuple => k_is); (case x_FIGURES => k_is)
    (case x_MOST_BRACKETS => k_is); (case x_MOST_FIGURES => k_is); (case z_idl => k_is); (case a_BadPlain => k_is); (case ty_BadPlain => k_is); (case cl_BadPlain => k_is)
    (case a_BadText => k_is); (case ty_BadText => k_is); (case cl_BadText => k_is); (case a_TileError => k_is); (case ty_TileError => k_is); (case cl_TileError => k_is)
    (case ex_BadPlain => k_is); (case no_BadPlain_place => k_is); (case lk_BadPlain => k_is); (case rv_BadPlain => decide +kernel); (case sa_BadPlain => k_is); (case kp_BadPlain => k_is)
    (case in_BadPlain => k_is); (case ti_BadPlain => k_is); (case li_BadPlain => k_is); (case ci_BadPlain => k_is); (case ce_BadPlain => k_is); (case mr_BadPlain => k_is)
    (case up_BadPlain => ks_is); (case sv_BadPlain => k_is); (case kd_BadPlain => k_is); (case v2_BadPlain => rfl); (case fi_BadPlain => decide +kernel); (case z_3p => k_is)
    (case z_super => k_is); (case ts_super => decide +kernel); (case ga_BadPlain => k_is); (case gg_BadPlain => k_is); (case hd_BadPlain => k_is); (case hc_BadPlain => k_is)
    (case mo_BadPlain => k_is); (case ss_BadPlain => k_is); (case hn_cls => k_is); (case ht_cls => k_is); (case ne_BadPlain_BadText => decide +kernel); (case su_BadPlain_BadText => k_is)
    (case ne_BadPlain_TileError => decide +kernel); (case su_BadPlain_TileError => k_is); (case su_BadPlain_ValueError => k_is)
#print axioms PySem.Challenge.cw_tileyard_k22_plain_wrong_texts_holds
