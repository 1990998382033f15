import PyProof.Rows.All
import Wide.All
import OpenK.AllK
import Wide.FinOn
import HandS.ForMost
import HandS.ForExc
import KE.KDictKeyed
import HandS.Flow
import HandS.IsInst
import HandS.Walk
import HandS.NoneIn
import HandS.TryOnly
import HandS.ExcOwn
import HandS.WordsExc
import HandS.Zip
import HandS.Wide
import HandS.TupAny
import HandS.Gcd
import HandS.FStr
import HandS.Style
import HandS.Text
import HandS.EndBits
import HandS.Deep
import HandS.StrMore
import HandS.ReplaceLit
import HandS.ExcInit
import HandS.Nested
import KE.KExcSuper
import KE.KSuper
import KE.KExcMake
import KE.KExcIs
import HandS.Dict
import HandS.ExcField
import HandS.ExcIs
import KE.RegKSuper
import HandS.Words
import HandS.StrSplit
import HandS.MapObj
import HandS.MapSum
import PyProof.SumAny
import PyProof.Rows.StrStep
import PyProof.ListNew
import KE.GoesMore
import HandS.TupLen
import HandS.DictComp
import HandS.Comp
import KE.KMathGC
import KE.KDictCopyH
import KE.SortData
import HandS.More
import PySem.Challenge.RW_tileyard_k10_diamonds_diamonds
set_option Elab.async false
set_option linter.all false
set_option maxRecDepth 100000
set_option maxHeartbeats 4000000
set_option autoImplicit false
section
open PySem PySem.W PyProof.Rows
open_top K10top for PySem.Challenge.rw_tileyard_k10_diamonds_diamonds
end
namespace Lay
open PySem PySem.Spec L2
inductive Dat where
  | non | bl (b : Bool) | int (i : Int) | str (s : Str)
  | tup (xs : List Dat) | lst (xs : List Dat) | dic (kvs : List (Dat × Dat))
  /-- a list of ints that nobody of us made: the script -/
  | kst (ns : List Int)
  deriving Inhabited
/-- owned things: fz d is plain data, lst and dic may still be changed by who owns them -/
inductive OT where
  | fz (d : Dat) | lst (os : List OT) | dic (kvs : List (Dat × OT))
  deriving Inhabited
mutual
def frz : OT → Dat
  | .fz d => d
  | .lst os => .lst (frzs os)
  | .dic kvs => .dic (frzk kvs)
def frzs : List OT → List Dat
  | [] => []
  | o :: r => frz o :: frzs r
def frzk : List (Dat × OT) → List (Dat × Dat)
  | [] => []
  | (k, o) :: r => (k, frz o) :: frzk r
end
mutual
/-- nothing in it can be changed by anybody -/
def solid : Dat → Bool
  | .non => true | .bl _ => true | .int _ => true | .str _ => true
  | .tup xs => solids xs
  | .lst _ => false
  | .dic _ => false
  | .kst _ => false
def solids : List Dat → Bool
  | [] => true
  | d :: r => solid d && solids r
end
mutual
def solidO : OT → Bool
  | .fz d => solid d
  | .lst os => solidOs os
  | .dic kvs => solidOk kvs
def solidOs : List OT → Bool
  | [] => true
  | o :: r => solidO o && solidOs r
def solidOk : List (Dat × OT) → Bool
  | [] => true
  | (k, o) :: r => solidO o && solidOk r
end
def kD : Key → Dat
  | .inl i => .int i
  | .inr x => .str x
mutual
def kN : NestedKey → Dat
  | .none => .non
  | .num i => .int i
  | .text x => .str x
  | .tup ks => .tup (kNs ks)
def kNs : List NestedKey → List Dat
  | [] => []
  | k :: r => kN k :: kNs r
end
mutual
/-- its hash, where no text is in it -/
def hN : NestedKey → Int
  | .none => reduceHash 0xFCA86420
  | .num i => hashInt i
  | .text _ => 0
  | .tup ks => reduceHash (Builtin.Tuple.tupleHashOf (hNs ks))
def hNs : List NestedKey → List Int
  | [] => []
  | k :: r => hN k :: hNs r
end
mutual
/-- no text is in it -/
def okN : NestedKey → Bool
  | .none => true
  | .num _ => true
  | .text _ => false
  | .tup ks => okNs ks
def okNs : List NestedKey → Bool
  | [] => true
  | k :: r => okN k && okNs r
end
section
variable (K : PySem.W.Frag)
mutual
/-- the value v is the key -/
def KRep (G : Hp) : NestedKey → V → Prop
  | .none, v => v = .non
  | .num i, v => v = .int i
  | .text x, v => v = .str x
  | .tup ks, v => ∃ a vs, v = .ref a ∧ SqT K G a vs ∧ KReps G ks vs
def KReps (G : Hp) : List NestedKey → List V → Prop
  | [], vs => vs = []
  | k :: r, vs => ∃ v r', vs = v :: r' ∧ KRep G k v ∧ KReps G r r'
end
/-- an entry: the key, where its tuple stands, the value -/
abbrev NEnt := NestedKey × Addr × V
/-- the object at a: a dict with these entries -/
def NDict (a : Addr) (es : List NEnt) (h : Heap) : Prop := (a == sysModules) = false ∧ es.length ≤ sizeLine ∧ ∃ (o : Obj) (xs : Array DictEntry) (ep : Nat), h.get? a = some o ∧ o.ExactDict ∧ o.data = .dict xs ep ∧
  Paired (fun (e : NEnt) (x : DictEntry) => x.hash = hN e.1 ∧ x.key = .ref e.2.1 ∧ RelV e.2.2 x.val) es xs.toList
def nO (a : Addr) (es : List NEnt) : HO := .ext (NDict a es)
/-- the keys of the entries stand there -/
structure NKeys (G : Hp) (es : List NEnt) : Prop where
  key : ∀ e ∈ es, KRep K G e.1 (.ref e.2.1) ∧ okN e.1 = true ∧ e.1.depth ≤ 8
  nodup : (es.map (·.1)).Nodup
/-- the dict at a, its entries in order -/
def DictAt (G H : Hp) (a : Addr) (ps : List (Dat × V)) : Prop :=
  (∃ ks : List (Key × V), H a = some (.dK ks) ∧ ps = ks.map fun p => (kD p.1, p.2)) ∨
  (∃ es : List NEnt, H a = some (nO a es) ∧ NKeys K G es ∧ ps = es.map fun e => (kN e.1, e.2.2))
end
section
variable (K : PySem.W.Frag)
mutual
def RepD (G : Hp) : Dat → V → Prop
  | .non, v => v = .non
  | .bl b, v => v = .bl b
  | .int i, v => v = .int i
  | .str s, v => v = .str s
  | .tup ds, v => ∃ a vs, v = .ref a ∧ SqT K G a vs ∧ RepDs G ds vs
  | .lst ds, v => ∃ a vs, v = .ref a ∧ G a = some (.lst vs) ∧ RepDs G ds vs
  | .kst ns, v => ∃ a, v = .ref a ∧ SqL K G a (ns.map V.int)
  | .dic kvs, v => ∃ a ps, v = .ref a ∧ DictAt K G G a ps ∧ RepDk G kvs ps
def RepDs (G : Hp) : List Dat → List V → Prop
  | [], vs => vs = []
  | d :: r, vs => ∃ v r', vs = v :: r' ∧ RepD G d v ∧ RepDs G r r'
def RepDk (G : Hp) : List (Dat × Dat) → List (Dat × V) → Prop
  | [], ps => ps = []
  | (k, d) :: r, ps => ∃ v r', ps = (k, v) :: r' ∧ RepD G d v ∧ RepDk G r r'
end
mutual
/-- o stands at v; fp are the addresses that its owner owns by it -/
def RepO (G H : Hp) : OT → V → List Addr → Prop
  | .fz d, v, fp => fp = [] ∧ RepD K G d v
  | .lst os, v, fp => ∃ a vs f, v = .ref a ∧ fp = a :: f ∧ H a = some (.lst vs) ∧ RepOs G H os vs f
  | .dic kvs, v, fp => ∃ a ps f, v = .ref a ∧ fp = a :: f ∧ DictAt K G H a ps ∧ RepOk G H kvs ps f
def RepOs (G H : Hp) : List OT → List V → List Addr → Prop
  | [], vs, fp => vs = [] ∧ fp = []
  | o :: r, vs, fp => ∃ v r' f1 f2, vs = v :: r' ∧ fp = f1 ++ f2 ∧ RepO G H o v f1 ∧ RepOs G H r r' f2
def RepOk (G H : Hp) : List (Dat × OT) → List (Dat × V) → List Addr → Prop
  | [], ps, fp => ps = [] ∧ fp = []
  | (k, o) :: r, ps, fp => ∃ v r' f1 f2, ps = (k, v) :: r' ∧ fp = f1 ++ f2 ∧ RepO G H o v f1 ∧ RepOk G H r r' f2
end
end
/-- more is known -/
def Ex (G G' : Hp) : Prop := ∀ a o, G a = some o → G' a = some o
theorem Ex.refl (G : Hp) : Ex G G := fun _ _ h => h
theorem Ex.trans {G G1 G2 : Hp} (a : Ex G G1) (b : Ex G1 G2) : Ex G G2 := fun x o h => b x o (a x o h)
theorem Ex.rd {G G' : Hp} {a : Addr} {u : HO} (e : Ex G G') (h : Rd G a u) : Rd G' a u := by
  rcases h with h | ⟨o, h⟩
  · exact .inl (e a _ h)
  · exact .inr ⟨o, e a _ h⟩
section
variable {K : PySem.W.Frag} {G G' H H' : Hp}
theorem Ex.sqL {a : Addr} {xs : List V} (e : Ex G G') (h : SqL K G a xs) : SqL K G' a xs := h.imp e.rd id
theorem Ex.sqT {a : Addr} {xs : List V} (e : Ex G G') (h : SqT K G a xs) : SqT K G' a xs := h.imp e.rd id
mutual
theorem KRep.mono (e : Ex G G') : ∀ (k : NestedKey) (v : V), KRep K G k v → KRep K G' k v
  | .none, _, h => h
  | .num _, _, h => h
  | .text _, _, h => h
  | .tup ks, _, h => by
    obtain ⟨a, vs, rfl, q, r⟩ := h
    exact ⟨a, vs, rfl, e.sqT q, KReps.mono e ks vs r⟩
theorem KReps.mono (e : Ex G G') : ∀ (ks : List NestedKey) (vs : List V), KReps K G ks vs → KReps K G' ks vs
  | [], _, h => h
  | k :: r, _, h => by
    obtain ⟨v, r', rfl, q1, q2⟩ := h
    exact ⟨v, r', rfl, KRep.mono e k v q1, KReps.mono e r r' q2⟩
end
theorem NKeys.mono {es : List NEnt} (e : Ex G G') (h : NKeys K G es) : NKeys K G' es := ⟨fun x hx => ⟨KRep.mono e _ _ (h.key x hx).1, (h.key x hx).2⟩, h.nodup⟩
theorem DictAt.at {a : Addr} {ps : List (Dat × V)} (e : Ex G G') (k : ∀ o, H a = some o → H' a = some o) (h : DictAt K G H a ps) : DictAt K G' H' a ps := by
  rcases h with ⟨ks, h, q⟩ | ⟨es, h, n, q⟩
  · exact .inl ⟨ks, k _ h, q⟩
  · exact .inr ⟨es, k _ h, n.mono e, q⟩
theorem DictAt.some {a : Addr} {ps : List (Dat × V)} (h : DictAt K G H a ps) : ∃ o, H a = some o := by
  rcases h with ⟨ks, h, q⟩ | ⟨ks, h, q⟩ <;> exact ⟨_, h⟩
/-- what may be owned -/
def Owd (H : Hp) (a : Addr) : Prop := (∃ xs, H a = some (.lst xs)) ∨ (∃ ks, H a = some (.dK ks)) ∨ (∃ ks, H a = some (.dT ks)) ∨ (∃ φ, H a = some (.ext φ))
mutual
theorem RepD.mono (e : Ex G G') : ∀ (d : Dat) (v : V), RepD K G d v → RepD K G' d v
  | .non, _, h => h
  | .bl _, _, h => h
  | .int _, _, h => h
  | .str _, _, h => h
  | .tup ds, _, h => by
    obtain ⟨a, vs, rfl, q, r⟩ := h
    exact ⟨a, vs, rfl, e.sqT q, RepDs.mono e ds vs r⟩
  | .lst ds, _, h => by
    obtain ⟨a, vs, rfl, q, r⟩ := h
    exact ⟨a, vs, rfl, e a _ q, RepDs.mono e ds vs r⟩
  | .kst ns, _, h => by
    obtain ⟨a, rfl, q⟩ := h
    exact ⟨a, rfl, e.sqL q⟩
  | .dic ds, _, h => by
    obtain ⟨a, vs, rfl, q, r⟩ := h
    exact ⟨a, vs, rfl, q.at e (e a), RepDk.mono e ds vs r⟩
theorem RepDs.mono (e : Ex G G') : ∀ (ds : List Dat) (vs : List V), RepDs K G ds vs → RepDs K G' ds vs
  | [], _, h => h
  | d :: r, _, h => by
    obtain ⟨v, r', rfl, q1, q2⟩ := h
    exact ⟨v, r', rfl, RepD.mono e d v q1, RepDs.mono e r r' q2⟩
theorem RepDk.mono (e : Ex G G') : ∀ (ds : List (Dat × Dat)) (vs : List (Dat × V)), RepDk K G ds vs → RepDk K G' ds vs
  | [], _, h => h
  | (k, d) :: r, _, h => by
    obtain ⟨v, r', rfl, q1, q2⟩ := h
    exact ⟨v, r', rfl, RepD.mono e d v q1, RepDk.mono e r r' q2⟩
end
mutual
theorem RepO.mono (e : Ex G G') : ∀ (o : OT) (v : V) (fp : List Addr), (∀ a ∈ fp, ∀ x, H a = some x → H' a = some x) → RepO K G H o v fp → RepO K G' H' o v fp
  | .fz d, v, fp, _, h => ⟨h.1, RepD.mono e d v h.2⟩
  | .lst os, _, fp, k, h => by
    obtain ⟨a, vs, f, rfl, rfl, q, r⟩ := h
    exact ⟨a, vs, f, rfl, rfl, k a List.mem_cons_self _ q, RepOs.mono e os vs f (fun b hb => k b (List.mem_cons_of_mem _ hb)) r⟩
  | .dic os, _, fp, k, h => by
    obtain ⟨a, vs, f, rfl, rfl, q, r⟩ := h
    exact ⟨a, vs, f, rfl, rfl, q.at e (k a List.mem_cons_self), RepOk.mono e os vs f (fun b hb => k b (List.mem_cons_of_mem _ hb)) r⟩
theorem RepOs.mono (e : Ex G G') : ∀ (os : List OT) (vs : List V) (fp : List Addr), (∀ a ∈ fp, ∀ x, H a = some x → H' a = some x) → RepOs K G H os vs fp → RepOs K G' H' os vs fp
  | [], _, _, _, h => h
  | o :: r, _, _, k, h => by
    obtain ⟨v, r', f1, f2, rfl, rfl, q1, q2⟩ := h
    exact ⟨v, r', f1, f2, rfl, rfl, RepO.mono e o v f1 (fun b hb => k b (List.mem_append_left _ hb)) q1, RepOs.mono e r r' f2 (fun b hb => k b (List.mem_append_right _ hb)) q2⟩
theorem RepOk.mono (e : Ex G G') : ∀ (os : List (Dat × OT)) (vs : List (Dat × V)) (fp : List Addr), (∀ a ∈ fp, ∀ x, H a = some x → H' a = some x) → RepOk K G H os vs fp → RepOk K G' H' os vs fp
  | [], _, _, _, h => h
  | (y, o) :: r, _, _, k, h => by
    obtain ⟨v, r', f1, f2, rfl, rfl, q1, q2⟩ := h
    exact ⟨v, r', f1, f2, rfl, rfl, RepO.mono e o v f1 (fun b hb => k b (List.mem_append_left _ hb)) q1, RepOk.mono e r r' f2 (fun b hb => k b (List.mem_append_right _ hb)) q2⟩
end
mutual
/-- what is owned, given away for good -/
theorem RepO.freeze (e : Ex G G') : ∀ (o : OT) (v : V) (fp : List Addr), (∀ a ∈ fp, ∀ x, H a = some x → G' a = some x) → RepO K G H o v fp → RepD K G' (frz o) v
  | .fz d, v, fp, _, h => RepD.mono e d v h.2
  | .lst os, _, fp, k, h => by
    obtain ⟨a, vs, f, rfl, rfl, q, r⟩ := h
    exact ⟨a, vs, rfl, k a List.mem_cons_self _ q, RepOs.freeze e os vs f (fun b hb => k b (List.mem_cons_of_mem _ hb)) r⟩
  | .dic os, _, fp, k, h => by
    obtain ⟨a, vs, f, rfl, rfl, q, r⟩ := h
    exact ⟨a, vs, rfl, q.at e (k a List.mem_cons_self), RepOk.freeze e os vs f (fun b hb => k b (List.mem_cons_of_mem _ hb)) r⟩
theorem RepOs.freeze (e : Ex G G') : ∀ (os : List OT) (vs : List V) (fp : List Addr), (∀ a ∈ fp, ∀ x, H a = some x → G' a = some x) → RepOs K G H os vs fp → RepDs K G' (frzs os) vs
  | [], _, _, _, h => h.1
  | o :: r, _, _, k, h => by
    obtain ⟨v, r', f1, f2, rfl, rfl, q1, q2⟩ := h
    exact ⟨v, r', rfl, RepO.freeze e o v f1 (fun b hb => k b (List.mem_append_left _ hb)) q1, RepOs.freeze e r r' f2 (fun b hb => k b (List.mem_append_right _ hb)) q2⟩
theorem RepOk.freeze (e : Ex G G') : ∀ (os : List (Dat × OT)) (vs : List (Dat × V)) (fp : List Addr), (∀ a ∈ fp, ∀ x, H a = some x → G' a = some x) → RepOk K G H os vs fp → RepDk K G' (frzk os) vs
  | [], _, _, _, h => h.1
  | (y, o) :: r, _, _, k, h => by
    obtain ⟨v, r', f1, f2, rfl, rfl, q1, q2⟩ := h
    exact ⟨v, r', rfl, RepO.freeze e o v f1 (fun b hb => k b (List.mem_append_left _ hb)) q1, RepOk.freeze e r r' f2 (fun b hb => k b (List.mem_append_right _ hb)) q2⟩
end
/-- all tuples are known -/
def TEx (G G' : Hp) : Prop := ∀ a xs, Rd G a (.tup xs) → Rd G' a (.tup xs)
mutual
theorem KRep.tex (e : TEx G G') : ∀ (k : NestedKey) (v : V), KRep K G k v → KRep K G' k v
  | .none, _, h => h
  | .num _, _, h => h
  | .text _, _, h => h
  | .tup ks, _, h => by
    obtain ⟨a, vs, rfl, q, r⟩ := h
    exact ⟨a, vs, rfl, q.imp (e a vs) id, KReps.tex e ks vs r⟩
theorem KReps.tex (e : TEx G G') : ∀ (ks : List NestedKey) (vs : List V), KReps K G ks vs → KReps K G' ks vs
  | [], _, h => h
  | k :: r, _, h => by
    obtain ⟨v, r', rfl, q1, q2⟩ := h
    exact ⟨v, r', rfl, KRep.tex e k v q1, KReps.tex e r r' q2⟩
end
theorem NKeys.tex {es : List NEnt} (e : TEx G G') (h : NKeys K G es) : NKeys K G' es := ⟨fun x hx => ⟨KRep.tex e _ _ (h.key x hx).1, (h.key x hx).2⟩, h.nodup⟩
theorem DictAt.tex {a : Addr} {ps : List (Dat × V)} (e : TEx G G') (h : DictAt K G H a ps) : DictAt K G' H a ps := by
  rcases h with ⟨ks, h, q⟩ | ⟨es, h, n, q⟩
  · exact .inl ⟨ks, h, q⟩
  · exact .inr ⟨es, h, n.tex e, q⟩
mutual
theorem RepD.solid (e : TEx G G') : ∀ (d : Dat) (v : V), solid d = true → RepD K G d v → RepD K G' d v
  | .non, _, _, h => h
  | .bl _, _, _, h => h
  | .int _, _, _, h => h
  | .str _, _, _, h => h
  | .tup ds, _, s, h => by
    obtain ⟨a, vs, rfl, q, r⟩ := h
    refine ⟨a, vs, rfl, q.imp (e a vs) id, RepDs.solid e ds vs ?_ r⟩
    unfold Lay.solid at s
    exact s
  | .lst ds, _, s, h => by unfold Lay.solid at s; cases s
  | .dic ds, _, s, h => by unfold Lay.solid at s; cases s
  | .kst ds, _, s, h => by unfold Lay.solid at s; cases s
theorem RepDs.solid (e : TEx G G') : ∀ (ds : List Dat) (vs : List V), solids ds = true → RepDs K G ds vs → RepDs K G' ds vs
  | [], _, _, h => h
  | d :: r, _, s, h => by
    obtain ⟨v, r', rfl, q1, q2⟩ := h
    unfold Lay.solids at s
    rw [Bool.and_eq_true] at s
    exact ⟨v, r', rfl, RepD.solid e d v s.1 q1, RepDs.solid e r r' s.2 q2⟩
end
mutual
theorem RepO.solid (e : TEx G G') : ∀ (o : OT) (v : V) (fp : List Addr), solidO o = true → RepO K G H o v fp → RepO K G' H o v fp
  | .fz d, v, fp, s, h => ⟨h.1, RepD.solid e d v (by unfold Lay.solidO at s; exact s) h.2⟩
  | .lst os, _, fp, s, h => by
    obtain ⟨a, vs, f, rfl, rfl, q, r⟩ := h
    exact ⟨a, vs, f, rfl, rfl, q, RepOs.solid e os vs f (by unfold Lay.solidO at s; exact s) r⟩
  | .dic os, _, fp, s, h => by
    obtain ⟨a, vs, f, rfl, rfl, q, r⟩ := h
    exact ⟨a, vs, f, rfl, rfl, q.tex e, RepOk.solid e os vs f (by unfold Lay.solidO at s; exact s) r⟩
theorem RepOs.solid (e : TEx G G') : ∀ (os : List OT) (vs : List V) (fp : List Addr), solidOs os = true → RepOs K G H os vs fp → RepOs K G' H os vs fp
  | [], _, _, _, h => h
  | o :: r, _, _, s, h => by
    obtain ⟨v, r', f1, f2, rfl, rfl, q1, q2⟩ := h
    unfold Lay.solidOs at s
    rw [Bool.and_eq_true] at s
    exact ⟨v, r', f1, f2, rfl, rfl, RepO.solid e o v f1 s.1 q1, RepOs.solid e r r' f2 s.2 q2⟩
theorem RepOk.solid (e : TEx G G') : ∀ (os : List (Dat × OT)) (vs : List (Dat × V)) (fp : List Addr), solidOk os = true → RepOk K G H os vs fp → RepOk K G' H os vs fp
  | [], _, _, _, h => h
  | (y, o) :: r, _, _, s, h => by
    obtain ⟨v, r', f1, f2, rfl, rfl, q1, q2⟩ := h
    unfold Lay.solidOk at s
    rw [Bool.and_eq_true] at s
    exact ⟨v, r', f1, f2, rfl, rfl, RepO.solid e o v f1 s.1 q1, RepOk.solid e r r' f2 s.2 q2⟩
end
mutual
/-- what is owned stands there, and is no tuple -/
theorem RepO.own : ∀ (o : OT) (v : V) (fp : List Addr), RepO K G H o v fp → ∀ a ∈ fp, Owd H a
  | .fz d, v, fp, h, a, ha => by rw [h.1] at ha; cases ha
  | .lst os, _, fp, h, b, hb => by
    obtain ⟨a, vs, f, rfl, rfl, q, r⟩ := h
    rcases List.mem_cons.mp hb with rfl | hb
    · exact .inl ⟨_, q⟩
    · exact RepOs.own os vs f r b hb
  | .dic os, _, fp, h, b, hb => by
    obtain ⟨a, vs, f, rfl, rfl, q, r⟩ := h
    rcases List.mem_cons.mp hb with rfl | hb
    · rcases q with ⟨ks, q, _⟩ | ⟨ks, q, _⟩
      · exact .inr (.inl ⟨_, q⟩)
      · exact .inr (.inr (.inr ⟨_, q⟩))
    · exact RepOk.own os vs f r b hb
theorem RepOs.own : ∀ (os : List OT) (vs : List V) (fp : List Addr), RepOs K G H os vs fp → ∀ a ∈ fp, Owd H a
  | [], _, fp, h, b, hb => by rw [h.2] at hb; cases hb
  | o :: r, _, _, h, b, hb => by
    obtain ⟨v, r', f1, f2, rfl, rfl, q1, q2⟩ := h
    rcases List.mem_append.mp hb with hb | hb
    · exact RepO.own o v f1 q1 b hb
    · exact RepOs.own r r' f2 q2 b hb
theorem RepOk.own : ∀ (os : List (Dat × OT)) (vs : List (Dat × V)) (fp : List Addr), RepOk K G H os vs fp → ∀ a ∈ fp, Owd H a
  | [], _, fp, h, b, hb => by rw [h.2] at hb; cases hb
  | (y, o) :: r, _, _, h, b, hb => by
    obtain ⟨v, r', f1, f2, rfl, rfl, q1, q2⟩ := h
    rcases List.mem_append.mp hb with hb | hb
    · exact RepO.own o v f1 q1 b hb
    · exact RepOk.own r r' f2 q2 b hb
end
end
end Lay
namespace Lay
open PySem PySem.Spec L2
inductive Sl where
  /-- nothing known -/
  | un
  | vl (o : OT)
  /-- a parameter whose argument is changed for the caller -/
  | io (o : OT)
  /-- what a loop walks just now: read, not changed -/
  | lk (o : OT)
  deriving Inhabited
abbrev Env := List Sl
/-- slots whose value must stay: a parameter's argument, what a loop walks (and its items) -/
abbrev Pins := Nat → Option (V × Option (List V))
/-- an exception: its class's name, its own fields -/
structure Exn where
  cls : Str
  fs : List (Str × Dat)
  deriving Inhabited
inductive R (α : Type) where
  | ok (a : α) (ρ : Env)
  | ex (x : Exn) (ρ : Env)
  | bad
/-- what an expression gives: what a name holds, or something new -/
inductive Arg where
  | slot (i : Nat)
  | tmp (o : OT)
  deriving Inhabited
abbrev M (α : Type) := Env → R α
def R.bind {α β : Type} (r : R α) (k : α → Env → R β) : R β := match r with
  | .ok a ρ => k a ρ
  | .ex x ρ => .ex x ρ
  | .bad => .bad
def slv : Option Sl → Option OT
  | some (.vl o) => some o
  | some (.io o) => some o
  | some (.lk o) => some o
  | _ => none
def look (ρ : Env) : Arg → Option OT
  | .slot i => slv ρ[i]?
  | .tmp o => some o
open Classical in
noncomputable def hide (p : Addr → Prop) (H : Hp) : Hp := fun a => if p a then none else H a
theorem hide_no {p : Addr → Prop} {H : Hp} {a : Addr} (h : ¬ p a) : hide p H a = H a := by unfold hide; rw [if_neg h]
theorem of_hide {p : Addr → Prop} {H : Hp} {a : Addr} {o : HO} (h : hide p H a = some o) : ¬ p a ∧ H a = some o := by
  unfold hide at h
  split at h
  · cases h
  · exact ⟨by assumption, h⟩
theorem hide_ex {p p' : Addr → Prop} {H H' : Hp} (h : ∀ a o, ¬ p a → H a = some o → ¬ p' a ∧ H' a = some o) : Ex (hide p H) (hide p' H') := fun a o e => by
  obtain ⟨h1, h2⟩ := of_hide e
  obtain ⟨h3, h4⟩ := h a o h1 h2
  rw [hide_no h3, h4]
theorem hide_le {p : Addr → Prop} {H : Hp} : Ex (hide p H) H := fun a o e => (of_hide e).2
def Own (fs : Nat → List Addr) (a : Addr) : Prop := ∃ i, a ∈ fs i
/-- owned or not to be touched -/
def Hd (T : Addr → Prop) (fs : Nat → List Addr) (a : Addr) : Prop := T a ∨ Own fs a
section
variable (K : PySem.W.Frag)
def RepS (G H : Hp) (p : Option (V × Option (List V))) : Sl → Option V → List Addr → Prop
  | .un, _, f => f = [] ∧ p = none
  | .vl o, x, f => ∃ v, x = some v ∧ p = none ∧ RepO K G H o v f
  | .io o, x, f => ∃ v, x = some v ∧ p = some (v, none) ∧ RepO K G H o v f
  | .lk o, x, f => ∃ v, x = some v ∧ RepO K G H o v f ∧ ∃ vs a, p = some (v, some vs) ∧ v = .ref a ∧ a ∈ f ∧ H a = some (.lst vs)
/-- the names ρ stand in the slots σ and the heap H; fs tells what each name owns; T: what others own -/
structure Rp (T : Addr → Prop) (P : Pins) (ρ : Env) (σ : St) (H : Hp) (fs : Nat → List Addr) : Prop where
  slot : ∀ i s, ρ[i]? = some s → ∃ x, σ[i]? = some x ∧ RepS K (hide (Hd T fs) H) H (P i) s x (fs i)
  out : ∀ i, ρ[i]? = none → fs i = []
  nd : ∀ i, (fs i).Nodup
  dj : ∀ i j a, a ∈ fs i → a ∈ fs j → i = j
  tf : ∀ a, Own fs a → ¬ T a
  ta : ∀ a, T a → ∃ x, H a = some x
  pl : ∀ i p, P i = some p → ∃ s, ρ[i]? = some s
def AR (T : Addr → Prop) (σ : St) (H : Hp) (fs : Nat → List Addr) : Arg → V → List Addr → Prop
  | .slot i, v, l => l = [] ∧ σ[i]? = some (some v)
  | .tmp o, v, l => RepO K (hide (Hd T fs) H) H o v l
/-- T with what is in the air -/
def Tl (T : Addr → Prop) (l : List Addr) : Addr → Prop := fun b => T b ∨ b ∈ l
structure RpA (T : Addr → Prop) (P : Pins) (ρ : Env) (σ : St) (H : Hp) (fs : Nat → List Addr) (a : Arg) (v : V) (l : List Addr) : Prop where
  rp : Rp K (Tl T l) P ρ σ H fs
  nd : l.Nodup
  nt : ∀ b ∈ l, ¬ T b
  ar : AR K (Tl T l) σ H fs a v l
def ARs (T : Addr → Prop) (σ : St) (H : Hp) (fs : Nat → List Addr) : List Arg → List V → List Addr → Prop
  | [], vs, l => vs = [] ∧ l = []
  | a :: r, vs, l => ∃ v r' l1 l2, vs = v :: r' ∧ l = l1 ++ l2 ∧ AR K T σ H fs a v l1 ∧ ARs T σ H fs r r' l2
structure RpAs (T : Addr → Prop) (P : Pins) (ρ : Env) (σ : St) (H : Hp) (fs : Nat → List Addr) (a : List Arg) (v : List V) (l : List Addr) : Prop where
  rp : Rp K (Tl T l) P ρ σ H fs
  nd : l.Nodup
  nt : ∀ b ∈ l, ¬ T b
  ar : ARs K (Tl T l) σ H fs a v l
/-- what was there and not owned stands, and is not owned -/
def Fr (H : Hp) (own : Addr → Prop) (H' : Hp) (own' : Addr → Prop) : Prop := ∀ a x, H a = some x → ¬ own a → H' a = some x ∧ ¬ own' a
def Ow (l : List Addr) (fs : Nat → List Addr) : Addr → Prop := fun b => b ∈ l ∨ Own fs b
def RepF (G : Hp) : List (Str × Dat) → List (Str × V) → Prop
  | [], vs => vs = []
  | (n, d) :: r, vs => ∃ v r', vs = (n, v) :: r' ∧ RepD K G d v ∧ RepF G r r'
end
/-- what an exception looks like -/
def RpX (K : PySem.W.Frag) (mg : Str → Option Value) (G H : Hp) (x : Exn) (cls : Value) (d : Option Addr) : Prop :=
  mg x.cls = some cls ∧ ∃ vs, RepF K G x.fs vs ∧ ((x.fs = [] ∧ d = none) ∨ ∃ dd, d = some dd ∧ H dd = some (.xd vs))
structure Par where
  K : PySem.W.Frag
  mg : Str → Option Value
  W : Value → Option Addr → St → Hp → Prop
def onX (Z : Par) (T : Addr → Prop) (P : Pins) (H : Hp) (fs : Nat → List Addr) (x : Exn) (ρ' : Env) : Prop :=
  ∀ cls d σ' H' fs', RpX Z.K Z.mg (hide (Hd T fs') H') H' x cls d → Rp Z.K T P ρ' σ' H' fs' → Fr H (Own fs) H' (Own fs') → Z.W cls d σ' H'
def Aft (Z : Par) (T : Addr → Prop) (P : Pins) (σ : St) (H : Hp) (fs : Nat → List Addr) (Q : VK) : R Arg → Prop
  | .ok a ρ' => ∀ v H' fs' l, RpA Z.K T P ρ' σ H' fs' a v l → Fr H (Own fs) H' (Ow l fs') → Q v H'
  | .ex x ρ' => onX Z T P H fs x ρ'
  | .bad => False
def AftA (Z : Par) (T : Addr → Prop) (P : Pins) (σ : St) (H : Hp) (fs : Nat → List Addr) (Q : List V → Hp → Prop) : R (List Arg) → Prop
  | .ok a ρ' => ∀ v H' fs' l, RpAs Z.K T P ρ' σ H' fs' a v l → Fr H (Own fs) H' (Ow l fs') → Q v H'
  | .ex x ρ' => onX Z T P H fs x ρ'
  | .bad => False
def AftT (Z : Par) (T : Addr → Prop) (P : Pins) (σ : St) (H : Hp) (fs : Nat → List Addr) (Q : Bool → Hp → Prop) : R Bool → Prop
  | .ok b ρ' => ∀ H' fs', Rp Z.K T P ρ' σ H' fs' → Fr H (Own fs) H' (Own fs') → Q b H'
  | .ex x ρ' => onX Z T P H fs x ρ'
  | .bad => False
def tD (Z : Par) (f : M Arg) : TE := fun σ H Q => ∃ T P ρ fs, Rp Z.K T P ρ σ H fs ∧ Aft Z T P σ H fs Q (f ρ)
def tDA (Z : Par) (f : M (List Arg)) : TA := fun σ H Q => ∃ T P ρ fs, Rp Z.K T P ρ σ H fs ∧ AftA Z T P σ H fs Q (f ρ)
def tDT (Z : Par) (f : M Bool) : TT := fun σ H Q => ∃ T P ρ fs, Rp Z.K T P ρ σ H fs ∧ AftT Z T P σ H fs Q (f ρ)
theorem pe_imp {X : Cx} {e : Expr} {t t' : TE} (h : PE X e t) (hi : ∀ σ H Q, t' σ H Q → t σ H Q) : PE X e t' := ⟨fun pins s σ H Q I q => h.run pins s σ H Q I (hi σ H Q q)⟩
theorem pt_imp {X : Cx} {e : Expr} {t t' : TT} (h : PT X e t) (hi : ∀ σ H Q, t' σ H Q → t σ H Q) : PT X e t' := ⟨fun pins s σ H Q I q => h.run pins s σ H Q I (hi σ H Q q)⟩
theorem pa_imp {X : Cx} {e : List Expr} {t t' : TA} (h : PA X e t) (hi : ∀ σ H Q, t' σ H Q → t σ H Q) : PA X e t' := ⟨fun pos pins s σ H Q I q => h.run pos pins s σ H Q I (hi σ H Q q)⟩
theorem ps_imp {X : Cx} {e : Stmt} {t t' : TS} (h : PS X e t) (hi : ∀ D σ H, t' D σ H → t D σ H) : PS X e t' := ⟨fun pins s σ H D I q => h.run pins s σ H D I (hi D σ H q)⟩
theorem pss_imp {X : Cx} {e : List Stmt} {t t' : TS} (h : PSs X e t) (hi : ∀ D σ H, t' D σ H → t D σ H) : PSs X e t' := ⟨fun pins s σ H D I q => h.run pins s σ H D I (hi D σ H q)⟩
theorem set_some {ρ : Env} {i j : Nat} {s s' : Sl} (h : ρ[j]? = some s) : ∃ t, (ρ.set i s')[j]? = some t := by
  have := (List.getElem?_eq_some_iff.mp h).1
  exact ⟨_, List.getElem?_eq_getElem (by rw [List.length_set]; exact this)⟩
section
variable {K : PySem.W.Frag} {T T' : Addr → Prop} {P : Pins} {ρ : Env} {σ : St} {H H' H2 : Hp} {fs fs' fs2 : Nat → List Addr}
theorem RepS.own {G : Hp} {p : Option (V × Option (List V))} {s : Sl} {x : Option V} {f : List Addr} (h : RepS K G H p s x f) : ∀ a ∈ f, Owd H a := by
  cases s with
  | un => intro a ha; rw [h.1] at ha; cases ha
  | vl o => obtain ⟨v, _, _, r⟩ := h; exact RepO.own o v f r
  | io o => obtain ⟨v, _, _, r⟩ := h; exact RepO.own o v f r
  | lk o => obtain ⟨v, _, r, _⟩ := h; exact RepO.own o v f r
theorem Rp.owns (r : Rp K T P ρ σ H fs) {a : Addr} (h : Own fs a) : Owd H a := by
  obtain ⟨i, hi⟩ := h
  cases e : ρ[i]? with
  | none => rw [r.out i e] at hi; cases hi
  | some s =>
    obtain ⟨x, _, q⟩ := r.slot i s e
    exact q.own a hi
theorem Rp.owned (r : Rp K T P ρ σ H fs) {a : Addr} (h : Own fs a) : ∃ x, H a = some x := by
  rcases r.owns h with ⟨x, e⟩ | ⟨x, e⟩ | ⟨x, e⟩ | ⟨x, e⟩ <;> exact ⟨_, e⟩
theorem Rp.hd (r : Rp K T P ρ σ H fs) {a : Addr} (h : H a = none) : ¬ Hd T fs a := by
  rintro (z | z)
  · obtain ⟨x, e⟩ := r.ta a z
    rw [h] at e; cases e
  · obtain ⟨x, e⟩ := r.owned z
    rw [h] at e; cases e
theorem RepS.mono {G G' : Hp} {p : Option (V × Option (List V))} {s : Sl} {x : Option V} {f : List Addr} (e : Ex G G') (k : ∀ a ∈ f, ∀ x, H a = some x → H' a = some x) (h : RepS K G H p s x f) : RepS K G' H' p s x f := by
  cases s with
  | un => exact h
  | vl o => obtain ⟨v, h1, h2, r⟩ := h; exact ⟨v, h1, h2, RepO.mono e o v f k r⟩
  | io o => obtain ⟨v, h1, h2, r⟩ := h; exact ⟨v, h1, h2, RepO.mono e o v f k r⟩
  | lk o => obtain ⟨v, h1, r, vs, a, h2, h3, h4, h5⟩ := h; exact ⟨v, h1, RepO.mono e o v f k r, vs, a, h2, h3, h4, k a h4 _ h5⟩
/-- the heap has grown; T may have lost, or have got new ones -/
theorem Rp.grow (r : Rp K T P ρ σ H fs) (g : ∀ a x, H a = some x → H' a = some x) (ht : ∀ a, T' a → T a ∨ (H a = none ∧ ∃ x, H' a = some x)) : Rp K T' P ρ σ H' fs := by
  have old : ∀ a x, ¬ Hd T fs a → H a = some x → ¬ Hd T' fs a ∧ H' a = some x := fun a x hn e => by
    refine ⟨?_, g a x e⟩
    rintro (z | z)
    · rcases ht a z with z | ⟨z, _⟩
      · exact hn (.inl z)
      · rw [e] at z; cases z
    · exact hn (.inr z)
  refine ⟨fun i s e => ?_, r.out, r.nd, r.dj, fun a o t => ?_, fun a t => ?_, r.pl⟩
  · obtain ⟨x, h1, h2⟩ := r.slot i s e
    exact ⟨x, h1, h2.mono (hide_ex old) fun a _ => g a⟩
  · rcases ht a t with z | ⟨z, _⟩
    · exact r.tf a o z
    · obtain ⟨x, e⟩ := r.owned o
      rw [z] at e; cases e
  · rcases ht a t with z | ⟨_, z⟩
    · obtain ⟨x, e⟩ := r.ta a z
      exact ⟨x, g a x e⟩
    · exact z
theorem Fr.refl {own : Addr → Prop} : Fr H own H own := fun _ _ h n => ⟨h, n⟩
theorem Fr.trans {o1 o2 o3 : Addr → Prop} (a : Fr H o1 H' o2) (b : Fr H' o2 H2 o3) : Fr H o1 H2 o3 := fun x u h n => by
  obtain ⟨h1, n1⟩ := a x u h n
  exact b x u h1 n1
theorem Fr.imp {o1 o2 o3 : Addr → Prop} (a : Fr H o1 H' o2) (h : ∀ x, o3 x → o2 x) : Fr H o1 H' o3 := fun x u e n => ⟨(a x u e n).1, fun z => (a x u e n).2 (h x z)⟩
/-- the second of two: what the first had in the air stands -/
theorem Fr.air {own own' : Addr → Prop} {l : List Addr} (r : Fr H own H' own') (hl : ∀ b ∈ l, ¬ own b) : ∀ b ∈ l, ∀ x, H b = some x → H' b = some x := fun b hb x e => (r b x e (hl b hb)).1
theorem Rp.noair {l : List Addr} (r : Rp K (Tl T l) P ρ σ H fs) : ∀ b ∈ l, ¬ Own fs b := fun b hb z => r.tf b z (.inr hb)
/-- two in a row: nothing of the first is lost -/
theorem Rp.step {l l' : List Addr} (r : Rp K T P ρ σ H fs) (r' : Rp K (Tl T l') P ρ σ H' fs') (f : Fr H (Own fs) H' (Ow l' fs')) : Ex (hide (Hd T fs) H) (hide (Hd (Tl T l') fs') H') := hide_ex fun a x hn e => by
  obtain ⟨h1, h2⟩ := f a x e fun z => hn (.inr z)
  refine ⟨?_, h1⟩
  rintro ((z | z) | z)
  · exact hn (.inl z)
  · exact h2 (.inl z)
  · exact h2 (.inr z)
theorem hdfr {ρ ρ' : Env} {l' : List Addr} (f : Fr H (Own fs) H' (Ow l' fs')) : Ex (hide (Hd T fs) H) (hide (Hd (Tl T l') fs') H') := hide_ex fun a x hn e => by
  obtain ⟨h1, h2⟩ := f a x e fun z => hn (.inr z)
  refine ⟨?_, h1⟩
  rintro ((z | z) | z)
  · exact hn (.inl z)
  · exact h2 (.inl z)
  · exact h2 (.inr z)
theorem AR.step {l1 l2 : List Addr} {a : Arg} {v : V} (h : AR K (Tl T l1) σ H fs a v l1) (no : ∀ b ∈ l1, ¬ Own fs b) (f : Fr H (Own fs) H' (Ow l2 fs')) : AR K (Tl (Tl T l1) l2) σ H' fs' a v l1 := by
  cases a with
  | slot i => exact h
  | tmp o => exact RepO.mono (hdfr (ρ := []) (ρ' := []) f) o v l1 (f.air no) h
theorem AR.mono {a : Arg} {v : V} {l : List Addr} (h : AR K T σ H fs a v l) (e : Ex (hide (Hd T fs) H) (hide (Hd T' fs') H')) (k : ∀ b ∈ l, ∀ x, H b = some x → H' b = some x) : AR K T' σ H' fs' a v l := by
  cases a with
  | slot i => exact h
  | tmp o => exact RepO.mono e o v l k h
/-- what an argument shows -/
theorem RpA.see {a : Arg} {v : V} {l : List Addr} {o : OT} (r : Rp K T P ρ σ H fs) (h : AR K T σ H fs a v l) (e : look ρ a = some o) : ∃ f, RepO K (hide (Hd T fs) H) H o v f ∧ (∀ b ∈ f, b ∈ l ∨ Own fs b) := by
  cases a with
  | tmp o' =>
    cases e
    exact ⟨l, h, fun b hb => .inl hb⟩
  | slot i =>
    obtain ⟨rfl, hv⟩ := h
    have e : slv ρ[i]? = some o := e
    cases es : ρ[i]? with
    | none => rw [es] at e; cases e
    | some s =>
      rw [es] at e
      obtain ⟨x, hx, q⟩ := r.slot i s es
      rw [hv] at hx
      cases hx
      have own : ∀ b ∈ fs i, b ∈ ([] : List Addr) ∨ Own fs b := fun b hb => .inr ⟨i, hb⟩
      cases s with
      | un => cases e
      | vl o' =>
        cases e
        obtain ⟨v', e1, _, q⟩ := q
        cases e1
        exact ⟨fs i, q, own⟩
      | io o' =>
        cases e
        obtain ⟨v', e1, _, q⟩ := q
        cases e1
        exact ⟨fs i, q, own⟩
      | lk o' =>
        cases e
        obtain ⟨v', e1, q, _⟩ := q
        cases e1
        exact ⟨fs i, q, own⟩
end
/-- o has come, all else stands -/
def Res (K : PySem.W.Frag) (G H : Hp) (o : OT) (Q : VK) : Prop :=
  ∀ v H' l, Ex H H' → l.Nodup → (∀ b ∈ l, H b = none) → (∀ G', Ex G G' → (∀ b x, H b = none → H' b = some x → b ∉ l → G' b = some x) → RepO K G' H' o v l) → Q v H'
theorem Res.same {K : PySem.W.Frag} {G H : Hp} {d : Dat} {v : V} {Q : VK} (h : Res K G H (.fz d) Q) (r : RepD K G d v) : Q v H :=
  h v H [] (Ex.refl H) .nil (fun _ z => nomatch z) fun G' e _ => ⟨rfl, RepD.mono e d v r⟩
/-- .. of what was in the air (l0) -/
def ResL (K : PySem.W.Frag) (G H : Hp) (l0 : List Addr) (o : OT) (Q : VK) : Prop :=
  ∀ v H' l, Ex H H' → l.Nodup → (∀ b ∈ l, H b = none ∨ b ∈ l0) → (∀ G', Ex G G' → (∀ b x, (H b = none ∨ b ∈ l0) → H' b = some x → b ∉ l → G' b = some x) → RepO K G' H' o v l) → Q v H'
section
variable {K : PySem.W.Frag} {T : Addr → Prop} {P : Pins} {ρ : Env} {σ : St} {H H0 : Hp} {fs fs0 : Nat → List Addr}
theorem Rp.resL {o : OT} {Q : VK} {l0 : List Addr} (r : Rp K (Tl T l0) P ρ σ H fs) (nt0 : ∀ b ∈ l0, ¬ T b) (f : Fr H0 (Own fs0) H (Ow l0 fs)) (k : ∀ v H' fs' l, RpA K T P ρ σ H' fs' (.tmp o) v l → Fr H0 (Own fs0) H' (Ow l fs') → Q v H') :
    ResL K (hide (Hd (Tl T l0) fs) H) H l0 o Q := fun v H' l ex nd fresh rep => by
  have nt : ∀ b ∈ l, ¬ T b := fun b hb z => by
    rcases fresh b hb with y | y
    · obtain ⟨x, e⟩ := r.ta b (.inl z)
      rw [y] at e; cases e
    · exact nt0 b y z
  have there : ∀ b ∈ l, ∃ x, H' b = some x := fun b hb => by
    have q := rep H' (hide_le.trans ex) (fun b x _ e _ => e)
    rcases RepO.own o v l q b hb with ⟨x, e⟩ | ⟨x, e⟩ | ⟨x, e⟩ | ⟨x, e⟩ <;> exact ⟨_, e⟩
  have r' : Rp K (Tl T l) P ρ σ H' fs := r.grow ex fun a z => by
    rcases z with z | z
    · exact .inl (.inl z)
    · rcases fresh a z with y | y
      · exact .inr ⟨y, there a z⟩
      · exact .inl (.inr y)
  refine k v H' fs l ⟨r', nd, nt, rep _ (hide_ex fun a x hn e => ⟨?_, ex a x e⟩) fun b x hb e hl => ?_⟩ (fun a x e n => ?_)
  · rintro ((z | z) | z)
    · exact hn (.inl (.inl z))
    · rcases fresh a z with y | y
      · rw [y] at e; cases e
      · exact hn (.inl (.inr y))
    · exact hn (.inr z)
  · refine (hide_no ?_).trans e
    rintro ((z | z) | z)
    · rcases hb with hb | hb
      · exact r.hd hb (.inl (.inl z))
      · exact nt0 b hb z
    · exact hl z
    · rcases hb with hb | hb
      · exact r.hd hb (.inr z)
      · exact r.tf b z (.inr hb)
  · obtain ⟨h1, h2⟩ := f a x e n
    refine ⟨ex a x h1, ?_⟩
    rintro (z | z)
    · rcases fresh a z with y | y
      · rw [y] at h1; cases h1
      · exact h2 (.inl y)
    · exact h2 (.inr z)
end
section
variable {K : PySem.W.Frag} {T : Addr → Prop} {P : Pins} {ρ : Env} {σ : St} {H H0 : Hp} {fs fs0 : Nat → List Addr}
/-- behind an operation -/
theorem Rp.res {o : OT} {Q : VK} {l0 : List Addr} (r : Rp K (Tl T l0) P ρ σ H fs) (f : Fr H0 (Own fs0) H (Ow l0 fs)) (k : ∀ v H' fs' l, RpA K T P ρ σ H' fs' (.tmp o) v l → Fr H0 (Own fs0) H' (Ow l fs') → Q v H') :
    Res K (hide (Hd (Tl T l0) fs) H) H o Q := fun v H' l ex nd fresh rep => by
  have nt : ∀ b ∈ l, ¬ T b := fun b hb z => by
    obtain ⟨x, e⟩ := r.ta b (.inl z)
    rw [fresh b hb] at e; cases e
  have there : ∀ b ∈ l, ∃ x, H' b = some x := fun b hb => by
    have q := rep H' (hide_le.trans ex) (fun b x _ e _ => e)
    rcases RepO.own o v l q b hb with ⟨x, e⟩ | ⟨x, e⟩ | ⟨x, e⟩ | ⟨x, e⟩ <;> exact ⟨_, e⟩
  have r' : Rp K (Tl T l) P ρ σ H' fs := r.grow ex fun a z => by
    rcases z with z | z
    · exact .inl (.inl z)
    · exact .inr ⟨fresh a z, there a z⟩
  refine k v H' fs l ⟨r', nd, nt, rep _ (hide_ex fun a x hn e => ⟨?_, ex a x e⟩) fun b x hb e hl => ?_⟩ (fun a x e n => ?_)
  · rintro ((z | z) | z)
    · exact hn (.inl (.inl z))
    · rw [fresh a z] at e; cases e
    · exact hn (.inr z)
  · refine (hide_no ?_).trans e
    rintro ((z | z) | z)
    · exact r.hd hb (.inl (.inl z))
    · exact hl z
    · exact r.hd hb (.inr z)
  · obtain ⟨h1, h2⟩ := f a x e n
    refine ⟨ex a x h1, ?_⟩
    rintro (z | z)
    · rw [fresh a z] at h1; cases h1
    · exact h2 (.inr z)
end
end Lay
namespace Lay
open PySem PySem.Spec L2
abbrev zp (X : Cx) (W : WX) : Par := ⟨X.K, X.mg, W⟩
abbrev DE (X : Cx) (W : WX) (e : Expr) (f : M Arg) : Prop := PE X e (tD (zp X W) f)
abbrev DA (X : Cx) (W : WX) (es : List Expr) (f : M (List Arg)) : Prop := PA X es (tDA (zp X W) f)
abbrev DT (X : Cx) (W : WX) (e : Expr) (f : M Bool) : Prop := PT X e (tDT (zp X W) f)
section
variable {K : PySem.W.Frag} {Z : Par} {T T' : Addr → Prop} {P : Pins} {ρ ρ1 : Env} {σ : St} {H H' H0 : Hp} {fs fs' fs0 : Nat → List Addr}
theorem onX.fr {x : Exn} {ρ' : Env} (h : onX Z T P H0 fs0 x ρ') {l : List Addr} (f : Fr H0 (Own fs0) H (Ow l fs)) : onX Z (Tl T l) P H fs x ρ' := fun cls d σ' H' fs' rx rp fr => by
  have g : Ex (hide (Hd (Tl T l) fs') H') (hide (Hd T fs') H') := hide_ex fun a y hn e => ⟨fun z => hn (z.imp Or.inl id), e⟩
  have mf : ∀ {l1 : List (Str × Dat)} {vs}, RepF Z.K (hide (Hd (Tl T l) fs') H') l1 vs → RepF Z.K (hide (Hd T fs') H') l1 vs := by
    intro l1
    induction l1 with
    | nil => intro vs h; exact h
    | cons p r ih => 
      intro vs h
      obtain ⟨n, dd⟩ := p
      obtain ⟨v, r', rfl, q, q2⟩ := h
      exact ⟨v, r', rfl, RepD.mono g dd v q, ih q2⟩
  refine h cls d σ' H' fs' ⟨rx.1, ?_⟩ (rp.grow (fun _ _ e => e) fun a z => .inl (.inl z)) ?_
  · obtain ⟨_, vs, q, q2⟩ := rx
    exact ⟨vs, mf q, q2⟩
  · exact f.trans (o2 := Ow l fs) fun a y e n => fr a y e fun z => n (.inr z)
theorem onX.fr0 {x : Exn} {ρ' : Env} (h : onX Z T P H0 fs0 x ρ') (f : Fr H0 (Own fs0) H (Own fs)) : onX Z T P H fs x ρ' := fun cls d σ' H' fs' rx rp fr => h cls d σ' H' fs' rx rp (f.trans fr)
theorem Rp.tl0 (r : Rp K T P ρ σ H fs) : Rp K (Tl T []) P ρ σ H fs := r.grow (fun _ _ e => e) fun a z => .inl (z.elim id fun z => nomatch z)
theorem Rp.unl {l : List Addr} (r : Rp K (Tl T l) P ρ σ H fs) : Rp K T P ρ σ H fs := r.grow (fun _ _ e => e) fun a z => .inl (.inl z)
theorem Rp.has (r : Rp K T P ρ σ H fs) {i : Nat} {o : OT} (h : slv ρ[i]? = some o) : ∃ v, σ[i]? = some (some v) := by
  cases es : ρ[i]? with
  | none => rw [es] at h; cases h
  | some s =>
    rw [es] at h
    obtain ⟨x, hx, q⟩ := r.slot i s es
    cases s with
    | un => cases h
    | vl o' => obtain ⟨v, e, _⟩ := q; exact ⟨v, by rw [hx, e]⟩
    | io o' => obtain ⟨v, e, _⟩ := q; exact ⟨v, by rw [hx, e]⟩
    | lk o' => obtain ⟨v, e, _⟩ := q; exact ⟨v, by rw [hx, e]⟩
end
def xVar (i : Nat) : M Arg := fun ρ => match slv ρ[i]? with
  | some _ => .ok (.slot i) ρ
  | none => .bad
def xD (d : Dat) : M Arg := fun ρ => .ok (.tmp (.fz d)) ρ
section
variable {X : Cx} {W : WX} {pos : Pos}
theorem de_var {e : Expr} (i : Nat) (h : PE X e (tVar i)) : DE X W e (xVar i) := pe_imp h fun σ H Q ⟨T, P, ρ, fs, r, q⟩ => by
  unfold xVar at q
  cases e : slv ρ[i]? with
  | none => rw [e] at q; exact q.elim
  | some o =>
    rw [e] at q
    obtain ⟨v, hv⟩ := r.has e
    exact ⟨v, hv, q v H fs [] ⟨r.tl0, .nil, (fun _ z => nomatch z), rfl, hv⟩ (Fr.refl.imp fun x z => z.elim (fun z => nomatch z) id)⟩
/-- a constant -/
theorem de_c {e : Expr} {v : V} {d : Dat} (h : PE X e (tC v)) (r : ∀ G, RepD X.K G d v) : DE X W e (xD d) := pe_imp h fun σ H Q ⟨T, P, ρ, fs, rp, q⟩ =>
  q v H fs [] ⟨rp.tl0, .nil, (fun _ z => nomatch z), rfl, r _⟩ (Fr.refl.imp fun x z => z.elim (fun z => nomatch z) id)
theorem de_int {i : Int} {j : Nat} : DE X W (.Constant (.int i) j pos) (xD (.int i)) := de_c pe_int fun _ => rfl
theorem de_bl {b : Bool} {j : Nat} : DE X W (.Constant (.bool b) j pos) (xD (.bl b)) := de_c pe_bl fun _ => rfl
theorem de_non {j : Nat} : DE X W (.Constant .none j pos) (xD .non) := de_c pe_non fun _ => rfl
theorem de_str {s : Str} {j : Nat} : DE X W (.Constant (.str s) j pos) (xD (.str s)) := de_c pe_str fun _ => rfl
end
def x2 (op : OT → OT → Option OT) (f g : M Arg) : M Arg := fun ρ => (f ρ).bind fun a ρ1 => (g ρ1).bind fun b ρ2 =>
  match look ρ2 a, look ρ2 b with
  | some x, some y => match op x y with
    | some o => .ok (.tmp o) ρ2
    | none => .bad
  | _, _ => .bad
def OpOk (K : PySem.W.Frag) (r : R2) (op : OT → OT → Option OT) : Prop :=
  ∀ G H o1 o2 v1 v2 f1 f2 o Q, Ex G H → RepO K G H o1 v1 f1 → RepO K G H o2 v2 f2 → op o1 o2 = some o → Res K G H o Q → r v1 v2 H Q
theorem t2_op {Z : Par} {r : R2} {op : OT → OT → Option OT} (ho : OpOk Z.K r op) {f g : M Arg} {σ : St} {H : Hp} {Q : VK} (h : tD Z (x2 op f g) σ H Q) : tOp r (tD Z f) (tD Z g) σ H Q := by
  obtain ⟨T, P, ρ, fs, rp, q⟩ := h
  refine ⟨T, P, ρ, fs, rp, ?_⟩
  unfold x2 at q
  cases e1 : f ρ with
  | bad => rw [e1] at q; exact q
  | ex x ρ' => rw [e1] at q; exact q
  | ok a ρ1 =>
    rw [e1] at q
    intro v1 H1 fs1 l1 r1 f1
    refine ⟨Tl T l1, P, ρ1, fs1, r1.rp, ?_⟩
    simp only [R.bind] at q
    cases e2 : g ρ1 with
    | bad => rw [e2] at q; exact q
    | ex x ρ' => rw [e2] at q; exact onX.fr q f1
    | ok b ρ2 =>
      rw [e2] at q
      intro v2 H2 fs2 l2 r2 f2
      simp only at q
      have a1 := AR.step r1.ar r1.rp.noair f2
      cases c1 : look ρ2 a with
      | none => simp only [c1] at q; exact q.elim
      | some x =>
        cases c2 : look ρ2 b with
        | none => simp only [c1, c2] at q; exact q.elim
        | some y =>
          simp only [c1, c2] at q
          obtain ⟨g1, s1, _⟩ := RpA.see r2.rp a1 c1
          obtain ⟨g2, s2, _⟩ := RpA.see r2.rp r2.ar c2
          cases c3 : op x y with
          | none => simp only [c3] at q; exact q.elim
          | some o =>
            simp only [c3] at q
            have rr : Rp Z.K (Tl T (l1 ++ l2)) P ρ2 σ H2 fs2 := r2.rp.grow (fun _ _ e => e) fun a z => by
              rcases z with z | z
              · exact .inl (.inl (.inl z))
              · exact .inl ((List.mem_append.mp z).elim (fun z => .inl (.inr z)) .inr)
            have ff : Fr H (Own fs) H2 (Ow (l1 ++ l2) fs2) := fun b x e n => by
              obtain ⟨h1, n1⟩ := f1 b x e n
              obtain ⟨h2, n2⟩ := f2 b x h1 fun z => n1 (.inr z)
              refine ⟨h2, ?_⟩
              rintro (z | z)
              · exact (List.mem_append.mp z).elim (fun z => n1 (.inl z)) fun z => n2 (.inl z)
              · exact n2 (.inr z)
            have eh : hide (Hd (Tl (Tl T l1) l2) fs2) H2 = hide (Hd (Tl T (l1 ++ l2)) fs2) H2 := by
              congr 1
              funext b
              simp only [Hd, Tl, List.mem_append, eq_iff_iff]
              constructor
              · rintro (((z | z) | z) | z) <;> simp [z]
              · rintro ((z | z | z) | z) <;> simp [z]
            rw [eh] at s1 s2
            exact ho _ H2 x y v1 v2 g1 g2 o Q hide_le s1 s2 c3 (Rp.res rr ff q)
section
variable {X : Cx} {W : WX} {pos : Pos} {a b : Expr} {fa fb : M Arg} {r : R2} {op : OT → OT → Option OT}
theorem de_op {o : Operator} (ho : OpR X (binaryOp o) r) (hk : OpOk X.K r op) (ha : DE X W a fa) (hb : DE X W b fb) : DE X W (.BinOp a o b pos) (x2 op fa fb) :=
  pe_imp (pe_op ho ha hb) fun _ _ _ h => t2_op (Z := zp X W) hk h
theorem de_cmp {o : CmpOp} (ho : OpR X (compareOp o) r) (hk : OpOk X.K r op) (ha : DE X W a fa) (hb : DE X W b fb) (hm : behindInMarks o b = false := by first | exact nobehind _ (by decide) (by decide) | rfl) : DE X W (.Compare a [o] [b] pos) (x2 op fa fb) :=
  pe_imp (pe_cmpR ho ha hb hm) fun _ _ _ h => t2_op (Z := zp X W) hk h
end
def x1 (op : OT → Option OT) (f : M Arg) : M Arg := fun ρ => (f ρ).bind fun a ρ1 => match look ρ1 a with
  | some x => match op x with
    | some o => .ok (.tmp o) ρ1
    | none => .bad
  | none => .bad
def Op1Ok (K : PySem.W.Frag) (r : V → Hp → VK → Prop) (op : OT → Option OT) : Prop :=
  ∀ G H o1 v1 f1 o Q, Ex G H → RepO K G H o1 v1 f1 → op o1 = some o → Res K G H o Q → r v1 H Q
theorem t1_op {Z : Par} {r : V → Hp → VK → Prop} {op : OT → Option OT} (ho : Op1Ok Z.K r op) {f : M Arg} {σ : St} {H : Hp} {Q : VK} (h : tD Z (x1 op f) σ H Q) : tUn r (tD Z f) σ H Q := by
  obtain ⟨T, P, ρ, fs, rp, q⟩ := h
  refine ⟨T, P, ρ, fs, rp, ?_⟩
  unfold x1 at q
  cases e1 : f ρ with
  | bad => rw [e1] at q; exact q
  | ex x ρ' => rw [e1] at q; exact q
  | ok a ρ1 =>
    rw [e1] at q
    intro v1 H1 fs1 l1 r1 f1
    simp only [R.bind] at q
    cases c1 : look ρ1 a with
    | none => simp only [c1] at q; exact q.elim
    | some x =>
      simp only [c1] at q
      obtain ⟨g1, s1, _⟩ := RpA.see r1.rp r1.ar c1
      cases c3 : op x with
      | none => simp only [c3] at q; exact q.elim
      | some o =>
        simp only [c3] at q
        exact ho _ H1 x v1 g1 o Q hide_le s1 c3 (Rp.res r1.rp f1 q)
section
variable {X : Cx} {W : WX} {pos : Pos} {a : Expr} {fa : M Arg} {r : V → Hp → VK → Prop} {op : OT → Option OT}
theorem de_un {o : UnaryOp} (ho : UnR X (unaryOp o) r) (hk : Op1Ok X.K r op) (ha : DE X W a fa) : DE X W (.UnaryOp o a pos) (x1 op fa) :=
  pe_imp (pe_un ho ha) fun _ _ _ h => t1_op (Z := zp X W) hk h
end
def xNil : M (List Arg) := fun ρ => .ok [] ρ
def xCons (f : M Arg) (g : M (List Arg)) : M (List Arg) := fun ρ => (f ρ).bind fun a ρ1 => (g ρ1).bind fun r ρ2 => .ok (a :: r) ρ2
theorem Tl_app {T : Addr → Prop} {l1 l2 : List Addr} : Tl (Tl T l1) l2 = Tl T (l1 ++ l2) := by
  funext b
  simp only [Tl, List.mem_append, eq_iff_iff, or_assoc]
theorem Tl_nil {T : Addr → Prop} : Tl T [] = T := by
  funext b
  simp only [Tl, eq_iff_iff]
  constructor
  · rintro (z | z)
    · exact z
    · cases z
  · exact Or.inl
theorem ARs.step {K : PySem.W.Frag} {T : Addr → Prop} {σ : St} {H H' : Hp} {fs fs' : Nat → List Addr} {l1 l2 : List Addr} : ∀ {a : List Arg} {v : List V} {l : List Addr}, ARs K T σ H fs a v l → Ex (hide (Hd T fs) H) (hide (Hd (Tl T l2) fs') H') → (∀ b ∈ l, ∀ x, H b = some x → H' b = some x) → ARs K (Tl T l2) σ H' fs' a v l
  | [], _, _, h, _, _ => h
  | a :: r, _, _, h, e, k => by
    obtain ⟨v, r', l1, l2, rfl, rfl, q1, q2⟩ := h
    exact ⟨v, r', l1, l2, rfl, rfl, q1.mono e (fun b hb => k b (List.mem_append_left _ hb)), ARs.step (l1 := l1) q2 e fun b hb => k b (List.mem_append_right _ hb)⟩
section
variable {X : Cx} {W : WX} {e : Expr} {es : List Expr} {fa : M Arg} {fr : M (List Arg)}
theorem da_nil : DA X W [] xNil := pa_imp pa_nil fun σ H Q ⟨T, P, ρ, fs, rp, q⟩ => q [] H fs [] ⟨rp.tl0, .nil, (fun _ z => nomatch z), rfl, rfl⟩ (Fr.refl.imp fun x z => z.elim (fun z => nomatch z) id)
theorem da_cons (ha : DE X W e fa) (hr : DA X W es fr) (hs : starEach (e :: es) X.env = (false, eval e X.env) :: starEach es X.env := by rfl) : DA X W (e :: es) (xCons fa fr) := pa_imp (pa_cons ha hr hs) fun σ H Q ⟨T, P, ρ, fs, rp, q⟩ => by
  refine ⟨T, P, ρ, fs, rp, ?_⟩
  unfold xCons at q
  cases e1 : fa ρ with
  | bad => rw [e1] at q; exact q
  | ex x ρ' => rw [e1] at q; exact q
  | ok a ρ1 =>
    rw [e1] at q
    intro v1 H1 fs1 l1 r1 f1
    refine ⟨Tl T l1, P, ρ1, fs1, r1.rp, ?_⟩
    simp only [R.bind] at q
    cases e2 : fr ρ1 with
    | bad => rw [e2] at q; exact q
    | ex x ρ' => rw [e2] at q; exact onX.fr q f1
    | ok b ρ2 =>
      rw [e2] at q
      intro v2 H2 fs2 l2 r2 f2
      have a1 := AR.step r1.ar r1.rp.noair f2
      have r2p := r2.rp
      have r2a := r2.ar
      rw [Tl_app] at a1 r2p r2a
      refine q (v1 :: v2) H2 fs2 (l1 ++ l2) ⟨r2p, ?_, ?_, v1, v2, l1, l2, rfl, rfl, a1, r2a⟩ fun b x e n => ?_
      · refine List.nodup_append.mpr ⟨r1.nd, r2.nd, fun x hx y hy e => ?_⟩
        subst e
        exact r2.nt x hy (.inr hx)
      · intro b hb z
        exact (List.mem_append.mp hb).elim (fun hb => r1.nt b hb z) fun hb => r2.nt b hb (.inl z)
      · obtain ⟨h1, n1⟩ := f1 b x e n
        obtain ⟨h2, n2⟩ := f2 b x h1 fun z => n1 (.inr z)
        refine ⟨h2, ?_⟩
        rintro (z | z)
        · exact (List.mem_append.mp z).elim (fun z => n1 (.inl z)) fun z => n2 (.inl z)
        · exact n2 (.inr z)
end
end Lay
namespace Lay
open PySem PySem.Spec L2
def looks (ρ : Env) : List Arg → Option (List OT)
  | [] => some []
  | a :: r => match look ρ a, looks ρ r with
    | some x, some xs => some (x :: xs)
    | _, _ => none
def RepV (K : PySem.W.Frag) (G H : Hp) : List OT → List V → Prop
  | [], vs => vs = []
  | o :: r, vs => ∃ v r' f, vs = v :: r' ∧ RepO K G H o v f ∧ RepV K G H r r'
theorem see_all {K : PySem.W.Frag} {T : Addr → Prop} {P : Pins} {ρ : Env} {σ : St} {H : Hp} {fs : Nat → List Addr} (r : Rp K T P ρ σ H fs) : ∀ {as : List Arg} {vs : List V} {l : List Addr} {os : List OT},
    ARs K T σ H fs as vs l → looks ρ as = some os → RepV K (hide (Hd T fs) H) H os vs
  | [], vs, l, os, h, e => by
    cases e
    exact h.1
  | a :: rs, vs, l, os, h, e => by
    obtain ⟨v, r', l1, l2, rfl, rfl, q1, q2⟩ := h
    unfold looks at e
    cases c1 : look ρ a with
    | none => simp [c1] at e
    | some x =>
      cases c2 : looks ρ rs with
      | none => simp [c1, c2] at e
      | some xs =>
        simp only [c1, c2, Option.some.injEq] at e
        subst e
        obtain ⟨f, q, _⟩ := RpA.see r q1 c1
        exact ⟨v, r', f, rfl, q, see_all r q2 c2⟩
def xN (op : List OT → Option OT) (f : M (List Arg)) : M Arg := fun ρ => (f ρ).bind fun as ρ1 => match looks ρ1 as with
  | some xs => match op xs with
    | some o => .ok (.tmp o) ρ1
    | none => .bad
  | none => .bad
def CallOk (K : PySem.W.Frag) (r : List V → Hp → VK → Prop) (op : List OT → Option OT) : Prop :=
  ∀ G H os vs o Q, Ex G H → RepV K G H os vs → op os = some o → Res K G H o Q → r vs H Q
theorem tN_op {Z : Par} {r : List V → Hp → VK → Prop} {op : List OT → Option OT} (ho : CallOk Z.K r op) {f : M (List Arg)} {σ : St} {H : Hp} {Q : VK} (h : tD Z (xN op f) σ H Q) : tCB r (tDA Z f) σ H Q := by
  obtain ⟨T, P, ρ, fs, rp, q⟩ := h
  refine ⟨T, P, ρ, fs, rp, ?_⟩
  unfold xN at q
  cases e1 : f ρ with
  | bad => rw [e1] at q; exact q
  | ex x ρ' => rw [e1] at q; exact q
  | ok as ρ1 =>
    rw [e1] at q
    intro vs H1 fs1 l1 r1 f1
    simp only [R.bind] at q
    cases c1 : looks ρ1 as with
    | none => simp only [c1] at q; exact q.elim
    | some xs =>
      simp only [c1] at q
      cases c3 : op xs with
      | none => simp only [c3] at q; exact q.elim
      | some o =>
        simp only [c3] at q
        exact ho _ H1 xs vs o Q hide_le (see_all r1.rp r1.ar c1) c3 (Rp.res r1.rp f1 q)
/-- a method that changes nothing: the receiver, the arguments -/
def xM (op : OT → List OT → Option OT) (f : M Arg) (g : M (List Arg)) : M Arg := fun ρ => (f ρ).bind fun a ρ1 => (g ρ1).bind fun as ρ2 => match look ρ2 a, looks ρ2 as with
  | some x, some xs => match op x xs with
    | some o => .ok (.tmp o) ρ2
    | none => .bad
  | _, _ => .bad
/-- of which built-in type a method's receiver is -/
def tyO (T : String) : OT → Bool
  | .fz (.str _) => decide (T = "str")
  | .fz (.int _) => decide (T = "int")
  | .fz (.lst _) => decide (T = "list")
  | .lst _ => decide (T = "list")
  | _ => false
theorem tyO_ok {K : PySem.W.Frag} {G H : Hp} {T : String} {o : OT} {v : V} {f : List Addr} (e : Ex G H) (h : RepO K G H o v f) (t : tyO T o = true) : tyV K T v H := by
  cases o with
  | fz d =>
    obtain ⟨_, h⟩ := h
    cases d with
    | str s => cases (show v = .str s from h); exact (show T = "str" from of_decide_eq_true t)
    | int s => cases (show v = .int s from h); exact (show T = "int" from of_decide_eq_true t)
    | lst xs =>
      obtain ⟨a, vs, rfl, q, _⟩ := h
      exact .inl ⟨of_decide_eq_true t, vs, .inl (.inl (e a _ q))⟩
    | _ => cases t
  | lst os =>
    obtain ⟨a, vs, f, rfl, _, q, _⟩ := h
    exact .inl ⟨of_decide_eq_true t, vs, .inl (.inl q)⟩
  | dic os => cases t
def MethOk (K : PySem.W.Frag) (T : String) (r : V → List V → Hp → VK → Prop) (op : OT → List OT → Option OT) : Prop :=
  ∀ G H x os v vs f o Q, Ex G H → RepO K G H x v f → RepV K G H os vs → op x os = some o → Res K G H o Q → r v vs H Q
/-- the receiver's type is looked at first -/
def xTy (T : String) (f : M Arg) : M Arg := fun ρ => (f ρ).bind fun a ρ1 => match look ρ1 a with
  | some x => if tyO T x then .ok a ρ1 else .bad
  | none => .bad
theorem tM_op {Z : Par} {T0 : String} {r : V → List V → Hp → VK → Prop} {op : OT → List OT → Option OT} (ho : MethOk Z.K T0 r op) {f : M Arg} {g : M (List Arg)} {σ : St} {H : Hp} {Q : VK} (h : tD Z (xM op (xTy T0 f) g) σ H Q) : tBM Z.K T0 r (tD Z f) (tDA Z g) σ H Q := by
  obtain ⟨T, P, ρ, fs, rp, q⟩ := h
  refine ⟨T, P, ρ, fs, rp, ?_⟩
  unfold xM xTy at q
  cases e1 : f ρ with
  | bad => rw [e1] at q; exact q
  | ex x ρ' => rw [e1] at q; exact q
  | ok a ρ1 =>
    rw [e1] at q
    intro v1 H1 fs1 l1 r1 f1
    simp only [R.bind] at q
    cases c0 : look ρ1 a with
    | none => simp only [c0] at q; exact q.elim
    | some x0 =>
    simp only [c0] at q
    obtain ⟨g0, s0, _⟩ := RpA.see r1.rp r1.ar c0
    cases ct : tyO T0 x0 with
    | false => simp only [ct] at q; exact q.elim
    | true =>
    simp only [ct, if_true] at q
    refine ⟨tyO_ok hide_le s0 ct, Tl T l1, P, ρ1, fs1, r1.rp, ?_⟩
    cases e2 : g ρ1 with
    | bad => rw [e2] at q; exact q
    | ex x ρ' => rw [e2] at q; exact onX.fr q f1
    | ok b ρ2 =>
      rw [e2] at q
      intro v2 H2 fs2 l2 r2 f2
      simp only at q
      have a1 := AR.step r1.ar r1.rp.noair f2
      cases c1 : look ρ2 a with
      | none => simp only [c1] at q; exact q.elim
      | some x =>
        cases c2 : looks ρ2 b with
        | none => simp only [c1, c2] at q; exact q.elim
        | some y =>
          simp only [c1, c2] at q
          obtain ⟨g1, s1, _⟩ := RpA.see r2.rp a1 c1
          have s2 := see_all r2.rp r2.ar c2
          cases c3 : op x y with
          | none => simp only [c3] at q; exact q.elim
          | some o =>
            simp only [c3] at q
            have rr := r2.rp
            have ff : Fr H (Own fs) H2 (Ow (l1 ++ l2) fs2) := fun b x e n => by
              obtain ⟨h1, n1⟩ := f1 b x e n
              obtain ⟨h2, n2⟩ := f2 b x h1 fun z => n1 (.inr z)
              refine ⟨h2, ?_⟩
              rintro (z | z)
              · exact (List.mem_append.mp z).elim (fun z => n1 (.inl z)) fun z => n2 (.inl z)
              · exact n2 (.inr z)
            rw [Tl_app] at s1 s2 rr
            exact ho _ H2 x y v1 v2 g1 o Q hide_le s1 s2 c3 (Rp.res rr ff q)
section
variable {X : Cx} {W : WX} {pos : Pos} {e e' : Expr} {es : List Expr} {fa : M Arg} {fs : M (List Arg)}
theorem de_cb {r : List V → Hp → VK → Prop} {op : List OT → Option OT} (hk : CallOk X.K r op) (h : PE X e (tCB r (tDA (zp X W) fs))) : DE X W e (xN op fs) := pe_imp h fun _ _ _ q => tN_op (Z := zp X W) hk q
theorem de_bm {T : String} {r : V → List V → Hp → VK → Prop} {op : OT → List OT → Option OT} (hk : MethOk X.K T r op) (h : PE X e (tBM X.K T r (tD (zp X W) fa) (tDA (zp X W) fs))) : DE X W e (xM op (xTy T fa) fs) := pe_imp h fun _ _ _ q => tM_op (Z := zp X W) hk q
theorem de_ix {a b : Expr} {fb : M Arg} {r : R2} {op : OT → OT → Option OT} (ho : IxR X r) (hk : OpOk X.K r op) (ha : DE X W a fa) (hb : DE X W b fb) (hs : PlainIx b) : DE X W (.Subscript a b pos) (x2 op fa fb) :=
  pe_imp (pe_ix ho ha hb hs) fun _ _ _ h => t2_op (Z := zp X W) hk h
end
def take1 (ρ : Env) : Arg → Option (OT × Env)
  | .tmp o => some (o, ρ)
  | .slot i => match ρ[i]? with
    | some (.vl (.fz d)) => some (.fz d, ρ)
    | some (.io (.fz d)) => some (.fz d, ρ)
    | some (.lk (.fz d)) => some (.fz d, ρ)
    | some (.vl o) => some (.fz (frz o), ρ.set i (.vl (.fz (frz o))))
    | _ => none
def takes (ρ : Env) : List Arg → Option (List OT × Env)
  | [] => some ([], ρ)
  | a :: r => match take1 ρ a with
    | some (o, ρ1) => match takes ρ1 r with
      | some (os, ρ2) => some (o :: os, ρ2)
      | none => none
    | none => none
section
variable {K : PySem.W.Frag} {T T' : Addr → Prop} {P : Pins} {ρ ρ1 : Env} {σ : St} {H H' : Hp} {fs fs' : Nat → List Addr}
/-- the footprints with one changed -/
def fset (fs : Nat → List Addr) (i : Nat) (l : List Addr) : Nat → List Addr := fun j => if j = i then l else fs j
theorem fset_same {i : Nat} {l : List Addr} : fset fs i l i = l := by unfold fset; rw [if_pos rfl]
theorem fset_ne {i j : Nat} {l : List Addr} (h : j ≠ i) : fset fs i l j = fs j := by unfold fset; rw [if_neg h]
theorem slv_of {s : Sl} {x : Option V} {f : List Addr} {G : Hp} {p : Option (V × Option (List V))} {o : OT} (h : RepS K G H p s x f) (e : slv (some s) = some o) : ∃ v, x = some v ∧ RepO K G H o v f := by
  cases s with
  | un => cases e
  | vl o' => cases e; obtain ⟨v, h1, _, h2⟩ := h; exact ⟨v, h1, h2⟩
  | io o' => cases e; obtain ⟨v, h1, _, h2⟩ := h; exact ⟨v, h1, h2⟩
  | lk o' => cases e; obtain ⟨v, h1, h2, _⟩ := h; exact ⟨v, h1, h2⟩
/-- what a name owns is given away for good -/
theorem Rp.freeze (r : Rp K T P ρ σ H fs) {i : Nat} {o : OT} (h : ρ[i]? = some (.vl o)) : Rp K T P (ρ.set i (.vl (.fz (frz o)))) σ H (fset fs i []) ∧ (∀ a, Own (fset fs i []) a → Own fs a) ∧
    ∃ v, σ[i]? = some (some v) ∧ RepD K (hide (Hd T (fset fs i [])) H) (frz o) v := by
  have sub : ∀ a, Own (fset fs i []) a → Own fs a := fun a ⟨j, hj⟩ => by
    by_cases e : j = i
    · subst e; rw [fset_same] at hj; cases hj
    · rw [fset_ne e] at hj; exact ⟨j, hj⟩
  have ex : Ex (hide (Hd T fs) H) (hide (Hd T (fset fs i [])) H) := hide_ex fun a x n e => ⟨fun z => n (z.imp id (sub a)), e⟩
  obtain ⟨x, hx, v, rfl, hp, q⟩ := r.slot i _ h
  have qd : RepD K (hide (Hd T (fset fs i [])) H) (frz o) v := RepO.freeze ex o v (fs i) (fun a ha x e => (hide_no (fun z => by
    rcases z with z | ⟨j, hj⟩
    · exact r.tf a ⟨i, ha⟩ z
    · by_cases e : j = i
      · subst e; rw [fset_same] at hj; cases hj
      · rw [fset_ne e] at hj; exact e (r.dj j i a hj ha))).trans e) q
  have hlt : i < ρ.length := (List.getElem?_eq_some_iff.mp h).1
  refine ⟨⟨fun j s e => ?_, fun j e => ?_, fun j => ?_, fun j k a h1 h2 => ?_, fun a o => r.tf a (sub a o), r.ta, fun j p e => (let ⟨s, h⟩ := r.pl j p e; set_some h)⟩, sub, v, hx, qd⟩
  · by_cases hj : j = i
    · subst hj
      rw [List.getElem?_set_self hlt] at e
      cases e
      exact ⟨_, hx, v, rfl, hp, fset_same, qd⟩
    · rw [List.getElem?_set_ne (Ne.symm hj)] at e
      obtain ⟨y, h1, h2⟩ := r.slot j s e
      rw [fset_ne hj]
      exact ⟨y, h1, h2.mono ex fun _ _ _ e => e⟩
  · by_cases hj : j = i
    · subst hj; exact fset_same
    · rw [List.getElem?_set_ne (Ne.symm hj)] at e
      rw [fset_ne hj]
      exact r.out j e
  · by_cases hj : j = i
    · subst hj; rw [fset_same]; exact .nil
    · rw [fset_ne hj]; exact r.nd j
  · by_cases hj : j = i
    · subst hj; rw [fset_same] at h1; cases h1
    · by_cases hk : k = i
      · subst hk; rw [fset_same] at h2; cases h2
      · rw [fset_ne hj] at h1; rw [fset_ne hk] at h2; exact r.dj j k a h1 h2
theorem take1_ok (r : Rp K T P ρ σ H fs) {a : Arg} {v : V} {l : List Addr} {o : OT} (h : AR K T σ H fs a v l) (e : take1 ρ a = some (o, ρ1)) :
    ∃ fs1, Rp K T P ρ1 σ H fs1 ∧ (∀ b, Own fs1 b → Own fs b) ∧ RepO K (hide (Hd T fs1) H) H o v l := by
  cases a with
  | tmp o' =>
    cases e
    exact ⟨fs, r, fun _ z => z, h⟩
  | slot i =>
    obtain ⟨rfl, hv⟩ := h
    have e : (match ρ[i]? with
      | some (.vl (.fz d)) => some (OT.fz d, ρ)
      | some (.io (.fz d)) => some (.fz d, ρ)
      | some (.lk (.fz d)) => some (.fz d, ρ)
      | some (.vl o) => some (.fz (frz o), ρ.set i (.vl (.fz (frz o))))
      | _ => none) = some (o, ρ1) := e
    cases es : ρ[i]? with
    | none => simp [es] at e
    | some s =>
      have fzs : ∀ d, slv (some s) = some (.fz d) → RepO K (hide (Hd T fs) H) H (.fz d) v [] := fun d e2 => by
        obtain ⟨x, hx, q⟩ := r.slot i s es
        obtain ⟨w, hw, q⟩ := slv_of q e2
        rw [hv] at hx
        cases hx
        cases hw
        exact ⟨rfl, q.2⟩
      have frzd : ∀ o', s = .vl o' → o = .fz (frz o') → ρ1 = ρ.set i (.vl (.fz (frz o'))) → ∃ fs1, Rp K T P ρ1 σ H fs1 ∧ (∀ b, Own fs1 b → Own fs b) ∧ RepO K (hide (Hd T fs1) H) H o v [] := fun o' e1 e2 e3 => by
        subst e1 e2 e3
        obtain ⟨h1, h2, v', h3, h4⟩ := r.freeze es
        rw [hv] at h3
        cases h3
        exact ⟨_, h1, h2, rfl, h4⟩
      cases s with
      | un => simp [es] at e
      | vl o' =>
        cases o' with
        | fz d =>
          simp only [es, Option.some.injEq, Prod.mk.injEq] at e
          obtain ⟨rfl, rfl⟩ := e
          exact ⟨fs, r, fun _ z => z, fzs d rfl⟩
        | lst os =>
          simp only [es, Option.some.injEq, Prod.mk.injEq] at e
          exact frzd _ rfl e.1.symm e.2.symm
        | dic os =>
          simp only [es, Option.some.injEq, Prod.mk.injEq] at e
          exact frzd _ rfl e.1.symm e.2.symm
      | io o' =>
        cases o' with
        | fz d =>
          simp only [es, Option.some.injEq, Prod.mk.injEq] at e
          obtain ⟨rfl, rfl⟩ := e
          exact ⟨fs, r, fun _ z => z, fzs d rfl⟩
        | _ => simp [es] at e
      | lk o' =>
        cases o' with
        | fz d =>
          simp only [es, Option.some.injEq, Prod.mk.injEq] at e
          obtain ⟨rfl, rfl⟩ := e
          exact ⟨fs, r, fun _ z => z, fzs d rfl⟩
        | _ => simp [es] at e
theorem takes_ok : ∀ {as : List Arg} {vs : List V} {l : List Addr} {os : List OT} {ρ ρ1 : Env} {fs : Nat → List Addr}, Rp K T P ρ σ H fs → ARs K T σ H fs as vs l → takes ρ as = some (os, ρ1) →
    ∃ fs1, Rp K T P ρ1 σ H fs1 ∧ (∀ b, Own fs1 b → Own fs b) ∧ RepOs K (hide (Hd T fs1) H) H os vs l
  | [], vs, l, os, ρ, ρ1, fs, r, h, e => by
    cases e
    exact ⟨fs, r, fun _ z => z, h⟩
  | a :: as, vs, l, os, ρ, ρ1, fs, r, h, e => by
    obtain ⟨v, r', l1, l2, rfl, rfl, q1, q2⟩ := h
    unfold takes at e
    cases c1 : take1 ρ a with
    | none => simp [c1] at e
    | some p =>
      obtain ⟨o, ρ2⟩ := p
      simp only [c1] at e
      cases c2 : takes ρ2 as with
      | none => simp [c2] at e
      | some p =>
        obtain ⟨os2, ρ3⟩ := p
        simp only [c2, Option.some.injEq, Prod.mk.injEq] at e
        obtain ⟨rfl, rfl⟩ := e
        obtain ⟨fs1, r1, s1, p1⟩ := take1_ok r q1 c1
        have ex1 : Ex (hide (Hd T fs) H) (hide (Hd T fs1) H) := hide_ex fun a x n e => ⟨fun z => n (z.imp id (s1 a)), e⟩
        have q2' : ARs K T σ H fs1 as r' l2 := by
          have := ARs.step (l1 := []) (l2 := []) (T := T) (fs' := fs1) (H' := H) q2 (by rw [Tl_nil]; exact ex1) fun _ _ _ e => e
          rwa [Tl_nil] at this
        obtain ⟨fs2, r2, s2, p2⟩ := takes_ok r1 q2' c2
        have ex2 : Ex (hide (Hd T fs1) H) (hide (Hd T fs2) H) := hide_ex fun a x n e => ⟨fun z => n (z.imp id (s2 a)), e⟩
        exact ⟨fs2, r2, fun b z => s1 b (s2 b z), v, r', l1, l2, rfl, rfl, RepO.mono ex2 o v l1 (fun _ _ _ e => e) p1, p2⟩
theorem RepOs.length : ∀ {os : List OT} {vs : List V} {l : List Addr} {G : Hp}, RepOs K G H os vs l → vs.length = os.length
  | [], _, _, _, h => by rw [h.1]; rfl
  | _ :: r, _, _, _, h => by
    obtain ⟨v, r', l1, l2, rfl, rfl, q1, q2⟩ := h
    rw [List.length_cons, List.length_cons, RepOs.length q2]
end
def xTup (f : M (List Arg)) : M Arg := fun ρ => (f ρ).bind fun as ρ1 => match takes ρ1 as with
  | some (os, ρ2) => if os.length ≤ sizeLine then .ok (.tmp (.fz (.tup (frzs os)))) ρ2 else .bad
  | none => .bad
theorem tTup_op {Z : Par} {f : M (List Arg)} {σ : St} {H : Hp} {Q : VK} (h : tD Z (xTup f) σ H Q) : tTup (tDA Z f) σ H Q := by
  obtain ⟨T, P, ρ, fs, rp, q⟩ := h
  refine ⟨T, P, ρ, fs, rp, ?_⟩
  unfold xTup at q
  cases e1 : f ρ with
  | bad => rw [e1] at q; exact q
  | ex x ρ' => rw [e1] at q; exact q
  | ok as ρ1 =>
    rw [e1] at q
    intro vs H1 fs1 l1 r1 f1
    simp only [R.bind] at q
    cases c1 : takes ρ1 as with
    | none => simp only [c1] at q; exact q.elim
    | some p =>
      obtain ⟨os, ρ2⟩ := p
      simp only [c1] at q
      obtain ⟨fs2, r2, s2, p2⟩ := takes_ok r1.rp r1.ar c1
      by_cases hz : os.length ≤ sizeLine
      · rw [if_pos hz] at q
        refine ⟨by rw [RepOs.length p2]; exact hz, fun p hp => ?_⟩
        have ff : Fr H (Own fs) H1 (Ow l1 fs2) := f1.imp fun x z => z.imp id (s2 x)
        have old : ∀ a o, H1 a = some o → upd H1 p (.tup vs) a = some o := fun a o e => by rw [upd_ne (ne_of_none e hp)]; exact e
        refine Rp.resL (o := .fz (.tup (frzs os))) r2 r1.nt ff q (.ref p) _ [] old .nil (fun _ z => nomatch z) fun G' ex nw => ⟨rfl, p, vs, rfl, .inl (.inl (nw p _ (.inl hp) upd_same (fun z => nomatch z))), ?_⟩
        exact RepOs.freeze ex os vs l1 (fun a ha x e => nw a x (.inr ha) (old a x e) fun z => nomatch z) p2
      · rw [if_neg hz] at q; exact q.elim
section
variable {X : Cx} {W : WX} {pos : Pos} {es : List Expr} {fs : M (List Arg)}
theorem de_tup {k : Nat} (h : DA X W es fs) : DE X W (.Tuple es k pos) (xTup fs) := pe_imp (pe_tup h) fun _ _ _ q => tTup_op (Z := zp X W) q
end
section
variable {Z : Par} {T : Addr → Prop} {P : Pins} {σ : St} {H H1 : Hp} {fs fs1 : Nat → List Addr} {ρ1 : Env} {Q : Bool → Hp → Prop} {b : Bool} {l : List Addr}
theorem Rp.test (r : Rp Z.K (Tl T l) P ρ1 σ H1 fs1) (f : Fr H (Own fs) H1 (Ow l fs1)) (q : AftT Z T P σ H fs Q (.ok b ρ1)) : Q b H1 := q H1 fs1 r.unl (f.imp fun _ z => .inr z)
end
def xT (f : M Arg) : M Bool := fun ρ => (f ρ).bind fun a ρ1 => match look ρ1 a with
  | some (.fz (.bl b)) => .ok b ρ1
  | _ => .bad
theorem tTest_op {Z : Par} {f : M Arg} {σ : St} {H : Hp} {Q : Bool → Hp → Prop} (h : tDT Z (xT f) σ H Q) : tTest (tD Z f) σ H Q := by
  obtain ⟨T, P, ρ, fs, rp, q⟩ := h
  refine ⟨T, P, ρ, fs, rp, ?_⟩
  unfold xT at q
  cases e1 : f ρ with
  | bad => rw [e1] at q; exact q
  | ex x ρ' => rw [e1] at q; exact q
  | ok a ρ1 =>
    rw [e1] at q
    intro v H1 fs1 l1 r1 f1
    simp only [R.bind] at q
    cases c1 : look ρ1 a with
    | none => simp only [c1] at q; exact q.elim
    | some o =>
      simp only [c1] at q
      obtain ⟨g1, s1, _⟩ := RpA.see r1.rp r1.ar c1
      cases o with
      | fz d =>
        cases d with
        | bl b =>
          simp only at q
          cases (show v = .bl b from s1.2)
          exact ⟨b, rfl, Rp.test r1.rp f1 q⟩
        | _ => exact q.elim
      | _ => exact q.elim
def truO : OT → Option Bool
  | .fz .non => some false
  | .fz (.bl b) => some b
  | .fz (.int i) => some (i != 0)
  | .fz (.str s) => if s.length ≤ sizeLine then some ((s.length : Int) != 0) else none
  | .fz (.tup xs) => some (!xs.isEmpty)
  | .fz (.lst xs) => some (!xs.isEmpty)
  | .lst xs => some (!xs.isEmpty)
  | _ => none
theorem RepDs.isEmpty {K : PySem.W.Frag} {G : Hp} {ds : List Dat} {vs : List V} (h : RepDs K G ds vs) : vs.isEmpty = ds.isEmpty := by
  cases ds with
  | nil => rw [show vs = [] from h]; rfl
  | cons d r => obtain ⟨v, r', rfl, _⟩ := h; rfl
theorem RepOs.isEmpty {K : PySem.W.Frag} {G H : Hp} {ds : List OT} {vs : List V} {l : List Addr} (h : RepOs K G H ds vs l) : vs.isEmpty = ds.isEmpty := by
  cases ds with
  | nil => rw [h.1]; rfl
  | cons d r => obtain ⟨v, r', _, _, rfl, _⟩ := h; rfl
theorem tru_of {K : PySem.W.Frag} {G H : Hp} {o : OT} {v : V} {f : List Addr} {k : Bool} (e : Ex G H) (h : RepO K G H o v f) (t : truO o = some k) : TruV K v H k := by
  cases o with
  | fz d =>
    obtain ⟨_, h⟩ := h
    cases d with
    | non => cases (show v = .non from h); exact (Option.some.inj t).symm
    | bl b => cases (show v = .bl b from h); exact (Option.some.inj t).symm
    | int b => cases (show v = .int b from h); exact (Option.some.inj t).symm
    | str s =>
      cases (show v = .str s from h)
      have t : (if s.length ≤ sizeLine then some ((s.length : Int) != 0) else none) = some k := t
      by_cases hz : s.length ≤ sizeLine
      · rw [if_pos hz] at t
        exact ⟨hz, (Option.some.inj t).symm⟩
      · rw [if_neg hz] at t
        cases t
    | tup xs =>
      obtain ⟨a, vs, rfl, q, r⟩ := h
      exact .inr (.inl ⟨vs, e.sqT q, by rw [r.isEmpty]; exact (Option.some.inj t).symm⟩)
    | lst xs =>
      obtain ⟨a, vs, rfl, q, r⟩ := h
      exact .inl ⟨vs, .inl (.inl (e a _ q)), by rw [r.isEmpty]; exact (Option.some.inj t).symm⟩
    | dic xs => cases t
    | kst xs => cases t
  | lst os =>
    obtain ⟨a, vs, f, rfl, _, q, r⟩ := h
    exact .inl ⟨vs, .inl (.inl q), by rw [r.isEmpty]; exact (Option.some.inj t).symm⟩
  | dic os => cases t
def xTru (f : M Arg) : M Bool := fun ρ => (f ρ).bind fun a ρ1 => match (look ρ1 a).bind truO with
  | some b => .ok b ρ1
  | none => .bad
theorem tTru_op {Z : Par} {f : M Arg} {σ : St} {H : Hp} {Q : Bool → Hp → Prop} (h : tDT Z (xTru f) σ H Q) : tD Z f σ H fun x H' => ∃ k, TruV Z.K x H' k ∧ Q k H' := by
  obtain ⟨T, P, ρ, fs, rp, q⟩ := h
  refine ⟨T, P, ρ, fs, rp, ?_⟩
  unfold xTru at q
  cases e1 : f ρ with
  | bad => rw [e1] at q; exact q
  | ex x ρ' => rw [e1] at q; exact q
  | ok a ρ1 =>
    rw [e1] at q
    intro v H1 fs1 l1 r1 f1
    simp only [R.bind] at q
    cases c1 : look ρ1 a with
    | none => simp only [c1, Option.bind] at q; exact q.elim
    | some o =>
      simp only [c1, Option.bind] at q
      obtain ⟨g1, s1, _⟩ := RpA.see r1.rp r1.ar c1
      cases c2 : truO o with
      | none => simp only [c2] at q; exact q.elim
      | some b =>
        simp only [c2] at q
        exact ⟨b, tru_of hide_le s1 c2, Rp.test r1.rp f1 q⟩
def xAnd (f g : M Bool) : M Bool := fun ρ => (f ρ).bind fun b ρ1 => if b then g ρ1 else .ok false ρ1
def xOr (f g : M Bool) : M Bool := fun ρ => (f ρ).bind fun b ρ1 => if b then .ok true ρ1 else g ρ1
def xNot (f : M Bool) : M Bool := fun ρ => (f ρ).bind fun b ρ1 => .ok (!b) ρ1
def xIf {α : Type} (f : M Bool) (g h : M α) : M α := fun ρ => (f ρ).bind fun b ρ1 => if b then g ρ1 else h ρ1
theorem AftT.bind {Z : Par} {T : Addr → Prop} {P : Pins} {ρ : Env} {σ : St} {H : Hp} {fs : Nat → List Addr} {f : M Bool} {k : Bool → Env → R Bool} {Q R' : Bool → Hp → Prop} (q : AftT Z T P σ H fs Q ((f ρ).bind k))
    (h : ∀ b ρ1 H1 fs1, Rp Z.K T P ρ1 σ H1 fs1 → Fr H (Own fs) H1 (Own fs1) → (∀ {r : R Bool}, AftT Z T P σ H fs Q r → AftT Z T P σ H1 fs1 Q r) → AftT Z T P σ H fs Q (k b ρ1) → R' b H1) : AftT Z T P σ H fs R' (f ρ) := by
  cases e1 : f ρ with
  | bad => rw [e1] at q; exact q
  | ex x ρ' => rw [e1] at q; exact q
  | ok b ρ1 =>
    rw [e1] at q
    refine fun H1 fs1 r1 f1 => h b ρ1 H1 fs1 r1 f1 (fun {r} a => ?_) q
    cases r with
    | ok b ρ' => exact fun H2 fs2 r2 f2 => a H2 fs2 r2 (f1.trans f2)
    | ex x ρ' => exact onX.fr0 a f1
    | bad => exact a
section
variable {X : Cx} {W : WX} {pos : Pos} {a b : Expr} {rest : List Expr} {fa fb : M Arg} {ta tb : M Bool}
abbrev DW (X : Cx) (W : WX) (e : Expr) (f : M Bool) : Prop := PW X e (tDT (zp X W) f)
theorem pw_imp {X : Cx} {e : Expr} {t t' : TT} (h : PW X e t) (hi : ∀ σ H Q, t' σ H Q → t σ H Q) : PW X e t' := ⟨fun wh pins s σ H Q I q => h.run wh pins s σ H Q I (hi σ H Q q)⟩
theorem dt_tru (h : DE X W a fa) (he : ∀ whole, isTrue a X.env whole = (do let v ← whole; standAt a.pos; holding [v] (truthy v)) := by intro _; rfl) : DT X W a (xTru fa) := pt_imp (pt_truth h he) fun _ _ _ q => tTru_op (Z := zp X W) q
theorem dt_cmp {o : CmpOp} {r : R2} {op : OT → OT → Option OT} (ho : OpR X (compareOp o) r) (hk : OpOk X.K r op) (ha : DE X W a fa) (hb : DE X W b fb) (hm : behindInMarks o b = false := by first | exact nobehind _ (by decide) (by decide) | rfl) : DT X W (.Compare a [o] [b] pos) (xT (x2 op fa fb)) :=
  pt_imp (pt_cmpR ho ha hb hm) fun σ H Q q => by
    have q := tTest_op (Z := zp X W) q
    exact t2_op (Z := zp X W) hk q
theorem dt_not (h : DT X W a ta) : DT X W (.UnaryOp .Not a pos) (xNot ta) := pt_imp (pt_not h) fun σ H Q ⟨T, P, ρ, fs, rp, q⟩ =>
  ⟨T, P, ρ, fs, rp, AftT.bind (k := fun b ρ1 => .ok (!b) ρ1) q fun b ρ1 H1 fs1 r1 f1 up q => q H1 fs1 r1 f1⟩
theorem dw_and1 (h : DT X W a ta) : DW X W (.BoolOp .And [a] pos) ta := pw_and1 h
theorem dw_or1 (h : DT X W a ta) : DW X W (.BoolOp .Or [a] pos) ta := pw_or1 h
theorem dw_and (h : DT X W a ta) (h2 : DW X W (.BoolOp .And (b :: rest) pos) tb) : DW X W (.BoolOp .And (a :: b :: rest) pos) (xAnd ta tb) := pw_imp (pw_and h h2) fun σ H Q ⟨T, P, ρ, fs, rp, q⟩ =>
  ⟨T, P, ρ, fs, rp, AftT.bind (k := fun b ρ1 => if b then tb ρ1 else .ok false ρ1) q fun b ρ1 H1 fs1 r1 f1 up q => by
    cases b with
    | true => exact ⟨T, P, ρ1, fs1, r1, up q⟩
    | false => exact q H1 fs1 r1 f1⟩
theorem dw_or (h : DT X W a ta) (h2 : DW X W (.BoolOp .Or (b :: rest) pos) tb) : DW X W (.BoolOp .Or (a :: b :: rest) pos) (xOr ta tb) := pw_imp (pw_or h h2) fun σ H Q ⟨T, P, ρ, fs, rp, q⟩ =>
  ⟨T, P, ρ, fs, rp, AftT.bind (k := fun b ρ1 => if b then .ok true ρ1 else tb ρ1) q fun b ρ1 H1 fs1 r1 f1 up q => by
    cases b with
    | true => exact q H1 fs1 r1 f1
    | false => exact ⟨T, P, ρ1, fs1, r1, up q⟩⟩
theorem dt_bo (h : DW X W a ta) : DT X W a ta := h.pt
theorem AftT.bindD {Z : Par} {T : Addr → Prop} {P : Pins} {ρ : Env} {σ : St} {H : Hp} {fs : Nat → List Addr} {f : M Bool} {k : Bool → Env → R Arg} {Q : VK} {R' : Bool → Hp → Prop} (q : Aft Z T P σ H fs Q ((f ρ).bind k))
    (h : ∀ b ρ1 H1 fs1, Rp Z.K T P ρ1 σ H1 fs1 → Fr H (Own fs) H1 (Own fs1) → (∀ {r : R Arg}, Aft Z T P σ H fs Q r → Aft Z T P σ H1 fs1 Q r) → Aft Z T P σ H fs Q (k b ρ1) → R' b H1) : AftT Z T P σ H fs R' (f ρ) := by
  cases e1 : f ρ with
  | bad => rw [e1] at q; exact q
  | ex x ρ' => rw [e1] at q; exact q
  | ok b ρ1 =>
    rw [e1] at q
    refine fun H1 fs1 r1 f1 => h b ρ1 H1 fs1 r1 f1 (fun {r} a => ?_) q
    cases r with
    | ok b ρ' => exact fun v H2 fs2 l2 r2 f2 => a v H2 fs2 l2 r2 (f1.trans f2)
    | ex x ρ' => exact onX.fr0 a f1
    | bad => exact a
theorem de_if {c : Expr} (hc : DT X W c ta) (ha : DE X W a fa) (hb : DE X W b fb) : DE X W (.IfExp c a b pos) (xIf ta fa fb) := pe_imp (pe_ifExp hc ha hb) fun σ H Q ⟨T, P, ρ, fs, rp, q⟩ =>
  ⟨T, P, ρ, fs, rp, AftT.bindD (k := fun b ρ1 => if b then fa ρ1 else fb ρ1) q fun b ρ1 H1 fs1 r1 f1 up q => by
    cases b with
    | true => exact ⟨T, P, ρ1, fs1, r1, up q⟩
    | false => exact ⟨T, P, ρ1, fs1, r1, up q⟩⟩
end
end Lay
namespace Lay
open PySem PySem.Spec L2
inductive SR where
  | nx (ρ : Env)
  | rt (o : OT) (ρ : Env)
  | bk (ρ : Env)
  | ct (ρ : Env)
  | ex (x : Exn) (ρ : Env)
  | bad
abbrev SM := Env → SR
def AftN (Z : Par) (T : Addr → Prop) (P : Pins) (H : Hp) (fs : Nat → List Addr) (N : St → Hp → Prop) (ρ' : Env) : Prop :=
  ∀ σ' H' fs', Rp Z.K T P ρ' σ' H' fs' → Fr H (Own fs) H' (Own fs') → N σ' H'
def AftS (Z : Par) (T : Addr → Prop) (P : Pins) (H : Hp) (fs : Nat → List Addr) (D : Ends) : SR → Prop
  | .nx ρ' => AftN Z T P H fs D.nx ρ'
  | .bk ρ' => AftN Z T P H fs D.bk ρ'
  | .ct ρ' => AftN Z T P H fs D.ct ρ'
  | .rt o ρ' => ∀ v σ' H' fs' l, RpA Z.K T P ρ' σ' H' fs' (.tmp o) v l → Fr H (Own fs) H' (Ow l fs') → D.rt v H'
  | .ex x ρ' => onX Z T P H fs x ρ'
  | .bad => False
def tS (Z : Par) (g : SM) : TS := fun D σ H => ∃ T P ρ fs, Rp Z.K T P ρ σ H fs ∧ AftS Z T P H fs D (g ρ)
abbrev DS (X : Cx) (W : WX) (st : Stmt) (g : SM) : Prop := PS X st (tS (zp X W) g)
abbrev DSs (X : Cx) (W : WX) (st : List Stmt) (g : SM) : Prop := PSs X st (tS (zp X W) g)
section
variable {Z : Par} {T : Addr → Prop} {P : Pins} {H H1 : Hp} {fs fs1 : Nat → List Addr} {D : Ends} {ρ : Env} {σ : St}
theorem AftN.fr {N : St → Hp → Prop} (h : AftN Z T P H fs N ρ) (f : Fr H (Own fs) H1 (Own fs1)) : AftN Z T P H1 fs1 N ρ := fun σ' H' fs' r f' => h σ' H' fs' r (f.trans f')
theorem AftS.fr {r : SR} (h : AftS Z T P H fs D r) (f : Fr H (Own fs) H1 (Own fs1)) : AftS Z T P H1 fs1 D r := by
  cases r with
  | nx ρ' => exact AftN.fr h f
  | bk ρ' => exact AftN.fr h f
  | ct ρ' => exact AftN.fr h f
  | rt o ρ' => exact fun v σ' H' fs' l r f' => h v σ' H' fs' l r (f.trans f')
  | ex x ρ' => exact onX.fr0 h f
  | bad => exact h
end
def sNx : SM := fun ρ => .nx ρ
def sSeq (g h : SM) : SM := fun ρ => match g ρ with
  | .nx ρ1 => h ρ1
  | r => r
def sBk : SM := fun ρ => .bk ρ
def sCt : SM := fun ρ => .ct ρ
def RS {α : Type} (r : R α) (k : α → Env → SR) : SR := match r with
  | .ok a ρ => k a ρ
  | .ex x ρ => .ex x ρ
  | .bad => .bad
def sIf (f : M Bool) (g h : SM) : SM := fun ρ => RS (f ρ) fun b ρ1 => if b then g ρ1 else h ρ1
/-- what a def hands back -/
def giveBack (ρ : Env) : Arg → Option (OT × Env)
  | .tmp o => some (o, ρ)
  | .slot i => match ρ[i]? with
    | some (.vl o) => some (o, ρ.set i .un)
    | some (.io (.fz d)) => some (.fz d, ρ)
    | some (.lk (.fz d)) => some (.fz d, ρ)
    | _ => none
def sRet (f : M Arg) : SM := fun ρ => RS (f ρ) fun a ρ1 => match giveBack ρ1 a with
  | some (o, ρ2) => .rt o ρ2
  | none => .bad
def sRetN : SM := fun ρ => .rt (.fz .non) ρ
def sExpr (f : M Arg) : SM := fun ρ => RS (f ρ) fun _ ρ1 => .nx ρ1
section
variable {X : Cx} {W : WX} {pos : Pos} {st : Stmt} {rest : List Stmt} {g h : SM} {e : Expr} {fe : M Arg}
theorem dss_nil : DSs X W [] sNx := pss_imp pss_nil fun D σ H ⟨T, P, ρ, fs, r, q⟩ => q σ H fs r Fr.refl
theorem dss_one (h1 : DS X W st g) : DSs X W [st] g := pss_one h1
theorem dss_cons (h1 : DS X W st g) (h2 : DSs X W rest h) : DSs X W (st :: rest) (sSeq g h) := pss_imp (pss_cons h1 h2) fun D σ H ⟨T, P, ρ, fs, r, q⟩ => by
  refine ⟨T, P, ρ, fs, r, ?_⟩
  unfold sSeq at q
  cases e1 : g ρ with
  | nx ρ1 =>
    rw [e1] at q
    exact fun σ1 H1 fs1 r1 f1 => ⟨T, P, ρ1, fs1, r1, AftS.fr q f1⟩
  | bk ρ' => rw [e1] at q; exact q
  | ct ρ' => rw [e1] at q; exact q
  | rt o ρ' => rw [e1] at q; exact q
  | ex x ρ' => rw [e1] at q; exact q
  | bad => rw [e1] at q; exact q
theorem ds_break : DS X W (.Break pos) sBk := ps_imp ps_break fun D σ H ⟨T, P, ρ, fs, r, q⟩ => q σ H fs r Fr.refl
theorem AftS.bindT {Z : Par} {T : Addr → Prop} {P : Pins} {ρ : Env} {σ : St} {H : Hp} {fs : Nat → List Addr} {f : M Bool} {k : Bool → Env → SR} {D : Ends} {R' : Bool → Hp → Prop} (q : AftS Z T P H fs D (RS (f ρ) k))
    (h : ∀ b ρ1 H1 fs1, Rp Z.K T P ρ1 σ H1 fs1 → Fr H (Own fs) H1 (Own fs1) → AftS Z T P H1 fs1 D (k b ρ1) → R' b H1) : AftT Z T P σ H fs R' (f ρ) := by
  cases e1 : f ρ with
  | bad => rw [e1] at q; exact q
  | ex x ρ' => rw [e1] at q; exact q
  | ok b ρ1 =>
    rw [e1] at q
    exact fun H1 fs1 r1 f1 => h b ρ1 H1 fs1 r1 f1 (AftS.fr q f1)
theorem ds_if {c : Expr} {a b : List Stmt} {tc : M Bool} (hc : DT X W c tc) (ha : DSs X W a g) (hb : DSs X W b h) : DS X W (.If c a b pos) (sIf tc g h) := ps_imp (ps_if hc ha hb) fun D σ H ⟨T, P, ρ, fs, r, q⟩ =>
  ⟨T, P, ρ, fs, r, AftS.bindT (k := fun b ρ1 => if b then g ρ1 else h ρ1) q fun b ρ1 H1 fs1 r1 f1 q => by
    cases b with
    | true => exact ⟨T, P, ρ1, fs1, r1, q⟩
    | false => exact ⟨T, P, ρ1, fs1, r1, q⟩⟩
/-- the names without what one owned -/
theorem Rp.drop {K : PySem.W.Frag} {T : Addr → Prop} {P : Pins} {ρ : Env} {σ : St} {H : Hp} {fs : Nat → List Addr} (r : Rp K T P ρ σ H fs) {i : Nat} {o : OT} (h : ρ[i]? = some (.vl o)) :
    Rp K (Tl T (fs i)) P (ρ.set i .un) σ H (fset fs i []) ∧ ∃ v, σ[i]? = some (some v) ∧ RepO K (hide (Hd (Tl T (fs i)) (fset fs i [])) H) H o v (fs i) := by
  obtain ⟨x, hx, v, rfl, hp, q⟩ := r.slot i _ h
  have hlt : i < ρ.length := (List.getElem?_eq_some_iff.mp h).1
  have eq : ∀ a, Hd (Tl T (fs i)) (fset fs i []) a → Hd T fs a := fun a z => by
    rcases z with (z | z) | ⟨j, hj⟩
    · exact .inl z
    · exact .inr ⟨i, z⟩
    · by_cases e : j = i
      · subst e; rw [fset_same] at hj; cases hj
      · rw [fset_ne e] at hj; exact .inr ⟨j, hj⟩
  have ex : Ex (hide (Hd T fs) H) (hide (Hd (Tl T (fs i)) (fset fs i [])) H) := hide_ex fun a x n e => ⟨fun z => n (eq a z), e⟩
  refine ⟨⟨fun j s e => ?_, fun j e => ?_, fun j => ?_, fun j k a h1 h2 => ?_, fun a o z => ?_, fun a z => ?_, fun j p e => (let ⟨s, h⟩ := r.pl j p e; set_some h)⟩, v, hx, RepO.mono ex o v _ (fun _ _ _ e => e) q⟩
  · by_cases hj : j = i
    · subst hj
      rw [List.getElem?_set_self hlt] at e
      cases e
      exact ⟨_, hx, fset_same, hp⟩
    · rw [List.getElem?_set_ne (Ne.symm hj)] at e
      obtain ⟨y, h1, h2⟩ := r.slot j s e
      rw [fset_ne hj]
      exact ⟨y, h1, h2.mono ex fun _ _ _ e => e⟩
  · by_cases hj : j = i
    · subst hj; exact fset_same
    · rw [List.getElem?_set_ne (Ne.symm hj)] at e
      rw [fset_ne hj]
      exact r.out j e
  · by_cases hj : j = i
    · subst hj; rw [fset_same]; exact .nil
    · rw [fset_ne hj]; exact r.nd j
  · by_cases hj : j = i
    · subst hj; rw [fset_same] at h1; cases h1
    · by_cases hk : k = i
      · subst hk; rw [fset_same] at h2; cases h2
      · rw [fset_ne hj] at h1; rw [fset_ne hk] at h2; exact r.dj j k a h1 h2
  · obtain ⟨j, hj⟩ := o
    by_cases e : j = i
    · subst e; rw [fset_same] at hj; cases hj
    · rw [fset_ne e] at hj
      rcases z with z | z
      · exact r.tf a ⟨j, hj⟩ z
      · exact e (r.dj j i a hj z)
  · rcases z with z | z
    · exact r.ta a z
    · exact r.owned ⟨i, z⟩
theorem giveBack_ok {K : PySem.W.Frag} {T : Addr → Prop} {P : Pins} {ρ ρ2 : Env} {σ : St} {H : Hp} {fs : Nat → List Addr} {a : Arg} {v : V} {l : List Addr} {o : OT} (r : RpA K T P ρ σ H fs a v l) (e : giveBack ρ a = some (o, ρ2)) :
    ∃ fs2 l2, RpA K T P ρ2 σ H fs2 (.tmp o) v l2 ∧ (∀ b, Ow l2 fs2 b → Ow l fs b) := by
  cases a with
  | tmp o' =>
    cases e
    exact ⟨fs, l, r, fun _ z => z⟩
  | slot i =>
    obtain ⟨rp, nd, nt, rfl, hv⟩ := r
    have e : (match ρ[i]? with
      | some (.vl o) => some (o, ρ.set i .un)
      | some (.io (.fz d)) => some (OT.fz d, ρ)
      | some (.lk (.fz d)) => some (.fz d, ρ)
      | _ => none) = some (o, ρ2) := e
    rw [Tl_nil] at rp
    cases es : ρ[i]? with
    | none => simp [es] at e
    | some s =>
      have fzs : ∀ d, slv (some s) = some (.fz d) → RepO K (hide (Hd T fs) H) H (.fz d) v [] := fun d e2 => by
        obtain ⟨x, hx, q⟩ := rp.slot i s es
        obtain ⟨w, hw, q⟩ := slv_of q e2
        rw [hv] at hx
        cases hx
        cases hw
        exact ⟨rfl, q.2⟩
      cases s with
      | un => simp [es] at e
      | vl o' =>
        simp only [es, Option.some.injEq, Prod.mk.injEq] at e
        obtain ⟨rfl, rfl⟩ := e
        obtain ⟨h1, v', h2, h3⟩ := rp.drop es
        rw [hv] at h2
        cases h2
        refine ⟨_, fs i, ⟨h1, rp.nd i, fun b hb z => rp.tf b ⟨i, hb⟩ z, h3⟩, fun b z => ?_⟩
        rcases z with z | ⟨j, hj⟩
        · exact .inr ⟨i, z⟩
        · by_cases e : j = i
          · subst e; rw [fset_same] at hj; cases hj
          · rw [fset_ne e] at hj; exact .inr ⟨j, hj⟩
      | io o' =>
        cases o' with
        | fz d =>
          simp only [es, Option.some.injEq, Prod.mk.injEq] at e
          obtain ⟨rfl, rfl⟩ := e
          exact ⟨fs, [], ⟨(by rw [Tl_nil]; exact rp), .nil, (fun _ z => nomatch z), (by rw [Tl_nil]; exact fzs d rfl)⟩, fun _ z => z⟩
        | _ => simp [es] at e
      | lk o' =>
        cases o' with
        | fz d =>
          simp only [es, Option.some.injEq, Prod.mk.injEq] at e
          obtain ⟨rfl, rfl⟩ := e
          exact ⟨fs, [], ⟨(by rw [Tl_nil]; exact rp), .nil, (fun _ z => nomatch z), (by rw [Tl_nil]; exact fzs d rfl)⟩, fun _ z => z⟩
        | _ => simp [es] at e
theorem ds_ret (he : DE X W e fe) : DS X W (.Return (some e) pos) (sRet fe) := ps_imp (ps_ret he) fun D σ H ⟨T, P, ρ, fs, r, q⟩ => by
  refine ⟨T, P, ρ, fs, r, ?_⟩
  unfold sRet at q
  cases e1 : fe ρ with
  | bad => rw [e1] at q; exact q
  | ex x ρ' => rw [e1] at q; exact q
  | ok a ρ1 =>
    rw [e1] at q
    simp only [RS] at q
    intro v H1 fs1 l1 r1 f1
    cases c1 : giveBack ρ1 a with
    | none => simp only [c1] at q; exact q.elim
    | some p =>
      obtain ⟨o, ρ2⟩ := p
      simp only [c1] at q
      obtain ⟨fs2, l2, r2, s2⟩ := giveBack_ok r1 c1
      exact q v σ H1 fs2 l2 r2 (f1.imp s2)
theorem ds_expr (he : DE X W e fe) (hs : swapsWith e none pos.line X.env = pure false := by rfl) : DS X W (.Expr e pos) (sExpr fe) := ps_imp (ps_expr he hs) fun D σ H ⟨T, P, ρ, fs, r, q⟩ => by
  refine ⟨T, P, ρ, fs, r, ?_⟩
  unfold sExpr at q
  cases e1 : fe ρ with
  | bad => rw [e1] at q; exact q
  | ex x ρ' => rw [e1] at q; exact q
  | ok a ρ1 =>
    rw [e1] at q
    exact fun v H1 fs1 l1 r1 f1 => q σ H1 fs1 r1.rp.unl (f1.imp fun _ z => .inr z)
end
abbrev TM := OT → Env → R Unit
/-- the same slots but those of S -/
def SB (S : List Nat) (σ σ' : St) : Prop := σ'.length = σ.length ∧ ∀ j, j ∉ S → σ'[j]? = σ[j]?
theorem SB.refl (S : List Nat) (σ : St) : SB S σ σ := ⟨rfl, fun _ _ => rfl⟩
theorem SB.trans {S : List Nat} {σ σ1 σ2 : St} (a : SB S σ σ1) (b : SB S σ1 σ2) : SB S σ σ2 := ⟨b.1.trans a.1, fun j h => (b.2 j h).trans (a.2 j h)⟩
theorem SB.mono {S S' : List Nat} {σ σ1 : St} (a : SB S σ σ1) (h : ∀ j ∈ S, j ∈ S') : SB S' σ σ1 := ⟨a.1, fun j hj => a.2 j fun z => hj (h j z)⟩
theorem SB.set {i : Nat} {σ : St} {x : Option V} : SB [i] σ (σ.set i x) := ⟨List.length_set, fun j h => List.getElem?_set_ne fun e => h (by rw [e]; exact List.mem_cons_self)⟩
def AftG (Z : Par) (T : Addr → Prop) (P : Pins) (S : List Nat) (σ : St) (H : Hp) (own : Addr → Prop) (Q : St → Hp → Prop) : R Unit → Prop
  | .ok _ ρ' => ∀ σ' H' fs', SB S σ σ' → Rp Z.K T P ρ' σ' H' fs' → Fr H own H' (Own fs') → Q σ' H'
  | .ex x ρ' => ∀ cls d σ' H' fs', RpX Z.K Z.mg (hide (Hd T fs') H') H' x cls d → Rp Z.K T P ρ' σ' H' fs' → Fr H own H' (Own fs') → Z.W cls d σ' H'
  | .bad => False
def gD (Z : Par) (S : List Nat) (g : TM) : TG := fun v σ H Q => ∃ T P ρ fs o l, RpA Z.K T P ρ σ H fs (.tmp o) v l ∧ AftG Z T P S σ H (Ow l fs) Q (g o ρ)
abbrev DG (X : Cx) (W : WX) (e : Expr) (S : List Nat) (g : TM) : Prop := PG X e (gD (zp X W) S g)
theorem pg_imp {X : Cx} {e : Expr} {t t' : TG} (h : PG X e t) (hi : ∀ v σ H Q, t' v σ H Q → t v σ H Q) : PG X e t' := ⟨fun pins s σ H v u Q I r q => h.run pins s σ H v u Q I r (hi v σ H Q q)⟩
def gNm (i : Nat) : TM := fun o ρ => match ρ[i]? with
  | some .un => .ok () (ρ.set i (.vl o))
  | some (.vl _) => .ok () (ρ.set i (.vl o))
  | _ => .bad
theorem RpA.store {K : PySem.W.Frag} {T : Addr → Prop} {P : Pins} {ρ : Env} {σ : St} {H : Hp} {fs : Nat → List Addr} {o : OT} {v : V} {l : List Addr} (r : RpA K T P ρ σ H fs (.tmp o) v l) {i : Nat} (h : ρ[i]? = some .un ∨ ∃ o', ρ[i]? = some (.vl o')) :
    Rp K T P (ρ.set i (.vl o)) (σ.set i (some v)) H (fset fs i l) ∧ (∀ a, Own (fset fs i l) a → Ow l fs a) := by
  have hp : P i = none := by
    rcases h with h | ⟨o', h⟩
    · obtain ⟨x, _, q⟩ := r.rp.slot i _ h
      exact q.2
    · obtain ⟨x, _, v', _, hp, _⟩ := r.rp.slot i _ h
      exact hp
  have hlt : i < ρ.length := by
    rcases h with h | ⟨o', h⟩ <;> exact (List.getElem?_eq_some_iff.mp h).1
  have hσ : i < σ.length := by
    rcases h with h | ⟨o', h⟩
    · obtain ⟨x, hx, _⟩ := r.rp.slot i _ h
      exact (List.getElem?_eq_some_iff.mp hx).1
    · obtain ⟨x, hx, _⟩ := r.rp.slot i _ h
      exact (List.getElem?_eq_some_iff.mp hx).1
  have sub : ∀ a, Own (fset fs i l) a → Ow l fs a := fun a ⟨j, hj⟩ => by
    by_cases e : j = i
    · subst e; rw [fset_same] at hj; exact .inl hj
    · rw [fset_ne e] at hj; exact .inr ⟨j, hj⟩
  have ex : Ex (hide (Hd (Tl T l) fs) H) (hide (Hd T (fset fs i l)) H) := hide_ex fun a x n e => ⟨fun z => by
    rcases z with z | z
    · exact n (.inl (.inl z))
    · rcases sub a z with z | z
      · exact n (.inl (.inr z))
      · exact n (.inr z), e⟩
  refine ⟨⟨fun j s e => ?_, fun j e => ?_, fun j => ?_, fun j k a h1 h2 => ?_, fun a z t => ?_, fun a z => r.rp.ta a (.inl z), fun j p e => (let ⟨s, h⟩ := r.rp.pl j p e; set_some h)⟩, sub⟩
  · by_cases hj : j = i
    · subst hj
      rw [List.getElem?_set_self hlt] at e
      cases e
      refine ⟨_, List.getElem?_set_self hσ, v, rfl, hp, ?_⟩
      rw [fset_same]
      exact RepO.mono ex o v l (fun _ _ _ e => e) r.ar
    · rw [List.getElem?_set_ne (Ne.symm hj)] at e
      obtain ⟨y, h1, h2⟩ := r.rp.slot j s e
      rw [fset_ne hj, List.getElem?_set_ne (Ne.symm hj)]
      exact ⟨y, h1, h2.mono ex fun _ _ _ e => e⟩
  · by_cases hj : j = i
    · subst hj
      rw [List.getElem?_set_self hlt] at e
      cases e
    · rw [List.getElem?_set_ne (Ne.symm hj)] at e
      rw [fset_ne hj]
      exact r.rp.out j e
  · by_cases hj : j = i
    · subst hj; rw [fset_same]; exact r.nd
    · rw [fset_ne hj]; exact r.rp.nd j
  · by_cases hj : j = i
    · by_cases hk : k = i
      · rw [hj, hk]
      · subst hj
        rw [fset_same] at h1
        rw [fset_ne hk] at h2
        exact absurd (show Tl T l a from .inr h1) (r.rp.tf a ⟨k, h2⟩)
    · by_cases hk : k = i
      · subst hk
        rw [fset_same] at h2
        rw [fset_ne hj] at h1
        exact absurd (show Tl T l a from .inr h2) (r.rp.tf a ⟨j, h1⟩)
      · rw [fset_ne hj] at h1
        rw [fset_ne hk] at h2
        exact r.rp.dj j k a h1 h2
  · rcases sub a z with z | z
    · exact r.nt a z t
    · exact r.rp.tf a z (.inl t)
section
variable {X : Cx} {W : WX} {pos : Pos}
theorem dg_name {i : Nat} {e : Expr} (h : PG X e (gName i)) : DG X W e [i] (gNm i) := pg_imp h fun v σ H Q ⟨T, P, ρ, fs, o, l, r, q⟩ => by
  unfold gNm at q
  cases es : ρ[i]? with
  | none => simp only [es] at q; exact q.elim
  | some s =>
    cases s with
    | un =>
      simp only [es] at q
      obtain ⟨h1, h2⟩ := r.store (.inl es)
      exact q _ H _ SB.set h1 (Fr.refl.imp h2)
    | vl o' =>
      simp only [es] at q
      obtain ⟨h1, h2⟩ := r.store (.inr ⟨o', es⟩)
      exact q _ H _ SB.set h1 (Fr.refl.imp h2)
    | io o' => simp only [es] at q; exact q.elim
    | lk o' => simp only [es] at q; exact q.elim
/-- target = value -/
def sAsg (f : M Arg) (g : TM) : SM := fun ρ => RS (f ρ) fun a ρ1 => match take1 ρ1 a with
  | some (o, ρ2) => RS (g o ρ2) fun _ ρ3 => .nx ρ3
  | none => .bad
theorem tAsg_op {Z : Par} {f : M Arg} {S : List Nat} {g : TM} {D : Ends} {σ : St} {H : Hp} (h : tS Z (sAsg f g) D σ H) : tAsg (tD Z f) (gD Z S g) D σ H := by
  obtain ⟨T, P, ρ, fs, r, q⟩ := h
  refine ⟨T, P, ρ, fs, r, ?_⟩
  unfold sAsg at q
  cases e1 : f ρ with
  | bad => rw [e1] at q; exact q
  | ex x ρ' => rw [e1] at q; exact q
  | ok a ρ1 =>
    rw [e1] at q
    simp only [RS] at q
    intro v H1 fs1 l1 r1 f1
    cases c1 : take1 ρ1 a with
    | none => simp only [c1] at q; exact q.elim
    | some p =>
      obtain ⟨o, ρ2⟩ := p
      simp only [c1] at q
      obtain ⟨fs2, r2, s2, p2⟩ := take1_ok r1.rp r1.ar c1
      refine ⟨T, P, ρ2, fs2, o, l1, ⟨r2, r1.nd, r1.nt, p2⟩, ?_⟩
      have ff : Fr H (Own fs) H1 (Ow l1 fs2) := f1.imp fun x z => z.imp id (s2 x)
      cases e2 : g o ρ2 with
      | bad => rw [e2] at q; exact q
      | ex x ρ' => rw [e2] at q; exact fun cls d σ' H' fs' rx rp fr => q cls d σ' H' fs' rx rp (ff.trans fr)
      | ok u ρ3 => rw [e2] at q; exact fun σ' H' fs' _ rp fr => q σ' H' fs' rp (ff.trans fr)
theorem ds_asg {tg e : Expr} {fe : M Arg} {S : List Nat} {g : TM} (he : DE X W e fe) (hg : DG X W tg S g) (hs : swapsWithSole [tg] e pos.line X.env = pure false := by rfl) (hw : swappedStores [tg] e X.env = pure none := by rfl)
    (h1 : (assignEach [tg] X.env).map (·.2) = [assign tg X.env] := by rfl) : DS X W (.Assign [tg] e pos) (sAsg fe g) := ps_imp (ps_asg he hg hs hw h1) fun D σ H h => tAsg_op (Z := zp X W) h
theorem gNm_name {i : Nat} {v : V} {σ : St} {H : Hp} {Q : St → Hp → Prop} {Z : Par} (h : gD Z [i] (gNm i) v σ H Q) : gName i v σ H Q := by
  obtain ⟨T, P, ρ, fs, o, l, r, q⟩ := h
  unfold gNm at q
  cases es : ρ[i]? with
  | none => simp only [es] at q; exact q.elim
  | some s =>
    cases s with
    | un =>
      simp only [es] at q
      obtain ⟨h1, h2⟩ := r.store (.inl es)
      exact q _ H _ SB.set h1 (Fr.refl.imp h2)
    | vl o' =>
      simp only [es] at q
      obtain ⟨h1, h2⟩ := r.store (.inr ⟨o', es⟩)
      exact q _ H _ SB.set h1 (Fr.refl.imp h2)
    | io o' => simp only [es] at q; exact q.elim
    | lk o' => simp only [es] at q; exact q.elim
/-- name = value, by ps_set or ps_setLc -/
theorem ds_set {st : Stmt} {fe : M Arg} {i : Nat} (h : PS X st (tAsg (tD (zp X W) fe) (gName i))) : DS X W st (sAsg fe (gNm i)) := ps_imp h fun D σ H q => by
  have q := tAsg_op (Z := zp X W) (S := [i]) q
  obtain ⟨T, P, ρ, fs, r, q⟩ := q
  refine ⟨T, P, ρ, fs, r, ?_⟩
  cases e1 : fe ρ with
  | bad => rw [e1] at q; exact q
  | ex x ρ' => rw [e1] at q; exact q
  | ok a ρ1 => rw [e1] at q; exact fun v H1 fs1 l1 r1 f1 => gNm_name (q v H1 fs1 l1 r1 f1)
end
end Lay
namespace Lay
open PySem PySem.Spec L2
def gSeq : List TM → List OT → Env → R Unit
  | [], [], ρ => .ok () ρ
  | g :: gs, o :: os, ρ => (g o ρ).bind fun _ ρ1 => gSeq gs os ρ1
  | _, _, _ => .bad
def gTu (gs : List TM) : TM := fun o ρ => match o with
  | .fz (.tup ds) => if ds.length = gs.length then gSeq gs (ds.map .fz) ρ else .bad
  | _ => .bad
def gLs (gs : List TM) : TM := fun o ρ => match o with
  | .fz (.lst ds) => if ds.length = gs.length then gSeq gs (ds.map .fz) ρ else .bad
  | .lst os => if os.length = gs.length then gSeq gs os ρ else .bad
  | _ => .bad
def gsD (Z : Par) (S : List Nat) (gs : List TM) : TGs := fun vs σ H Q => ∃ T P ρ fs os l, Rp Z.K (Tl T l) P ρ σ H fs ∧ l.Nodup ∧ (∀ b ∈ l, ¬ T b) ∧ RepOs Z.K (hide (Hd (Tl T l) fs) H) H os vs l ∧ AftG Z T P S σ H (Ow l fs) Q (gSeq gs os ρ)
abbrev DGs (X : Cx) (W : WX) (es : List Expr) (S : List Nat) (gs : List TM) : Prop := PGs X es (gsD (zp X W) S gs)
theorem pgs_imp {X : Cx} {es : List Expr} {t t' : TGs} (h : PGs X es t) (hi : ∀ v σ H Q, t' v σ H Q → t v σ H Q) : PGs X es t' := ⟨fun pins s σ H v u Q I r q => h.run pins s σ H v u Q I r (hi v σ H Q q)⟩
section
variable {X : Cx} {W : WX} {pos : Pos} {e : Expr} {es : List Expr} {g : TM} {gs : List TM} {S S' : List Nat}
theorem dgs_nil : DGs X W [] [] [] := pgs_imp pgs_nil fun vs σ H Q ⟨T, P, ρ, fs, os, l, r, nd, nt, ro, q⟩ => by
  cases os with
  | nil => exact ⟨ro.1, q σ H fs (SB.refl _ _) r.unl (Fr.refl.imp fun x z => .inr z)⟩
  | cons o os => exact q.elim
theorem dgs_cons (h1 : DG X W e S g) (h2 : DGs X W es S' gs) (hs : (assignEach (e :: es) X.env).map (·.2) = assign e X.env :: (assignEach es X.env).map (·.2) := by rfl) : DGs X W (e :: es) (S ++ S') (g :: gs) :=
  pgs_imp (pgs_cons h1 h2 hs) fun vs σ H Q ⟨T, P, ρ, fs, os, l, r, nd, nt, ro, q⟩ => by
    cases os with
    | nil => exact q.elim
    | cons o os =>
      obtain ⟨v, r', l1, l2, rfl, rfl, q1, q2⟩ := ro
      have nd1 := (List.nodup_append.mp nd)
      have e12 : Tl (Tl T l2) l1 = Tl T (l1 ++ l2) := by
        funext b
        simp only [Tl, List.mem_append, eq_iff_iff]
        constructor
        · rintro ((z | z) | z) <;> simp [z]
        · rintro (z | z | z) <;> simp [z]
      have r0 := r
      have ro2 := q2
      rw [← e12] at r q1 q2
      refine ⟨v, r', rfl, Tl T l2, P, ρ, fs, o, l1, ⟨r, nd1.1, fun b hb z => ?_, q1⟩, ?_⟩
      · rcases z with z | z
        · exact nt b (List.mem_append_left _ hb) z
        · exact nd1.2.2 b hb b z rfl
      · cases e1 : g o ρ with
        | bad => simp only [gSeq, e1, R.bind] at q; exact q
        | ex x ρ' =>
          simp only [gSeq, e1, R.bind] at q
          intro cls d σ' H' fs' rx rp fr
          have gx : Ex (hide (Hd (Tl T l2) fs') H') (hide (Hd T fs') H') := hide_ex fun a y hn e => ⟨fun z => hn (z.imp Or.inl id), e⟩
          have mf : ∀ {l1 : List (Str × Dat)} {vs}, RepF X.K (hide (Hd (Tl T l2) fs') H') l1 vs → RepF X.K (hide (Hd T fs') H') l1 vs := by
            intro l1
            induction l1 with
            | nil => intro vs h; exact h
            | cons p r ih => 
              intro vs h
              obtain ⟨n, dd⟩ := p
              obtain ⟨v, r', rfl, q, q2⟩ := h
              exact ⟨v, r', rfl, RepD.mono gx dd v q, ih q2⟩
          obtain ⟨rx1, vs, rx2, rx3⟩ := rx
          refine q cls d σ' H' fs' ⟨rx1, vs, mf rx2, rx3⟩ rp.unl fun a y e n => ?_
          exact fr a y e fun z => n (z.elim (fun z => .inl (List.mem_append_left _ z)) .inr)
        | ok u ρ1 =>
          simp only [gSeq, e1, R.bind] at q
          intro σ1 H1 fs1 sb1 r1 f1
          have keep : ∀ b ∈ l2, ∀ x, H b = some x → H1 b = some x := fun b hb x e => (f1 b x e fun z => by
            rcases z with z | z
            · exact nd1.2.2 b z b hb rfl
            · exact r0.tf b z (.inr (List.mem_append_right _ hb))).1
          refine ⟨T, P, ρ1, fs1, os, l2, r1, nd1.2.1, fun b hb => nt b (List.mem_append_right _ hb), ?_, ?_⟩
          · refine RepOs.mono (hide_ex fun a x n e => ?_) os r' l2 keep ro2
            have n2 : ¬ Ow l1 fs a := fun z => by
              rcases z with z | z
              · exact n (.inl (.inr (List.mem_append_left _ z)))
              · exact n (.inr z)
            obtain ⟨h1, n1⟩ := f1 a x e n2
            refine ⟨?_, h1⟩
            rintro ((z | z) | z)
            · exact n (.inl (.inl z))
            · exact n (.inl (.inr (List.mem_append_right _ z)))
            · exact n1 z
          · have ff : ∀ {H' : Hp} {o' : Addr → Prop}, Fr H1 (Ow l2 fs1) H' o' → Fr H (Ow (l1 ++ l2) fs) H' o' := fun f2 a x e n => by
              obtain ⟨h1, n1⟩ := f1 a x e fun z => n (z.imp (List.mem_append_left _) id)
              refine f2 a x h1 fun z => ?_
              rcases z with z | z
              · exact n (.inl (List.mem_append_right _ z))
              · exact n1 z
            cases e2 : gSeq gs os ρ1 with
            | bad => rw [e2] at q; exact q
            | ex x ρ' => rw [e2] at q; exact fun cls d σ' H' fs' rx rp fr => q cls d σ' H' fs' rx rp (ff fr)
            | ok u ρ2 => rw [e2] at q; exact fun σ' H' fs' sb rp fr => q σ' H' fs' ((sb1.mono fun j => List.mem_append_left _).trans (sb.mono fun j => List.mem_append_right _)) rp (ff fr)
theorem RepDs.os {K : PySem.W.Frag} {G H : Hp} : ∀ {ds : List Dat} {vs : List V}, RepDs K G ds vs → RepOs K G H (ds.map .fz) vs []
  | [], _, h => ⟨h, rfl⟩
  | d :: r, _, h => by
    obtain ⟨v, r', rfl, q1, q2⟩ := h
    exact ⟨v, r', [], [], rfl, rfl, ⟨rfl, q1⟩, RepDs.os q2⟩
theorem RepDs.length {K : PySem.W.Frag} {G : Hp} : ∀ {ds : List Dat} {vs : List V}, RepDs K G ds vs → vs.length = ds.length
  | [], _, h => by rw [show _ = [] from h]; rfl
  | d :: r, _, h => by
    obtain ⟨v, r', rfl, q1, q2⟩ := h
    rw [List.length_cons, List.length_cons, RepDs.length q2]
theorem dg_tup {k : Nat} (hc : X.calm = true) (h : DGs X W es S gs) (hn : (assignEach es X.env).length = gs.length := by rfl) (hst : (assignEach es X.env).findIdx? (·.1) = none := by rfl) : DG X W (.Tuple es k pos) S (gTu gs) :=
  pg_imp (pg_tup hc h hn hst) fun v σ H Q ⟨T, P, ρ, fs, o, l, r, q⟩ => by
    unfold gTu at q
    cases o with
    | fz d =>
      cases d with
      | tup ds =>
        simp only at q
        obtain ⟨rfl, a, vs, rfl, sq, rs⟩ := r.ar
        by_cases hl : ds.length = gs.length
        · rw [if_pos hl] at q
          exact ⟨a, vs, rfl, hide_le.sqT sq, by rw [rs.length, hl], T, P, ρ, fs, _, [], r.rp, .nil, (fun _ z => nomatch z), rs.os, q⟩
        · rw [if_neg hl] at q; exact q.elim
      | _ => exact q.elim
    | _ => exact q.elim
end
/-- the thing at v (o becomes x') is changed; what is new is told -/
def MutR (K : PySem.W.Frag) (G H : Hp) (v : V) (f l : List Addr) (x' o' : OT) (Q : V → Hp → Prop) : Prop :=
  ∀ w H' f' l', (∀ a y, H a = some y → a ∉ f → H' a = some y) → (f' ++ l').Nodup → (∀ b ∈ f' ++ l', H b = none ∨ b ∈ f ∨ b ∈ l) →
    (∀ G', Ex G G' → (∀ b y, (H b = none ∨ b ∈ f ∨ b ∈ l) → H' b = some y → b ∉ f' → b ∉ l' → G' b = some y) → RepO K G' H' x' v f' ∧ RepO K G' H' o' w l') → Q w H'
def MutOk (K : PySem.W.Frag) (r : V → List V → Hp → VK → Prop) (op : OT → List OT → Option (OT × OT)) : Prop :=
  ∀ G H x v f os vs l x' o' Q, Ex G H → RepO K G H x v f → RepOs K G H os vs l → (f ++ l).Nodup → op x os = some (x', o') → MutR K G H v f l x' o' Q → r v vs H Q
/-- the slot i with another content -/
def putS (ρ : Env) (i : Nat) (x' : OT) : Option Env := match ρ[i]? with
  | some (.vl _) => some (ρ.set i (.vl x'))
  | some (.io _) => some (ρ.set i (.io x'))
  | _ => none
section
variable {K : PySem.W.Frag} {T : Addr → Prop} {P : Pins} {ρ ρ' : Env} {σ : St} {H H0 : Hp} {fs fs0 : Nat → List Addr}
theorem Rp.mutate {l : List Addr} (r : Rp K (Tl T l) P ρ σ H fs) (nd : l.Nodup) (nt : ∀ b ∈ l, ¬ T b) {i : Nat} {x x' o' : OT} {v : V} (hs : slv ρ[i]? = some x) (hv : σ[i]? = some (some v)) (hp : putS ρ i x' = some ρ') {Q : V → Hp → Prop}
    (f : Fr H0 (Own fs0) H (Ow l fs)) (k : ∀ w H' fs' l', RpA K T P ρ' σ H' fs' (.tmp o') w l' → Fr H0 (Own fs0) H' (Ow l' fs') → Q w H') :
    RepO K (hide (Hd (Tl T l) fs) H) H x v (fs i) ∧ (fs i ++ l).Nodup ∧ MutR K (hide (Hd (Tl T l) fs) H) H v (fs i) l x' o' Q := by
  have ndl : (fs i ++ l).Nodup := List.nodup_append.mpr ⟨r.nd i, nd, fun a ha b hb e => by subst e; exact r.tf a ⟨i, ha⟩ (.inr hb)⟩
  have hlt : i < ρ.length := by
    unfold putS at hp
    cases es : ρ[i]? with
    | none => rw [es] at hp; cases hp
    | some s => exact (List.getElem?_eq_some_iff.mp es).1
  have rep : RepO K (hide (Hd (Tl T l) fs) H) H x v (fs i) := by
    cases es : ρ[i]? with
    | none => rw [es] at hs; cases hs
    | some s =>
      obtain ⟨y, hy, q⟩ := r.slot i s es
      rw [es] at hs
      obtain ⟨w, hw, q⟩ := slv_of q hs
      rw [hv] at hy
      cases hy
      cases hw
      exact q
  refine ⟨rep, ndl, fun w H' f' l' keep nd' src rp' => ?_⟩
  have ndf' := List.nodup_append.mp nd'
  -- who is new
  have hd0 : ∀ b, H b = none → ¬ Hd (Tl T l) fs b := fun b h => r.hd h
  have inf : ∀ b ∈ f' ++ l', ¬ T b ∧ ∀ j, j ≠ i → b ∉ fs j := fun b hb => by
    rcases src b hb with z | z | z
    · exact ⟨fun t => hd0 b z (.inl (.inl t)), fun j _ hj => hd0 b z (.inr ⟨j, hj⟩)⟩
    · exact ⟨fun t => r.tf b ⟨i, z⟩ (.inl t), fun j hj h => hj (r.dj j i b h z)⟩
    · exact ⟨fun t => nt b z t, fun j _ h => r.tf b ⟨j, h⟩ (.inr z)⟩
  have ex : Ex (hide (Hd (Tl T l) fs) H) (hide (Hd (Tl T l') (fset fs i f')) H') := hide_ex fun a y n e => by
    have nfi : a ∉ fs i := fun z => n (.inr ⟨i, z⟩)
    refine ⟨?_, keep a y e nfi⟩
    have srcn : a ∉ f' ++ l' := fun z => by
      rcases src a z with z | z | z
      · rw [z] at e; cases e
      · exact nfi z
      · exact n (.inl (.inr z))
    rintro ((z | z) | ⟨j, hj⟩)
    · exact n (.inl (.inl z))
    · exact srcn (List.mem_append_right _ z)
    · by_cases e : j = i
      · subst e; rw [fset_same] at hj; exact srcn (List.mem_append_left _ hj)
      · rw [fset_ne e] at hj; exact n (.inr ⟨j, hj⟩)
  have news : ∀ b y, (H b = none ∨ b ∈ fs i ∨ b ∈ l) → H' b = some y → b ∉ f' → b ∉ l' → hide (Hd (Tl T l') (fset fs i f')) H' b = some y := fun b y hb e n1 n2 => by
    refine (hide_no ?_).trans e
    have q1 : ¬ T b ∧ ∀ j, j ≠ i → b ∉ fs j := by
      rcases hb with z | z | z
      · exact ⟨fun t => hd0 b z (.inl (.inl t)), fun j _ hj => hd0 b z (.inr ⟨j, hj⟩)⟩
      · exact ⟨fun t => r.tf b ⟨i, z⟩ (.inl t), fun j hj h => hj (r.dj j i b h z)⟩
      · exact ⟨fun t => nt b z t, fun j _ h => r.tf b ⟨j, h⟩ (.inr z)⟩
    rintro ((z | z) | ⟨j, hj⟩)
    · exact q1.1 z
    · exact n2 z
    · by_cases e : j = i
      · subst e; rw [fset_same] at hj; exact n1 hj
      · rw [fset_ne e] at hj; exact q1.2 j e hj
  obtain ⟨rx, ro⟩ := rp' _ ex news
  have keepj : ∀ j, j ≠ i → ∀ a ∈ fs j, ∀ y, H a = some y → H' a = some y := fun j hj a ha y e => keep a y e fun z => hj (r.dj j i a ha z)
  -- the slot
  have slot_i : ∀ s, ρ'[i]? = some s → ∃ y, σ[i]? = some y ∧ RepS K (hide (Hd (Tl T l') (fset fs i f')) H') H' (P i) s y (fset fs i f' i) := fun s e => by
    rw [fset_same]
    unfold putS at hp
    cases es : ρ[i]? with
    | none => rw [es] at hp; cases hp
    | some s0 =>
      obtain ⟨y, hy, q⟩ := r.slot i s0 es
      cases s0 with
      | un => rw [es] at hp; cases hp
      | vl x0 =>
        simp only [es, Option.some.injEq] at hp
        subst hp
        rw [List.getElem?_set_self hlt] at e
        cases e
        obtain ⟨v', e1, e2, _⟩ := q
        rw [hv] at hy
        cases hy
        cases e1
        exact ⟨_, hv, v, rfl, e2, rx⟩
      | io x0 =>
        simp only [es, Option.some.injEq] at hp
        subst hp
        rw [List.getElem?_set_self hlt] at e
        cases e
        obtain ⟨v', e1, e2, _⟩ := q
        rw [hv] at hy
        cases hy
        cases e1
        exact ⟨_, hv, v, rfl, e2, rx⟩
      | lk x0 => rw [es] at hp; cases hp
  have slot_j : ∀ j, j ≠ i → ρ'[j]? = ρ[j]? := fun j hj => by
    unfold putS at hp
    cases es : ρ[i]? with
    | none => rw [es] at hp; cases hp
    | some s0 =>
      cases s0 with
      | un => rw [es] at hp; cases hp
      | vl x0 => simp only [es, Option.some.injEq] at hp; subst hp; exact List.getElem?_set_ne (Ne.symm hj)
      | io x0 => simp only [es, Option.some.injEq] at hp; subst hp; exact List.getElem?_set_ne (Ne.symm hj)
      | lk x0 => rw [es] at hp; cases hp
  have len : ρ'.length = ρ.length := by
    unfold putS at hp
    cases es : ρ[i]? with
    | none => rw [es] at hp; cases hp
    | some s0 =>
      cases s0 with
      | un => rw [es] at hp; cases hp
      | vl x0 => simp only [es, Option.some.injEq] at hp; subst hp; exact List.length_set
      | io x0 => simp only [es, Option.some.injEq] at hp; subst hp; exact List.length_set
      | lk x0 => rw [es] at hp; cases hp
  have plr : ∀ (j : Nat) p, P j = some p → ∃ s, ρ'[j]? = some s := fun j p e => by
    obtain ⟨s, h⟩ := r.pl j p e
    exact ⟨_, List.getElem?_eq_getElem (by rw [len]; exact (List.getElem?_eq_some_iff.mp h).1)⟩
  have there : ∀ b ∈ f' ++ l', ∃ y, H' b = some y := fun b hb => by
    rcases List.mem_append.mp hb with hb | hb
    · rcases RepO.own x' v f' rx b hb with ⟨y, e⟩ | ⟨y, e⟩ | ⟨y, e⟩ | ⟨y, e⟩ <;> exact ⟨_, e⟩
    · rcases RepO.own o' w l' ro b hb with ⟨y, e⟩ | ⟨y, e⟩ | ⟨y, e⟩ | ⟨y, e⟩ <;> exact ⟨_, e⟩
  refine k w H' (fset fs i f') l' ⟨⟨fun j s e => ?_, fun j e => ?_, fun j => ?_, fun j k a h1 h2 => ?_, fun a z t => ?_, fun a z => ?_, fun j p e => plr j p e⟩, ndf'.2.1, (fun b hb => (inf b (List.mem_append_right _ hb)).1), ro⟩ fun a y e n => ?_
  · by_cases hj : j = i
    · subst hj
      exact slot_i s e
    · rw [slot_j j hj] at e
      obtain ⟨y, h1, h2⟩ := r.slot j s e
      rw [fset_ne hj]
      exact ⟨y, h1, h2.mono ex (keepj j hj)⟩
  · by_cases hj : j = i
    · subst hj
      rw [List.getElem?_eq_none_iff, len] at e
      exact absurd hlt (Nat.not_lt.mpr e)
    · rw [slot_j j hj] at e
      rw [fset_ne hj]
      exact r.out j e
  · by_cases hj : j = i
    · subst hj; rw [fset_same]; exact ndf'.1
    · rw [fset_ne hj]; exact r.nd j
  · by_cases hj : j = i
    · by_cases hk : k = i
      · rw [hj, hk]
      · subst hj
        rw [fset_same] at h1
        rw [fset_ne hk] at h2
        exact absurd h2 ((inf a (List.mem_append_left _ h1)).2 k hk)
    · by_cases hk : k = i
      · subst hk
        rw [fset_same] at h2
        rw [fset_ne hj] at h1
        exact absurd h1 ((inf a (List.mem_append_left _ h2)).2 j hj)
      · rw [fset_ne hj] at h1
        rw [fset_ne hk] at h2
        exact r.dj j k a h1 h2
  · obtain ⟨j, hj⟩ := z
    by_cases e : j = i
    · subst e
      rw [fset_same] at hj
      rcases t with t | t
      · exact (inf a (List.mem_append_left _ hj)).1 t
      · exact ndf'.2.2 a hj a t rfl
    · rw [fset_ne e] at hj
      rcases t with t | t
      · exact r.tf a ⟨j, hj⟩ (.inl t)
      · exact (inf a (List.mem_append_right _ t)).2 j e hj
  · rcases z with z | z
    · obtain ⟨y, e⟩ := r.ta a (.inl z)
      exact ⟨y, keep a y e fun h => r.tf a ⟨i, h⟩ (.inl z)⟩
    · exact there a (List.mem_append_right _ z)
  · obtain ⟨h1, n1⟩ := f a y e n
    have nfi : a ∉ fs i := fun z => n1 (.inr ⟨i, z⟩)
    refine ⟨keep a y h1 nfi, ?_⟩
    have srcn : a ∉ f' ++ l' := fun z => by
      rcases src a z with z | z | z
      · rw [z] at h1; cases h1
      · exact nfi z
      · exact n1 (.inl z)
    rintro (z | ⟨j, hj⟩)
    · exact srcn (List.mem_append_right _ z)
    · by_cases e : j = i
      · subst e; rw [fset_same] at hj; exact srcn (List.mem_append_left _ hj)
      · rw [fset_ne e] at hj; exact n1 (.inr ⟨j, hj⟩)
end
/-- x.m(..) that changes x, x the name in slot i -/
def xMut (T : String) (i : Nat) (op : OT → List OT → Option (OT × OT)) (g : M (List Arg)) : M Arg := fun ρ => match slv ρ[i]? with
  | none => .bad
  | some x0 => if tyO T x0 then (g ρ).bind fun as ρ1 => match takes ρ1 as with
    | none => .bad
    | some (os, ρ2) => match slv ρ2[i]? with
      | none => .bad
      | some x => match op x os with
        | none => .bad
        | some (x', o') => match putS ρ2 i x' with
          | none => .bad
          | some ρ3 => .ok (.tmp o') ρ3
    else .bad
theorem tMut_op {Z : Par} {T0 : String} {r : V → List V → Hp → VK → Prop} {op : OT → List OT → Option (OT × OT)} (ho : MutOk Z.K r op) {i : Nat} {g : M (List Arg)} {σ : St} {H : Hp} {Q : VK} (h : tD Z (xMut T0 i op g) σ H Q) : tBM Z.K T0 r (tVar i) (tDA Z g) σ H Q := by
  obtain ⟨T, P, ρ, fs, rp, q⟩ := h
  unfold xMut at q
  cases c0 : slv ρ[i]? with
  | none => simp only [c0] at q; exact q.elim
  | some x0 =>
    simp only [c0] at q
    obtain ⟨v, hv⟩ := rp.has c0
    obtain ⟨f0, s0, _⟩ := RpA.see (a := .slot i) (l := []) rp ⟨rfl, hv⟩ c0
    cases ct : tyO T0 x0 with
    | false => simp only [ct] at q; exact q.elim
    | true =>
    simp only [ct, if_true] at q
    refine ⟨v, hv, tyO_ok hide_le s0 ct, T, P, ρ, fs, rp, ?_⟩
    cases e1 : g ρ with
    | bad => rw [e1] at q; exact q
    | ex x ρ' => rw [e1] at q; exact q
    | ok as ρ1 =>
      rw [e1] at q
      simp only [R.bind] at q
      intro vs H1 fs1 l1 r1 f1
      cases c1 : takes ρ1 as with
      | none => simp only [c1] at q; exact q.elim
      | some p =>
        obtain ⟨os, ρ2⟩ := p
        simp only [c1] at q
        obtain ⟨fs2, r2, s2, p2⟩ := takes_ok r1.rp r1.ar c1
        have ff : Fr H (Own fs) H1 (Ow l1 fs2) := f1.imp fun x z => z.imp id (s2 x)
        cases c2 : slv ρ2[i]? with
        | none => simp only [c2] at q; exact q.elim
        | some x =>
          simp only [c2] at q
          cases c3 : op x os with
          | none => simp only [c3] at q; exact q.elim
          | some p =>
            obtain ⟨x', o'⟩ := p
            simp only [c3] at q
            cases c4 : putS ρ2 i x' with
            | none => simp only [c4] at q; exact q.elim
            | some ρ3 =>
              simp only [c4] at q
              obtain ⟨q1, q2, q3⟩ := Rp.mutate (Q := Q) r2 r1.nd r1.nt c2 hv c4 ff q
              exact ho _ H1 x v (fs2 i) os vs l1 x' o' Q hide_le q1 p2 q2 c3 q3
/-- x[i] = .. -/
def gIx (i : Nat) (fk : M Arg) (op : OT → List OT → Option (OT × OT)) : TM := fun o ρ => match slv ρ[i]? with
  | none => .bad
  | some _ => (fk ρ).bind fun a ρ1 => match look ρ1 a with
    | some (.fz k) => match slv ρ1[i]? with
      | none => .bad
      | some x => match op x [.fz k, o] with
        | none => .bad
        | some (x', _) => match putS ρ1 i x' with
          | none => .bad
          | some ρ2 => .ok () ρ2
    | _ => .bad
theorem gIx_op {Z : Par} {ts : TSet} {op : OT → List OT → Option (OT × OT)} (ho : MutOk Z.K (fun x vs H Q => ∃ k w, vs = [k, w] ∧ ts x k w H fun H' => Q .non H') op) {i : Nat} {fk : M Arg} {v : V} {σ : St} {H : Hp} {Q : St → Hp → Prop}
    (h : gD Z [] (gIx i fk op) v σ H Q) : gSub (tVar i) (tD Z fk) ts v σ H Q := by
  obtain ⟨T, P, ρ, fs, o, l, r, q⟩ := h
  unfold gIx at q
  cases c0 : slv ρ[i]? with
  | none => simp only [c0] at q; exact q.elim
  | some x0 =>
    simp only [c0] at q
    obtain ⟨vx, hv⟩ := r.rp.has c0
    refine ⟨vx, hv, Tl T l, P, ρ, fs, r.rp, ?_⟩
    cases e1 : fk ρ with
    | bad => rw [e1] at q; exact q
    | ex x ρ' =>
      rw [e1] at q
      intro cls d σ' H' fs' rx rp fr
      have gx : Ex (hide (Hd (Tl T l) fs') H') (hide (Hd T fs') H') := hide_ex fun a y hn e => ⟨fun z => hn (z.imp Or.inl id), e⟩
      have mf : ∀ {l1 : List (Str × Dat)} {vs}, RepF Z.K (hide (Hd (Tl T l) fs') H') l1 vs → RepF Z.K (hide (Hd T fs') H') l1 vs := by
        intro l1
        induction l1 with
        | nil => intro vs h; exact h
        | cons p r ih => 
          intro vs h
          obtain ⟨n, dd⟩ := p
          obtain ⟨v, r', rfl, q, q2⟩ := h
          exact ⟨v, r', rfl, RepD.mono gx dd v q, ih q2⟩
      obtain ⟨rx1, vs, rx2, rx3⟩ := rx
      exact q cls d σ' H' fs' ⟨rx1, vs, mf rx2, rx3⟩ rp.unl fun a y e n => fr a y e fun z => n (.inr z)
    | ok a ρ1 =>
      rw [e1] at q
      simp only [R.bind] at q
      intro vk H1 fs1 l1 r1 f1
      have no := r.rp.noair
      cases c1 : look ρ1 a with
      | none => simp only [c1] at q; exact q.elim
      | some ok =>
        cases ok with
        | fz k =>
          simp only [c1] at q
          obtain ⟨g1, ⟨rfl, sk⟩, _⟩ := RpA.see r1.rp r1.ar c1
          cases c2 : slv ρ1[i]? with
          | none => simp only [c2] at q; exact q.elim
          | some x =>
            simp only [c2] at q
            cases c3 : op x [.fz k, o] with
            | none => simp only [c3] at q; exact q.elim
            | some p =>
              obtain ⟨x', o'⟩ := p
              simp only [c3] at q
              cases c4 : putS ρ1 i x' with
              | none => simp only [c4] at q; exact q.elim
              | some ρ2 =>
                simp only [c4] at q
                have ro : RepO Z.K (hide (Hd (Tl (Tl T l) l1) fs1) H1) H1 o v l := RepO.mono (hdfr (ρ := []) (ρ' := []) f1) o v l (f1.air no) r.ar
                have rr : Rp Z.K (Tl T l) P ρ1 σ H1 fs1 := r1.rp.unl
                have gx : Ex (hide (Hd (Tl (Tl T l) l1) fs1) H1) (hide (Hd (Tl T l) fs1) H1) := hide_ex fun a y hn e => ⟨fun z => hn (z.imp Or.inl id), e⟩
                have ros : RepOs Z.K (hide (Hd (Tl T l) fs1) H1) H1 [.fz k, o] [vk, v] l := ⟨vk, [v], [], l, rfl, rfl, ⟨rfl, RepD.mono gx k vk sk⟩, v, [], l, [], rfl, (List.append_nil l).symm, RepO.mono gx o v l (fun _ _ _ e => e) ro, rfl, rfl⟩
                have ff : Fr H (fun b => Ow l fs b) H1 (Ow l fs1) := fun b x e n => by
                  obtain ⟨h1, n1⟩ := f1 b x e fun z => n (.inr z)
                  exact ⟨h1, fun z => z.elim (fun z => n (.inl z)) fun z => n1 (.inr z)⟩
                obtain ⟨q1, q2, q3⟩ := Rp.mutate (H0 := H1) (fs0 := fun j => fs1 j ++ l) (o' := o') (Q := fun w H' => Q σ H') rr r.nd r.nt c2 hv c4 (Fr.refl.imp (fun x z => by
                  rcases z with z | ⟨j, hj⟩
                  · exact ⟨0, List.mem_append_right _ z⟩
                  · exact ⟨j, List.mem_append_left _ hj⟩)) (fun w H' fs' l' rA fr => q σ H' fs' (SB.refl _ _) rA.rp.unl fun b x e n => by
                    obtain ⟨h1, n1⟩ := ff b x e n
                    obtain ⟨h2, n2⟩ := fr b x h1 fun ⟨j, hj⟩ => n1 ((List.mem_append.mp hj).elim (fun z => .inr ⟨j, z⟩) .inl)
                    exact ⟨h2, fun z => n2 (.inr z)⟩)
                obtain ⟨k', w', e, z⟩ := ho _ H1 x vx (fs1 i) [.fz k, o] [vk, v] l x' o' (fun w H' => Q σ H') hide_le q1 ros q2 c3 q3
                cases e
                exact z
        | _ => simp only [c1] at q; exact q.elim
section
variable {X : Cx} {W : WX} {pos : Pos} {e : Expr}
theorem de_mut {T : String} {r : V → List V → Hp → VK → Prop} {op : OT → List OT → Option (OT × OT)} (hk : MutOk X.K r op) {i : Nat} {g : M (List Arg)} (h : PE X e (tBM X.K T r (tVar i) (tDA (zp X W) g))) : DE X W e (xMut T i op g) := pe_imp h fun _ _ _ q => tMut_op (Z := zp X W) hk q
theorem dg_ix {ts : TSet} {op : OT → List OT → Option (OT × OT)} (hk : MutOk X.K (fun x vs H Q => ∃ k w, vs = [k, w] ∧ ts x k w H fun H' => Q .non H') op) {i : Nat} {fk : M Arg} (h : PG X e (gSub (tVar i) (tD (zp X W) fk) ts)) : DG X W e [] (gIx i fk op) :=
  pg_imp h fun v σ H Q q => gIx_op (Z := zp X W) hk q
end
end Lay
namespace Lay
open PySem PySem.Spec L2
/-- r: what it hands back; out: what its changed argument is then (none: fz non) -/
inductive FR where
  | ok (r : OT) (out : OT)
  | ex (x : Exn) (out : OT)
  | bad
abbrev FD := List OT → FR
def mkFrom (io : Option Nat) : Nat → List OT → Env
  | _, [] => []
  | i, o :: r => (if io = some i then .io o else .vl o) :: mkFrom io (i + 1) r
def mkEnv (io : Option Nat) (os : List OT) : Env := mkFrom io 0 os
def outFrom (io : Option Nat) (out : OT) : Nat → Nat → Env
  | _, 0 => []
  | i, n + 1 => (if io = some i then .io out else .un) :: outFrom io out (i + 1) n
def outEnv (io : Option Nat) (n : Nat) (out : OT) : Env := outFrom io out 0 n
def spF (K : PySem.W.Frag) (mg : Str → Option Value) (io : Option Nat) (n : Nat) (F : FD) : Sp := fun vs H Q E => ∃ T P fs os, os.length = n ∧ vs.length = n ∧ (∀ i, P i = if io = some i then (vs[i]?.map fun v => (v, none)) else none) ∧ Rp K T P (mkEnv io os) (vs.map some) H fs ∧ match F os with
  | .ok r out => ∀ v H' fs' l, RpA K T P (outEnv io n out) (vs.map some) H' fs' (.tmp r) v l → Fr H (Own fs) H' (Ow l fs') → Q v H'
  | .ex x out => ∀ cls d H' fs', RpX K mg (hide (Hd T fs') H') H' x cls d → Rp K T P (outEnv io n out) (vs.map some) H' fs' → Fr H (Own fs) H' (Own fs') → E cls d H'
  | .bad => False
structure FnD (P : Program) (w : World) (K : PySem.W.Frag) (mg : Str → Option Value) (base : Heap) (x : Str) (k : Nat) (io : Option Nat) (n : Nat) (F : FD) : Prop where
  ex : ∃ (f : Addr) (fd : FuncData) (ps : List Str), FnOk P w K mg base (L2.CX P w) k f fd ps (spF K mg io n F) ∧ mg x = some (.ref f) ∧ PySem.W.keepIn K (.ref f) = true ∧ Binds K fd ps [] ∧ ps.length = n
def slotsOf : List Arg → List Nat
  | [] => []
  | .slot j :: r => j :: slotsOf r
  | .tmp _ :: r => slotsOf r
def ioSlot (io : Option Nat) (as : List Arg) : Option Nat := match io with
  | none => none
  | some i => match as[i]? with
    | some (.slot j) => some j
    | _ => none
/-- the arguments as the callee sees them -/
def passFrom (ρ : Env) (io : Option Nat) : Nat → List Arg → Option (List OT)
  | _, [] => some []
  | i, a :: r => match look ρ a, passFrom ρ io (i + 1) r with
    | some o, some os => some ((if io = some i then o else .fz (frz o)) :: os)
    | _, _ => none
def cntS (j : Nat) (l : List Nat) : Nat := (l.filter (· == j)).length
def okIo (ρ : Env) (io : Option Nat) (as : List Arg) : Bool := match io with
  | none => true
  | some i => match as[i]? with
    | some (.slot j) => (cntS j (slotsOf as) == 1) && (match ρ[j]? with
      | some (.vl _) => true
      | some (.io _) => true
      | _ => false)
    | _ => false
def frz1 (ρ : Env) (k : Nat) : Option Env := match ρ[k]? with
  | some (.vl (.fz _)) => some ρ
  | some (.io (.fz _)) => some ρ
  | some (.lk (.fz _)) => some ρ
  | some (.vl o) => some (ρ.set k (.vl (.fz (frz o))))
  | _ => none
def frzAll (j : Option Nat) : List Nat → Env → Option Env
  | [], ρ => some ρ
  | k :: r, ρ => if j = some k then frzAll j r ρ else match frz1 ρ k with
    | some ρ1 => frzAll j r ρ1
    | none => none
def putIo (ρ : Env) (j : Option Nat) (out : OT) : Option Env := match j with
  | none => some ρ
  | some j => putS ρ j out
def backA (ρ : Env) (io : Option Nat) (as : List Arg) (sol : Bool) (out : OT) : Option Env :=
  if sol then putIo ρ (ioSlot io as) out else (frzAll (ioSlot io as) (slotsOf as) ρ).bind fun ρ1 => putIo ρ1 (ioSlot io as) out
theorem mkFrom_get (io : Option Nat) : ∀ (os : List OT) (i k : Nat), (mkFrom io i os)[k]? = (os[k]?).map fun o => if io = some (i + k) then Sl.io o else Sl.vl o
  | [], i, k => by simp [mkFrom]
  | o :: r, i, 0 => by simp [mkFrom]
  | o :: r, i, k + 1 => by
    show (mkFrom io (i + 1) r)[k]? = _
    rw [mkFrom_get io r (i + 1) k]
    simp only [List.getElem?_cons_succ]
    congr 1
    funext o
    rw [show i + 1 + k = i + (k + 1) by omega]
theorem outFrom_get (io : Option Nat) (out : OT) : ∀ (n i k : Nat), (outFrom io out i n)[k]? = if k < n then some (if io = some (i + k) then Sl.io out else Sl.un) else none
  | 0, i, k => by simp [outFrom]
  | n + 1, i, 0 => by simp [outFrom]
  | n + 1, i, k + 1 => by
    show (outFrom io out (i + 1) n)[k]? = _
    rw [outFrom_get io out n (i + 1) k]
    rw [show i + 1 + k = i + (k + 1) by omega]
    by_cases h : k < n
    · rw [if_pos h, if_pos (Nat.succ_lt_succ h)]
    · rw [if_neg h, if_neg (fun z => h (Nat.lt_of_succ_lt_succ z))]
theorem passFrom_get (ρ : Env) (io : Option Nat) : ∀ (as : List Arg) (i : Nat) (os : List OT), passFrom ρ io i as = some os → os.length = as.length ∧ ∀ (k : Nat) (a : Arg), as[k]? = some a → ∃ o, look ρ a = some o ∧ os[k]? = some (if io = some (i + k) then o else .fz (frz o))
  | [], i, os, h => by
    cases h
    exact ⟨rfl, fun k a e => by simp at e⟩
  | a :: r, i, os, h => by
    unfold passFrom at h
    cases c1 : look ρ a with
    | none => simp [c1] at h
    | some o =>
      cases c2 : passFrom ρ io (i + 1) r with
      | none => simp [c1, c2] at h
      | some os' =>
        simp only [c1, c2, Option.some.injEq] at h
        subst h
        obtain ⟨h1, h2⟩ := passFrom_get ρ io r (i + 1) os' c2
        refine ⟨by rw [List.length_cons, List.length_cons, h1], fun k b e => ?_⟩
        cases k with
        | zero =>
          simp only [List.getElem?_cons_zero, Option.some.injEq] at e
          subst e
          exact ⟨o, c1, rfl⟩
        | succ k =>
          rw [List.getElem?_cons_succ] at e
          obtain ⟨o', e1, e2⟩ := h2 k b e
          refine ⟨o', e1, ?_⟩
          rw [List.getElem?_cons_succ, e2, show i + 1 + k = i + (k + 1) by omega]
theorem ARs.get {K : PySem.W.Frag} {T : Addr → Prop} {σ : St} {H : Hp} {fs : Nat → List Addr} : ∀ {as : List Arg} {vs : List V} {l : List Addr}, ARs K T σ H fs as vs l → vs.length = as.length ∧ ∀ (k : Nat) (a : Arg), as[k]? = some a → ∃ (v : V) (la : List Addr), vs[k]? = some v ∧ AR K T σ H fs a v la ∧ ∀ b ∈ la, b ∈ l
  | [], vs, l, h => by
    obtain ⟨rfl, rfl⟩ := h
    exact ⟨rfl, fun k a e => by simp at e⟩
  | a :: r, vs, l, h => by
    obtain ⟨v, r', l1, l2, rfl, rfl, q1, q2⟩ := h
    obtain ⟨h1, h2⟩ := ARs.get q2
    refine ⟨by rw [List.length_cons, List.length_cons, h1], fun k b e => ?_⟩
    cases k with
    | zero =>
      simp only [List.getElem?_cons_zero, Option.some.injEq] at e
      subst e
      exact ⟨v, l1, rfl, q1, fun b hb => List.mem_append_left _ hb⟩
    | succ k =>
      rw [List.getElem?_cons_succ] at e
      obtain ⟨v', la, e1, e2, e3⟩ := h2 k b e
      exact ⟨v', la, by rw [List.getElem?_cons_succ]; exact e1, e2, fun b hb => List.mem_append_right _ (e3 b hb)⟩
theorem mem_slotsOf {j : Nat} : ∀ {as : List Arg} {k : Nat}, as[k]? = some (.slot j) → j ∈ slotsOf as
  | [], k, h => by simp at h
  | a :: r, 0, h => by
    simp only [List.getElem?_cons_zero, Option.some.injEq] at h
    subst h
    exact List.mem_cons_self
  | a :: r, k + 1, h => by
    rw [List.getElem?_cons_succ] at h
    have := mem_slotsOf h
    cases a with
    | slot i => exact List.mem_cons_of_mem _ this
    | tmp o => exact this
theorem cntS_pos {j : Nat} {l : List Nat} (h : j ∈ l) : 0 < cntS j l := by
  unfold cntS
  exact List.length_pos_of_mem (List.mem_filter.mpr ⟨h, by simp⟩)
theorem cntS_two {j : Nat} : ∀ {as : List Arg} {i k : Nat}, as[i]? = some (.slot j) → as[k]? = some (.slot j) → cntS j (slotsOf as) = 1 → i = k
  | [], i, k, h, _, _ => by simp at h
  | a :: r, 0, 0, _, _, _ => rfl
  | a :: r, 0, k + 1, h1, h2, h => by
    simp only [List.getElem?_cons_zero, Option.some.injEq] at h1
    subst h1
    rw [List.getElem?_cons_succ] at h2
    have q := cntS_pos (mem_slotsOf h2)
    have : cntS j (slotsOf (.slot j :: r)) = cntS j (slotsOf r) + 1 := by simp [slotsOf, cntS]
    omega
  | a :: r, i + 1, 0, h1, h2, h => by
    simp only [List.getElem?_cons_zero, Option.some.injEq] at h2
    subst h2
    rw [List.getElem?_cons_succ] at h1
    have q := cntS_pos (mem_slotsOf h1)
    have : cntS j (slotsOf (.slot j :: r)) = cntS j (slotsOf r) + 1 := by simp [slotsOf, cntS]
    omega
  | a :: r, i + 1, k + 1, h1, h2, h => by
    rw [List.getElem?_cons_succ] at h1 h2
    have h' : cntS j (slotsOf r) = 1 := by
      have q := cntS_pos (mem_slotsOf h1)
      cases a with
      | slot m =>
        by_cases e : m = j
        · subst e
          have : cntS m (slotsOf (.slot m :: r)) = cntS m (slotsOf r) + 1 := by simp [slotsOf, cntS]
          omega
        · have : cntS j (slotsOf (.slot m :: r)) = cntS j (slotsOf r) := by simp [slotsOf, cntS, e]
          omega
      | tmp o => exact h
    rw [cntS_two h1 h2 h']
/-- the callee's own share -/
def csT (T : Addr → Prop) (fs : Nat → List Addr) (as : List Arg) : Addr → Prop := fun a => T a ∨ ∃ k, a ∈ fs k ∧ k ∉ slotsOf as
def csF (io : Option Nat) (as : List Arg) (fs : Nat → List Addr) : Nat → List Addr := fun i => if io = some i then (match as[i]? with
  | some (.slot j) => fs j
  | _ => []) else []
theorem csF_own {io : Option Nat} {as : List Arg} {fs : Nat → List Addr} {a : Addr} (h : Own (csF io as fs) a) : ∃ i j, io = some i ∧ as[i]? = some (.slot j) ∧ a ∈ fs j := by
  obtain ⟨i, hi⟩ := h
  unfold csF at hi
  by_cases e : io = some i
  · rw [if_pos e] at hi
    cases ea : as[i]? with
    | none => rw [ea] at hi; cases hi
    | some x =>
      cases x with
      | slot j => rw [ea] at hi; exact ⟨i, j, e, ea, hi⟩
      | tmp o => rw [ea] at hi; cases hi
  · rw [if_neg e] at hi; cases hi
section
variable {K : PySem.W.Frag} {T : Addr → Prop} {P : Pins} {ρ : Env} {σ : St} {H H0 : Hp} {fs fs0 : Nat → List Addr} {io : Option Nat} {as : List Arg} {vs : List V} {l : List Addr} {os : List OT}
def csP (io : Option Nat) (vs : List V) : Pins := fun i => if io = some i then (vs[i]?.map fun v => (v, none)) else none
/-- whose footprint an argument has -/
def fpA (fs : Nat → List Addr) (la : List Addr) : Arg → List Addr
  | .slot j => fs j
  | .tmp _ => la
theorem AR.rep {a : Arg} {v : V} {la : List Addr} {o : OT} {T : Addr → Prop} (r : Rp K T P ρ σ H fs) (h : AR K T σ H fs a v la) (e : look ρ a = some o) : RepO K (hide (Hd T fs) H) H o v (fpA fs la a) := by
  cases a with
  | tmp o' => cases e; exact h
  | slot j =>
    obtain ⟨rfl, hσ⟩ := h
    have hl : slv ρ[j]? = some o := e
    cases es : ρ[j]? with
    | none => rw [es] at hl; cases hl
    | some s =>
      obtain ⟨y, hy, q⟩ := r.slot j s es
      rw [es] at hl
      obtain ⟨w, hw, q⟩ := slv_of q hl
      rw [hσ] at hy
      cases hy
      cases hw
      exact q
/-- what the callee finds -/
theorem Rp.callee (r : Rp K (Tl T l) P ρ σ H fs) (nt : ∀ b ∈ l, ¬ T b) (ha : ARs K (Tl T l) σ H fs as vs l) (hk : okIo ρ io as = true) (hp : passFrom ρ io 0 as = some os) :
    Rp K (csT T fs as) (csP io vs) (mkEnv io os) (vs.map some) H (csF io as fs) := by
  obtain ⟨lv, hv⟩ := ha.get
  obtain ⟨lo, ho⟩ := passFrom_get ρ io as 0 os hp
  have ex : Ex (hide (Hd (Tl T l) fs) H) (hide (Hd (csT T fs as) (csF io as fs)) H) := hide_ex fun a x n e => ⟨fun z => by
    rcases z with (z | ⟨k, z, _⟩) | z
    · exact n (.inl (.inl z))
    · exact n (.inr ⟨k, z⟩)
    · obtain ⟨i, j, _, _, hj⟩ := csF_own z
      exact n (.inr ⟨j, hj⟩), e⟩
  have cnt : ∀ i j, io = some i → as[i]? = some (.slot j) → cntS j (slotsOf as) = 1 := fun i j e1 e2 => by
    subst e1
    simp only [okIo, e2, Bool.and_eq_true, beq_iff_eq] at hk
    exact hk.1
  refine ⟨fun i s e => ?_, fun i e => ?_, fun i => ?_, fun i k a h1 h2 => ?_, fun a o t => ?_, fun a t => ?_, fun i p e => ?_⟩
  · unfold mkEnv at e
    rw [mkFrom_get] at e
    cases eo : os[i]? with
    | none => rw [eo] at e; cases e
    | some o =>
      rw [eo] at e
      simp only [Option.map_some, Nat.zero_add, Option.some.injEq] at e
      have hlt : i < as.length := by rw [← lo]; exact (List.getElem?_eq_some_iff.mp eo).1
      have eas : as[i]? = some as[i] := List.getElem?_eq_getElem hlt
      obtain ⟨v, la, hvi, har, hla⟩ := hv i _ eas
      obtain ⟨o', hl, ho'⟩ := ho i _ eas
      rw [eo, Nat.zero_add] at ho'
      refine ⟨some v, by rw [List.getElem?_map, hvi]; rfl, ?_⟩
      have rf := AR.rep r har hl
      by_cases hio : io = some i
      · rw [if_pos hio] at e ho'
        subst e
        cases ho'
        -- it is a slot
        have : ∃ j, as[i] = .slot j := by
          subst hio
          unfold okIo at hk
          simp only [eas] at hk
          cases ha' : as[i] with
          | slot j => exact ⟨j, rfl⟩
          | tmp o => rw [ha'] at hk; cases hk
        obtain ⟨j, hj⟩ := this
        rw [hj] at eas har hl rf
        have eF : csF io as fs i = fs j := by unfold csF; rw [if_pos hio, eas]
        rw [eF]
        exact ⟨v, rfl, by unfold csP; rw [if_pos hio, hvi]; rfl, RepO.mono ex o v _ (fun _ _ _ e => e) rf⟩
      · rw [if_neg hio] at e ho'
        subst e
        cases ho'
        have eF : csF io as fs i = [] := by unfold csF; rw [if_neg hio]
        rw [eF]
        refine ⟨v, rfl, by unfold csP; rw [if_neg hio], rfl, RepO.freeze ex o' v _ (fun a haf x e => (hide_no ?_).trans e) rf⟩
        -- a is not hidden from the callee
        cases ha' : as[i] with
        | tmp o2 =>
          rw [ha'] at haf
          have hal : a ∈ l := hla a haf
          have no := r.noair a hal
          rintro ((z | ⟨k, z, _⟩) | z)
          · exact nt a hal z
          · exact no ⟨k, z⟩
          · obtain ⟨_, j, _, _, hj⟩ := csF_own z
            exact no ⟨j, hj⟩
        | slot j =>
          rw [ha'] at haf eas
          have haf : a ∈ fs j := haf
          rintro ((z | ⟨k, z, hk'⟩) | z)
          · exact r.tf a ⟨j, haf⟩ (.inl z)
          · rw [r.dj k j a z haf] at hk'
            exact hk' (mem_slotsOf eas)
          · obtain ⟨i', j', e1, e2, hj⟩ := csF_own z
            rw [r.dj j' j a hj haf] at e2
            have := cntS_two e2 eas (cnt i' j e1 e2)
            subst this
            exact hio e1
  · unfold mkEnv at e
    rw [mkFrom_get] at e
    unfold csF
    by_cases hio : io = some i
    · rw [if_pos hio]
      have : as[i]? = none := by
        rw [List.getElem?_eq_none_iff, ← lo]
        cases eo : os[i]? with
        | none => exact List.getElem?_eq_none_iff.mp eo
        | some o => rw [eo] at e; cases e
      rw [this]
    · rw [if_neg hio]
  · unfold csF
    by_cases hio : io = some i
    · rw [if_pos hio]
      cases ea : as[i]? with
      | none => exact .nil
      | some x => cases x with
        | slot j => exact r.nd j
        | tmp o => exact .nil
    · rw [if_neg hio]; exact .nil
  · have q1 : io = some i := by
      unfold csF at h1
      by_cases hio : io = some i
      · exact hio
      · rw [if_neg hio] at h1; cases h1
    have q2 : io = some k := by
      unfold csF at h2
      by_cases hio : io = some k
      · exact hio
      · rw [if_neg hio] at h2; cases h2
    exact Option.some.inj (q1.symm.trans q2)
  · obtain ⟨i, j, e1, e2, hj⟩ := csF_own o
    rcases t with t | ⟨k, z, hk'⟩
    · exact r.tf a ⟨j, hj⟩ (.inl t)
    · rw [r.dj k j a z hj] at hk'
      exact hk' (mem_slotsOf e2)
  · rcases t with t | ⟨k, z, _⟩
    · exact r.ta a (.inl t)
    · exact r.owned ⟨k, z⟩
  · unfold csP at e
    by_cases hio : io = some i
    · rw [if_pos hio] at e
      cases ev : vs[i]? with
      | none => rw [ev] at e; cases e
      | some v =>
        have hlt : i < os.length := by rw [lo, ← lv]; exact (List.getElem?_eq_some_iff.mp ev).1
        unfold mkEnv
        rw [mkFrom_get, List.getElem?_eq_getElem hlt]
        exact ⟨_, rfl⟩
    · rw [if_neg hio] at e; cases e
theorem frz1_ok {k : Nat} {ρ1 : Env} (r : Rp K T P ρ σ H fs) (e : frz1 ρ k = some ρ1) : ∃ fs1, Rp K T P ρ1 σ H fs1 ∧ (∀ m, fs1 m = [] ∨ fs1 m = fs m) ∧ fs1 k = [] ∧ (∀ m, m ≠ k → fs1 m = fs m) ∧ (∀ m, m ≠ k → ρ1[m]? = ρ[m]?) := by
  unfold frz1 at e
  cases es : ρ[k]? with
  | none => simp [es] at e
  | some s =>
    have same : ∀ d, slv (some s) = some (.fz d) → fs k = [] := fun d e2 => by
      obtain ⟨x, hx, q⟩ := r.slot k s es
      obtain ⟨w, hw, q⟩ := slv_of q e2
      exact q.1
    have fin : ∀ d, slv (some s) = some (.fz d) → ρ1 = ρ → ∃ fs1, Rp K T P ρ1 σ H fs1 ∧ (∀ m, fs1 m = [] ∨ fs1 m = fs m) ∧ fs1 k = [] ∧ (∀ m, m ≠ k → fs1 m = fs m) ∧ (∀ m, m ≠ k → ρ1[m]? = ρ[m]?) := fun d e2 e3 => by
      subst e3
      exact ⟨fs, r, fun m => .inr rfl, same d e2, fun _ _ => rfl, fun _ _ => rfl⟩
    have fr : ∀ o, s = .vl o → ρ1 = ρ.set k (.vl (.fz (frz o))) → ∃ fs1, Rp K T P ρ1 σ H fs1 ∧ (∀ m, fs1 m = [] ∨ fs1 m = fs m) ∧ fs1 k = [] ∧ (∀ m, m ≠ k → fs1 m = fs m) ∧ (∀ m, m ≠ k → ρ1[m]? = ρ[m]?) := fun o e2 e3 => by
      subst e2 e3
      obtain ⟨h1, _, _⟩ := r.freeze es
      refine ⟨_, h1, fun m => ?_, fset_same, fun m hm => fset_ne hm, fun m hm => List.getElem?_set_ne (Ne.symm hm)⟩
      by_cases e : m = k
      · exact .inl (by rw [e]; exact fset_same)
      · exact .inr (fset_ne e)
    cases s with
    | un => simp [es] at e
    | vl o =>
      cases o with
      | fz d => simp only [es, Option.some.injEq] at e; exact fin d rfl e.symm
      | lst os => simp only [es, Option.some.injEq] at e; exact fr _ rfl e.symm
      | dic os => simp only [es, Option.some.injEq] at e; exact fr _ rfl e.symm
    | io o =>
      cases o with
      | fz d => simp only [es, Option.some.injEq] at e; exact fin d rfl e.symm
      | _ => simp [es] at e
    | lk o =>
      cases o with
      | fz d => simp only [es, Option.some.injEq] at e; exact fin d rfl e.symm
      | _ => simp [es] at e
theorem frzAll_ok {j : Option Nat} : ∀ {ks : List Nat} {ρ ρ1 : Env} {fs : Nat → List Addr}, Rp K T P ρ σ H fs → frzAll j ks ρ = some ρ1 → ∃ fs1, Rp K T P ρ1 σ H fs1 ∧ (∀ m, fs1 m = [] ∨ fs1 m = fs m) ∧ (∀ k ∈ ks, j ≠ some k → fs1 k = []) ∧
    (∀ m, j = some m → fs1 m = fs m ∧ ρ1[m]? = ρ[m]?)
  | [], ρ, ρ1, fs, r, e => by
    cases e
    exact ⟨fs, r, (fun _ => .inr rfl), (fun _ z => nomatch z), (fun _ _ => ⟨rfl, rfl⟩)⟩
  | k :: ks, ρ, ρ1, fs, r, e => by
    unfold frzAll at e
    by_cases hj : j = some k
    · rw [if_pos hj] at e
      obtain ⟨fs1, h1, h2, h3, h4⟩ := frzAll_ok r e
      exact ⟨fs1, h1, h2, fun m hm hn => (List.mem_cons.mp hm).elim (fun z => absurd (by rw [z]; exact hj) hn) fun z => h3 m z hn, h4⟩
    · rw [if_neg hj] at e
      cases c : frz1 ρ k with
      | none => simp [c] at e
      | some ρ2 =>
        simp only [c] at e
        obtain ⟨fs2, g1, g2, g3, g4, g5⟩ := frz1_ok r c
        obtain ⟨fs1, h1, h2, h3, h4⟩ := frzAll_ok g1 e
        refine ⟨fs1, h1, fun m => ?_, fun m hm hn => ?_, fun m hm => ?_⟩
        · rcases h2 m with z | z
          · exact .inl z
          · rw [z]; exact g2 m
        · rcases List.mem_cons.mp hm with z | z
          · subst z
            rcases h2 m with z | z
            · exact z
            · rw [z, g3]
          · exact h3 m z hn
        · have ne : m ≠ k := fun z => hj (by rw [← z]; exact hm)
          obtain ⟨q1, q2⟩ := h4 m hm
          exact ⟨by rw [q1, g4 m ne], by rw [q2, g5 m ne]⟩
/-- behind the call: ρ1 are the caller's names as they are kept -/
theorem Rp.back {fs1 : Nat → List Addr} {ρ1 ρ2 : Env} {n : Nat} {out r : OT} {v : V} {H' : Hp} {fsc : Nat → List Addr} {l' : List Addr}
    (rr : Rp K (Tl T l) P ρ σ H fs) (nt : ∀ b ∈ l, ¬ T b) (ha : ARs K (Tl T l) σ H fs as vs l) (hk : okIo ρ io as = true) (hlen : as.length = n)
    (r1 : Rp K (Tl T l) P ρ1 σ H fs1) (sub : ∀ m, fs1 m = [] ∨ fs1 m = fs m) (hj : ∀ m, ioSlot io as = some m → fs1 m = fs m ∧ ρ1[m]? = ρ[m]?)
    (sol : (solidO r && solidO out) = true ∨ ∀ k ∈ slotsOf as, ioSlot io as ≠ some k → fs1 k = []) (hp : putIo ρ1 (ioSlot io as) out = some ρ2)
    (rc : RpA K (csT T fs as) (csP io vs) (outEnv io n out) (vs.map some) H' fsc (.tmp r) v l') (fr : Fr H (Own (csF io as fs)) H' (Ow l' fsc)) :
    ∃ fs', RpA K T P ρ2 σ H' fs' (.tmp r) v l' ∧ Fr H (Ow l fs) H' (Ow l' fs') ∧
      ∀ (o : OT) (u : V) (f : List Addr), (solidO o = true ∨ ∀ k ∈ slotsOf as, ioSlot io as ≠ some k → fs1 k = []) → RepO K (hide (Hd (Tl (csT T fs as) l') fsc) H') H' o u f → RepO K (hide (Hd (Tl T l') fs') H') H' o u f := by
  -- the callee owns behind the call what its changed argument does
  have fsc0 : ∀ k, io ≠ some k → fsc k = [] := fun k hk => by
    by_cases h : k < n
    · have e : (outEnv io n out)[k]? = some .un := by
        unfold outEnv
        rw [outFrom_get, if_pos h, Nat.zero_add, if_neg hk]
      obtain ⟨x, _, q⟩ := rc.rp.slot k _ e
      exact q.1
    · exact rc.rp.out k (by
        unfold outEnv
        rw [outFrom_get, if_neg h])
  have csO : ∀ a, Own (csF io as fs) a → ∃ j, ioSlot io as = some j ∧ a ∈ fs j := fun a z => by
    obtain ⟨i, j, e1, e2, e3⟩ := csF_own z
    refine ⟨j, ?_, e3⟩
    unfold ioSlot
    subst e1
    simp only [e2]
  -- the place of the changed argument
  have place : ∀ j, ioSlot io as = some j → ∃ i, io = some i ∧ as[i]? = some (.slot j) := fun j e => by
    unfold ioSlot at e
    cases io with
    | none => cases e
    | some i =>
      simp only at e
      cases ea : as[i]? with
      | none => rw [ea] at e; cases e
      | some x =>
        cases x with
        | slot j' => rw [ea] at e; cases e; exact ⟨i, rfl, ea⟩
        | tmp o => rw [ea] at e; cases e
  have keepk : ∀ k, ioSlot io as ≠ some k → ∀ a ∈ fs k, ∀ x, H a = some x → H' a = some x ∧ ¬ Ow l' fsc a := fun k hk' a hak x e => fr a x e fun z => by
    obtain ⟨j, e1, e2⟩ := csO a z
    exact hk' (by rw [e1, rr.dj j k a e2 hak])
  have keepT : ∀ a, T a → ∀ x, H a = some x → H' a = some x ∧ ¬ Ow l' fsc a := fun a t x e => fr a x e fun z => by
    obtain ⟨j, e1, e2⟩ := csO a z
    exact rr.tf a ⟨j, e2⟩ (.inl t)
  let jf : Nat → List Addr := fun k => (io.map fsc).getD []
  let fs' : Nat → List Addr := fun k => if ioSlot io as = some k then jf k else fs1 k
  have fs'j : ∀ j i, ioSlot io as = some j → io = some i → fs' j = fsc i := fun j i e1 e2 => by
    show (if ioSlot io as = some j then jf j else fs1 j) = fsc i
    rw [if_pos e1]
    show (io.map fsc).getD [] = fsc i
    rw [e2]
    rfl
  have fs'k : ∀ k, ioSlot io as ≠ some k → fs' k = fs1 k := fun k e1 => if_neg e1
  have own' : ∀ a, Own fs' a → Own fsc a ∨ ∃ k, ioSlot io as ≠ some k ∧ a ∈ fs1 k := fun a ⟨k, hk'⟩ => by
    by_cases e : ioSlot io as = some k
    · obtain ⟨i, e1, e2⟩ := place k e
      rw [fs'j k i e e1] at hk'
      exact .inl ⟨i, hk'⟩
    · rw [fs'k k e] at hk'
      exact .inr ⟨k, e, hk'⟩
  have in1 : ∀ k a, a ∈ fs1 k → a ∈ fs k := fun k a h => by
    rcases sub k with z | z
    · rw [z] at h; cases h
    · rw [z] at h; exact h
  have there : ∀ k a, a ∈ fs k → ∃ x, H a = some x := fun k a h => rr.owned ⟨k, h⟩
  have notin : ∀ k, ioSlot io as ≠ some k → ∀ a ∈ fs1 k, ¬ Ow l' fsc a := fun k hk' a h => by
    obtain ⟨x, e⟩ := there k a (in1 k a h)
    exact (keepk k hk' a (in1 k a h) x e).2
  have exC : ∀ a x, H a = some x → ¬ Ow l fs a → H' a = some x ∧ ¬ Ow l' fs' a := fun a x e n => by
    obtain ⟨h1, n1⟩ := fr a x e fun z => by
      obtain ⟨j, _, e2⟩ := csO a z
      exact n (.inr ⟨j, e2⟩)
    refine ⟨h1, ?_⟩
    rintro (z | z)
    · exact n1 (.inl z)
    · rcases own' a z with z | ⟨k, _, z⟩
      · exact n1 (.inr z)
      · exact n (.inr ⟨k, in1 k a z⟩)
  have ex1 : Ex (hide (Hd (Tl T l) fs1) H) (hide (Hd (Tl T l') fs') H') := hide_ex fun a x n e => by
    -- what the caller may read
    by_cases hb : Own fs a
    · obtain ⟨k, hk'⟩ := hb
      have nk : ioSlot io as ≠ some k := fun z => n (.inr ⟨k, by rw [(hj k z).1]; exact hk'⟩)
      obtain ⟨h1, n1⟩ := keepk k nk a hk' x e
      refine ⟨?_, h1⟩
      rintro ((z | z) | z)
      · exact n (.inl (.inl z))
      · exact n1 (.inl z)
      · rcases own' a z with z | ⟨m, _, z⟩
        · exact n1 (.inr z)
        · exact n (.inr ⟨m, z⟩)
    · have n0 : ¬ Ow l fs a := fun z => z.elim (fun z => n (.inl (.inr z))) hb
      obtain ⟨h1, n1⟩ := exC a x e n0
      refine ⟨?_, h1⟩
      rintro ((z | z) | z)
      · exact n (.inl (.inl z))
      · exact n1 (.inl z)
      · exact n1 (.inr z)
  -- what the callee gives is seen by the caller
  have gets : ∀ (o : OT) (u : V) (f : List Addr), (solidO o = true ∨ ∀ k ∈ slotsOf as, ioSlot io as ≠ some k → fs1 k = []) → RepO K (hide (Hd (Tl (csT T fs as) l') fsc) H') H' o u f → RepO K (hide (Hd (Tl T l') fs') H') H' o u f := fun o u f hs h => by
    have cand : ∀ a x, ¬ Hd (Tl (csT T fs as) l') fsc a → H' a = some x → (Hd (Tl T l') fs' a → ∃ k, ioSlot io as ≠ some k ∧ a ∈ fs1 k ∧ k ∈ slotsOf as) := fun a x n e z => by
      rcases z with (z | z) | z
      · exact absurd (show Hd (Tl (csT T fs as) l') fsc a from .inl (.inl (.inl z))) n
      · exact absurd (show Hd (Tl (csT T fs as) l') fsc a from .inl (.inr z)) n
      · rcases own' a z with z | ⟨k, hk', z⟩
        · exact absurd (show Hd (Tl (csT T fs as) l') fsc a from .inr z) n
        · refine ⟨k, hk', z, ?_⟩
          by_cases hm : k ∈ slotsOf as
          · exact hm
          · exact absurd (show Hd (Tl (csT T fs as) l') fsc a from .inl (.inl (.inr ⟨k, in1 k a z, hm⟩))) n
    rcases hs with hs | hs
    · refine RepO.solid (fun a xs q => ?_) o u f hs h
      have up : ∀ y, hide (Hd (Tl (csT T fs as) l') fsc) H' a = some y → ((∃ zs, y = .tup zs) ∨ ∃ ob zs, y = .frz ob (.tup zs)) → hide (Hd (Tl T l') fs') H' a = some y := fun y q hy => by
        obtain ⟨q1, q2⟩ := of_hide q
        refine (hide_no fun z => ?_).trans q2
        obtain ⟨k, hk', z, _⟩ := cand a y q1 q2 z
        have own : Own fs a := ⟨k, in1 k a z⟩
        rcases rr.owns own with ⟨u', e⟩ | ⟨u', e⟩ | ⟨u', e⟩ | ⟨u', e⟩ <;>
          (have e2 := (keepk k hk' a (in1 k a z) _ e).1
           rw [q2] at e2
           rcases hy with ⟨zs, hy⟩ | ⟨ob, zs, hy⟩ <;> (rw [hy] at e2; cases e2))
      rcases q with q | ⟨ob, q⟩
      · exact .inl (up _ q (.inl ⟨_, rfl⟩))
      · exact .inr ⟨ob, up _ q (.inr ⟨_, _, rfl⟩)⟩
    · refine RepO.mono (hide_ex fun a x n e => ⟨fun z => ?_, e⟩) o u f (fun _ _ _ e => e) h
      obtain ⟨k, hk', z, hm⟩ := cand a x n e z
      rw [hs k hm hk'] at z
      cases z
  have sol1 : solidO r = true ∨ ∀ k ∈ slotsOf as, ioSlot io as ≠ some k → fs1 k = [] := sol.imp (fun z => (Bool.and_eq_true _ _ ▸ z : _ ∧ _).1) id
  have sol2 : solidO out = true ∨ ∀ k ∈ slotsOf as, ioSlot io as ≠ some k → fs1 k = [] := sol.imp (fun z => (Bool.and_eq_true _ _ ▸ z : _ ∧ _).2) id
  -- the slots
  have ρ2k : ∀ k, ioSlot io as ≠ some k → ρ2[k]? = ρ1[k]? := fun k hk' => by
    cases hio : ioSlot io as with
    | none => rw [hio] at hp; cases hp; rfl
    | some j =>
      rw [hio] at hp hk'
      have ne : k ≠ j := fun z => hk' (by rw [z])
      have hp : putS ρ1 j out = some ρ2 := hp
      unfold putS at hp
      cases es : ρ1[j]? with
      | none => rw [es] at hp; cases hp
      | some s0 =>
        cases s0 with
        | un => rw [es] at hp; cases hp
        | vl x0 => simp only [es, Option.some.injEq] at hp; subst hp; exact List.getElem?_set_ne (Ne.symm ne)
        | io x0 => simp only [es, Option.some.injEq] at hp; subst hp; exact List.getElem?_set_ne (Ne.symm ne)
        | lk x0 => rw [es] at hp; cases hp
  have slotj : ∀ j, ioSlot io as = some j → ∀ s, ρ2[j]? = some s → ∃ y, σ[j]? = some y ∧ RepS K (hide (Hd (Tl T l') fs') H') H' (P j) s y (fs' j) := fun j hio s e => by
    obtain ⟨i, e1, e2⟩ := place j hio
    have hp : putS ρ1 j out = some ρ2 := by rw [hio] at hp; exact hp
    have hlt : i < n := by rw [← hlen]; exact (List.getElem?_eq_some_iff.mp e2).1
    obtain ⟨lv, hv⟩ := ha.get
    obtain ⟨vi, la, hvi, har, _⟩ := hv i _ e2
    have hσ : σ[j]? = some (some vi) := har.2
    have eo : (outEnv io n out)[i]? = some (.io out) := by
      unfold outEnv
      rw [outFrom_get, if_pos hlt, Nat.zero_add, if_pos e1]
    obtain ⟨y, hy, w, hw, hpw, q⟩ := rc.rp.slot i _ eo
    have ew : y = some vi := by
      rw [List.getElem?_map, hvi] at hy
      exact (Option.some.inj hy).symm
    subst ew
    cases hw
    have q' := gets out vi (fsc i) sol2 q
    rw [fs'j j i hio e1]
    unfold putS at hp
    cases es : ρ1[j]? with
    | none => rw [es] at hp; cases hp
    | some s0 =>
      have hl1 : j < ρ1.length := (List.getElem?_eq_some_iff.mp es).1
      obtain ⟨y0, hy0, q0⟩ := r1.slot j s0 es
      cases s0 with
      | un => rw [es] at hp; cases hp
      | vl x0 =>
        simp only [es, Option.some.injEq] at hp
        subst hp
        rw [List.getElem?_set_self hl1] at e
        cases e
        obtain ⟨v', e3, e4, _⟩ := q0
        rw [hσ] at hy0
        cases hy0
        cases e3
        exact ⟨_, hσ, vi, rfl, e4, q'⟩
      | io x0 =>
        simp only [es, Option.some.injEq] at hp
        subst hp
        rw [List.getElem?_set_self hl1] at e
        cases e
        obtain ⟨v', e3, e4, _⟩ := q0
        rw [hσ] at hy0
        cases hy0
        cases e3
        exact ⟨_, hσ, vi, rfl, e4, q'⟩
      | lk x0 => rw [es] at hp; cases hp
  refine ⟨fs', ⟨⟨fun k s e => ?_, fun k e => ?_, fun k => ?_, fun k m a h1 h2 => ?_, fun a z t => ?_, fun a t => ?_, fun k p e => ?_⟩, rc.nd, fun b hb t => rc.nt b hb (.inl t), gets r v l' sol1 rc.ar⟩, (fun a x e n => exC a x e n), gets⟩
  · by_cases hio : ioSlot io as = some k
    · exact slotj k hio s e
    · rw [ρ2k k hio] at e
      obtain ⟨y, h1, h2⟩ := r1.slot k s e
      rw [fs'k k hio]
      exact ⟨y, h1, h2.mono ex1 fun a h x e => (keepk k hio a (in1 k a h) x e).1⟩
  · by_cases hio : ioSlot io as = some k
    · exfalso
      rw [hio] at hp
      have hp : putS ρ1 k out = some ρ2 := hp
      unfold putS at hp
      cases es : ρ1[k]? with
      | none => rw [es] at hp; cases hp
      | some s0 =>
        have hl1 : k < ρ1.length := (List.getElem?_eq_some_iff.mp es).1
        have len : ρ2.length = ρ1.length := by
          cases s0 with
          | un => rw [es] at hp; cases hp
          | vl x0 => simp only [es, Option.some.injEq] at hp; subst hp; exact List.length_set
          | io x0 => simp only [es, Option.some.injEq] at hp; subst hp; exact List.length_set
          | lk x0 => rw [es] at hp; cases hp
        rw [List.getElem?_eq_none_iff, len] at e
        exact absurd hl1 (Nat.not_lt.mpr e)
    · rw [ρ2k k hio] at e
      rw [fs'k k hio]
      exact r1.out k e
  · by_cases hio : ioSlot io as = some k
    · obtain ⟨i, e1, e2⟩ := place k hio
      rw [fs'j k i hio e1]
      exact rc.rp.nd i
    · rw [fs'k k hio]; exact r1.nd k
  · by_cases hk1 : ioSlot io as = some k
    · by_cases hm : ioSlot io as = some m
      · exact Option.some.inj (hk1.symm.trans hm)
      · obtain ⟨i, e1, e2⟩ := place k hk1
        rw [fs'j k i hk1 e1] at h1
        rw [fs'k m hm] at h2
        exact absurd (show Ow l' fsc a from .inr ⟨i, h1⟩) (notin m hm a h2)
    · by_cases hm : ioSlot io as = some m
      · obtain ⟨i, e1, e2⟩ := place m hm
        rw [fs'j m i hm e1] at h2
        rw [fs'k k hk1] at h1
        exact absurd (show Ow l' fsc a from .inr ⟨i, h2⟩) (notin k hk1 a h1)
      · rw [fs'k k hk1] at h1
        rw [fs'k m hm] at h2
        exact r1.dj k m a h1 h2
  · rcases own' a z with ⟨i, z⟩ | ⟨k, hk', z⟩
    · rcases t with t | t
      · exact rc.rp.tf a ⟨i, z⟩ (.inl (.inl t))
      · exact rc.rp.tf a ⟨i, z⟩ (.inr t)
    · rcases t with t | t
      · exact r1.tf a ⟨k, z⟩ (.inl t)
      · exact notin k hk' a z (.inl t)
  · rcases t with t | t
    · exact rc.rp.ta a (.inl (.inl t))
    · exact rc.rp.ta a (.inr t)
  · obtain ⟨s, h⟩ := r1.pl k p e
    have len : ρ2.length = ρ1.length := by
      cases hio : ioSlot io as with
      | none => rw [hio] at hp; cases hp; rfl
      | some j =>
        rw [hio] at hp
        have hp : putS ρ1 j out = some ρ2 := hp
        unfold putS at hp
        cases es : ρ1[j]? with
        | none => rw [es] at hp; cases hp
        | some s0 =>
          cases s0 with
          | un => rw [es] at hp; cases hp
          | vl x0 => simp only [es, Option.some.injEq] at hp; subst hp; exact List.length_set
          | io x0 => simp only [es, Option.some.injEq] at hp; subst hp; exact List.length_set
          | lk x0 => rw [es] at hp; cases hp
    exact ⟨_, List.getElem?_eq_getElem (by rw [len]; exact (List.getElem?_eq_some_iff.mp h).1)⟩
end
end Lay
namespace Lay
open PySem PySem.Spec L2
def xCallN (n : Nat) (io : Option Nat) (F : FD) (fa : M (List Arg)) : M Arg := fun ρ => (fa ρ).bind fun as ρ1 =>
  if as.length = n ∧ okIo ρ1 io as = true then match passFrom ρ1 io 0 as with
    | none => .bad
    | some os => match F os with
      | .bad => .bad
      | .ok r out => match backA ρ1 io as (solidO r && solidO out) out with
        | some ρ2 => .ok (.tmp r) ρ2
        | none => .bad
      | .ex x out => match backA ρ1 io as false out with
        | some ρ2 => .ex x ρ2
        | none => .bad
  else .bad
theorem mkEnv_length (io : Option Nat) (os : List OT) : (mkEnv io os).length = os.length := by
  unfold mkEnv
  have : ∀ (os : List OT) (i : Nat), (mkFrom io i os).length = os.length := by
    intro os
    induction os with
    | nil => intro i; rfl
    | cons o r ih => intro i; show (mkFrom io (i + 1) r).length + 1 = _; rw [ih]; rfl
  exact this os 0
theorem RepF.gets {K : PySem.W.Frag} {G G' : Hp} (h : ∀ d u, RepD K G d u → RepD K G' d u) : ∀ {l : List (Str × Dat)} {vs : List (Str × V)}, RepF K G l vs → RepF K G' l vs
  | [], _, q => q
  | (n, d) :: r, _, q => by
    obtain ⟨v, r', rfl, q1, q2⟩ := q
    exact ⟨v, r', rfl, h d v q1, RepF.gets h q2⟩
theorem tCall_op {Z : Par} {n : Nat} {io : Option Nat} {F : FD} {fa : M (List Arg)} {σ : St} {H : Hp} {Q : VK} (h : tD Z (xCallN n io F fa) σ H Q) : tCallS (spF Z.K Z.mg io n F) (WE Z.W) (tDA Z fa) σ H Q := by
  obtain ⟨T, P, ρ, fs, rp, q⟩ := h
  refine ⟨T, P, ρ, fs, rp, ?_⟩
  unfold xCallN at q
  cases e1 : fa ρ with
  | bad => rw [e1] at q; exact q
  | ex x ρ' => rw [e1] at q; exact q
  | ok as ρ1 =>
    rw [e1] at q
    simp only [R.bind] at q
    intro vs H1 fs1 l1 r1 f1
    by_cases hc : as.length = n ∧ okIo ρ1 io as = true
    · rw [if_pos hc] at q
      obtain ⟨hn, hk⟩ := hc
      cases c1 : passFrom ρ1 io 0 as with
      | none => simp only [c1] at q; exact q.elim
      | some os =>
        simp only [c1] at q
        obtain ⟨lv, _⟩ := r1.ar.get
        obtain ⟨lo, _⟩ := passFrom_get ρ1 io as 0 os c1
        show spF Z.K Z.mg io n F vs H1 Q _
        refine ⟨csT T fs1 as, csP io vs, csF io as fs1, os, by rw [lo, hn], by rw [lv, hn], fun i => rfl, Rp.callee r1.rp r1.nt r1.ar hk c1, ?_⟩
        -- how one comes back
        have back : ∀ (sol : Bool) (r out : OT), (sol = true → (solidO r && solidO out) = true) → ∀ ρ2, backA ρ1 io as sol out = some ρ2 → ∀ v H' fsc l', RpA Z.K (csT T fs1 as) (csP io vs) (outEnv io n out) (vs.map some) H' fsc (.tmp r) v l' → Fr H1 (Own (csF io as fs1)) H' (Ow l' fsc) →
            ∃ fs', RpA Z.K T P ρ2 σ H' fs' (.tmp r) v l' ∧ Fr H1 (Ow l1 fs1) H' (Ow l' fs') ∧ (sol = false → ∀ (o : OT) (u : V) (f : List Addr), RepO Z.K (hide (Hd (Tl (csT T fs1 as) l') fsc) H') H' o u f → RepO Z.K (hide (Hd (Tl T l') fs') H') H' o u f) := fun sol r out hs ρ2 hb v H' fsc l' rc fr => by
          unfold backA at hb
          cases sol with
          | true =>
            rw [if_pos rfl] at hb
            obtain ⟨fs', g1, g2, g3⟩ := Rp.back r1.rp r1.nt r1.ar hk hn r1.rp (fun m => .inr rfl) (fun m _ => ⟨rfl, rfl⟩) (.inl (hs rfl)) hb rc fr
            exact ⟨fs', g1, g2, fun z => nomatch z⟩
          | false =>
            rw [if_neg (by decide)] at hb
            cases c : frzAll (ioSlot io as) (slotsOf as) ρ1 with
            | none => rw [c] at hb; cases hb
            | some ρf =>
              rw [c] at hb
              obtain ⟨fsf, k1, k2, k3, k4⟩ := frzAll_ok r1.rp c
              obtain ⟨fs', g1, g2, g3⟩ := Rp.back r1.rp r1.nt r1.ar hk hn k1 k2 k4 (.inr k3) hb rc fr
              exact ⟨fs', g1, g2, fun _ o u f h => g3 o u f (.inr k3) h⟩
        cases c2 : F os with
        | bad => simp only [c2] at q; exact q
        | ok r out =>
          simp only [c2] at q
          intro v H' fsc l' rc fr
          cases c3 : backA ρ1 io as (solidO r && solidO out) out with
          | none => simp only [c3] at q; exact q.elim
          | some ρ2 =>
            simp only [c3] at q
            obtain ⟨fs', g1, g2, _⟩ := back _ r out id ρ2 c3 v H' fsc l' rc fr
            exact q v H' fs' l' g1 (f1.trans g2)
        | ex x out =>
          simp only [c2] at q
          intro cls d H' fsc rx rc fr
          cases c3 : backA ρ1 io as false out with
          | none => simp only [c3] at q; exact q.elim
          | some ρ2 =>
            simp only [c3] at q
            have rc' : RpA Z.K (csT T fs1 as) (csP io vs) (outEnv io n out) (vs.map some) H' fsc (.tmp (.fz .non)) .non [] := ⟨rc.tl0, .nil, (fun _ z => nomatch z), rfl, rfl⟩
            obtain ⟨fs', g1, g2, g3⟩ := back false (.fz .non) out (fun z => nomatch z) ρ2 c3 .non H' fsc [] rc' (fr.imp fun x z => z.elim (fun z => nomatch z) id)
            obtain ⟨rx1, vs', rx2, rx3⟩ := rx
            refine q cls d σ H' fs' ⟨rx1, vs', RepF.gets (fun d u h => ?_) rx2, rx3⟩ g1.rp.unl ((f1.trans g2).imp fun x z => .inr z)
            have h' : RepO Z.K (hide (Hd (Tl (csT T fs1 as) []) fsc) H') H' (.fz d) u [] := ⟨rfl, by rw [Tl_nil]; exact h⟩
            have := (g3 rfl (.fz d) u [] h').2
            rwa [Tl_nil] at this
    · rw [if_neg hc] at q; exact q.elim
section
variable {X : Cx} {W : WX} {x : Str} {p pos : Pos} {k n : Nat} {io : Option Nat} {F : FD} {e : Expr} {es : List Expr} {fa : M (List Arg)}
theorem de_call (G : FnD X.prog X.w X.K X.mg X.base x k io n F) (hr : Room k X.A) (tk : Takes X W) (ha : DA X W (e :: es) fa) (hg : Gl X x := by rfl) (hdb : (x == ("__debug__" : Str)) = false := by decide)
    (he : starEach (e :: es) X.env = (false, eval e X.env) :: starEach es X.env := by rfl) (hpl : (backTo pos (starEach es X.env)).any (·.1) = false := by rfl) : DE X W (.Call (.Name x p) (e :: es) [] pos) (xCallN n io F fa) := by
  obtain ⟨f, fd, ps, hF, hm, hkp, hb, _⟩ := G.ex
  exact pe_imp (pe_callS hF hr hg hm hkp hb (fun σ => passAt tk σ) ha hdb he hpl) fun σ H Q h => tCall_op (Z := zp X W) h
end
def outOf (io : Option Nat) (ρ : Env) : Option OT := match io with
  | none => some (.fz .non)
  | some i => match ρ[i]? with
    | some (.io o) => some o
    | _ => none
def FR.of (f : OT → FR) : Option OT → FR
  | some o => f o
  | none => .bad
/-- m: how many names the def has; n: how many parameters -/
def runF (io : Option Nat) (m n : Nat) (g : SM) : FD := fun os => match g (mkEnv io os ++ List.replicate (m - n) .un) with
  | .rt r ρ' => FR.of (.ok r) (outOf io ρ')
  | .nx ρ' => FR.of (.ok (.fz .non)) (outOf io ρ')
  | .ex x ρ' => FR.of (.ex x) (outOf io ρ')
  | _ => .bad
section
variable {K : PySem.W.Frag} {T : Addr → Prop} {P : Pins} {ρ : Env} {σ : St} {H H0 : Hp} {fs fs0 : Nat → List Addr} {io : Option Nat} {vs : List V} {os : List OT} {n m : Nat}
/-- a def's own names beside its parameters -/
theorem Rp.more (r : Rp K T P ρ (vs.map some) H fs) (hv : vs.length = n) (hρ : ρ.length = n) (hP : ∀ i, n ≤ i → P i = none) (j : Nat) : Rp K T P (ρ ++ List.replicate j .un) (vs.map some ++ List.replicate j none) H fs := by
  have far : ∀ i, n ≤ i → fs i = [] := fun i h => r.out i (List.getElem?_eq_none_iff.mpr (by omega))
  refine ⟨fun i s e => ?_, fun i e => ?_, r.nd, r.dj, r.tf, r.ta, fun i p e => ?_⟩
  · by_cases h : i < n
    · rw [List.getElem?_append_left (by omega)] at e
      obtain ⟨x, h1, h2⟩ := r.slot i s e
      exact ⟨x, by rw [List.getElem?_append_left (by rw [List.length_map]; omega)]; exact h1, h2⟩
    · rw [List.getElem?_append_right (by omega)] at e
      rw [List.getElem?_replicate] at e
      split at e
      · cases e
        refine ⟨none, ?_, far i (by omega), hP i (by omega)⟩
        rw [List.getElem?_append_right (by rw [List.length_map]; omega), List.getElem?_replicate, if_pos (by rw [List.length_map]; omega)]
      · cases e
  · by_cases h : i < n
    · rw [List.getElem?_append_left (by omega)] at e
      exact r.out i e
    · exact far i (by omega)
  · obtain ⟨s, h⟩ := r.pl i p e
    have := (List.getElem?_eq_some_iff.mp h).1
    exact ⟨s, by rw [List.getElem?_append_left this]; exact h⟩
/-- a def's end: what its caller sees -/
theorem RpA.fin {l : List Addr} {a : Arg} {v : V} {ρ' : Env} {σ' : St} {out : OT} (hP : ∀ i, P i = if io = some i then (vs[i]?.map fun v => (v, none)) else none) (hv : vs.length = n) (hio : ∀ i, io = some i → i < n)
    (r : RpA K T P ρ' σ' H fs a v l) (ho : outOf io ρ' = some out) (ha : ∃ o, a = .tmp o) :
    ∃ fs', RpA K T P (outEnv io n out) (vs.map some) H fs' a v l ∧ ∀ b, Own fs' b → Own fs b := by
  let fs' : Nat → List Addr := fun k => if io = some k then fs k else []
  have own : ∀ b, Own fs' b → Own fs b := fun b ⟨k, hk⟩ => by
    have hk : b ∈ (if io = some k then fs k else []) := hk
    by_cases e : io = some k
    · rw [if_pos e] at hk; exact ⟨k, hk⟩
    · rw [if_neg e] at hk; cases hk
  have ex : Ex (hide (Hd (Tl T l) fs) H) (hide (Hd (Tl T l) fs') H) := hide_ex fun a x n e => ⟨fun z => n (z.imp id (own a)), e⟩
  have hvi : ∀ i, i < n → ∃ w, vs[i]? = some w := fun i h => ⟨_, List.getElem?_eq_getElem (by omega)⟩
  refine ⟨fs', ⟨⟨fun i s e => ?_, fun i e => ?_, fun i => ?_, fun i j b h1 h2 => ?_, fun b z => r.rp.tf b (own b z), r.rp.ta, fun i p e => ?_⟩, r.nd, r.nt, ?_⟩, own⟩
  · unfold outEnv at e
    rw [outFrom_get, Nat.zero_add] at e
    by_cases h : i < n
    · rw [if_pos h] at e
      obtain ⟨w, hw⟩ := hvi i h
      have hf : fs' i = if io = some i then fs i else [] := rfl
      refine ⟨some w, by rw [List.getElem?_map, hw]; rfl, ?_⟩
      by_cases hi : io = some i
      · rw [if_pos hi] at e hf
        cases e
        rw [hf]
        subst hi
        have ho : (match ρ'[i]? with | some (.io o) => some o | _ => none) = some out := ho
        cases es : ρ'[i]? with
        | none => rw [es] at ho; cases ho
        | some s0 =>
          cases s0 with
          | io o =>
            rw [es] at ho
            cases ho
            obtain ⟨x, hx, u, hu, hp, q⟩ := r.rp.slot i _ es
            have hp' := hP i
            rw [if_pos rfl, hw, hp] at hp'
            simp only [Option.map_some, Option.some.injEq, Prod.mk.injEq, and_true] at hp'
            subst hp'
            exact ⟨u, rfl, hp, RepO.mono ex out u _ (fun _ _ _ e => e) q⟩
          | _ => rw [es] at ho; cases ho
      · rw [if_neg hi] at e hf
        cases e
        exact ⟨hf, by rw [hP i, if_neg hi]⟩
    · rw [if_neg h] at e; cases e
  · show (if io = some i then fs i else []) = []
    by_cases hi : io = some i
    · exfalso
      unfold outEnv at e
      rw [outFrom_get, if_pos (hio i hi)] at e
      cases e
    · rw [if_neg hi]
  · show (if io = some i then fs i else []).Nodup
    by_cases hi : io = some i
    · rw [if_pos hi]; exact r.rp.nd i
    · rw [if_neg hi]; exact .nil
  · have h1 : b ∈ (if io = some i then fs i else []) := h1
    have h2 : b ∈ (if io = some j then fs j else []) := h2
    by_cases hi : io = some i
    · by_cases hj : io = some j
      · exact Option.some.inj (hi.symm.trans hj)
      · rw [if_neg hj] at h2; cases h2
    · rw [if_neg hi] at h1; cases h1
  · have hp := hP i
    rw [e] at hp
    by_cases hi : io = some i
    · unfold outEnv
      rw [outFrom_get, if_pos (hio i hi)]
      exact ⟨_, rfl⟩
    · rw [if_neg hi] at hp; cases hp
  · obtain ⟨o, rfl⟩ := ha
    exact RepO.mono ex o v l (fun _ _ _ e => e) r.ar
end
theorem fn_rule {P : Program} {w : World} {K : PySem.W.Frag} {mg : Str → Option Value} {base : Heap} {x qual : Str} {st : Stmt} {f : Addr} {fd : FuncData} {N ps : List Str} {k n : Nat} {io : Option Nat} {g : SM} (F : Fun K x qual st f fd) (S : FnScope N ps (defScope st)) (hn : ps.length = n) (hm : n ≤ N.length) (hio : ∀ i, io = some i → i < n)
    (hbody : ∀ (cdv : Value) (A : Around) (outer : List PySem.Env) (s : Shared) (H : Hp) (E : XK), Room k (A.deeper (PyProof.Rows.envOfC qual (defScope st) s.heap.objs.size f cdv)) →
      DSs (cxOf (L2.CX P w) P w K mg base N qual (defScope st) f cdv A outer s H E) (fun cls d _ H => E cls d H) (defBody st) g) : FnOk P w K mg base (L2.CX P w) (k + 1) f fd ps (spF K mg io n (runF io N.length n g)) := by
  refine F.okX S (fun vs H Q E h => ?_) (fun cdv A outer s H vs Q E hr h => ⟨_, hbody cdv A outer s H E hr, ?_⟩)
  · obtain ⟨T, Pp, fs, os, h1, h2, _⟩ := h
    rw [h2, hn]
  · obtain ⟨T, Pp, fs, os, h1, h2, hP, rp, q⟩ := h
    have hρ : (mkEnv io os).length = n := by rw [mkEnv_length, h1]
    have far : ∀ i, n ≤ i → Pp i = none := fun i hi => by
      rw [hP i]
      by_cases e : io = some i
      · exact absurd (hio i e) (Nat.not_lt.mpr hi)
      · rw [if_neg e]
    refine ⟨T, Pp, mkEnv io os ++ List.replicate (N.length - n) .un, fs, ?_, ?_⟩
    · show Rp K T Pp (mkEnv io os ++ List.replicate (N.length - n) .un) (vs.map some ++ List.replicate (N.length - vs.length) none) H fs
      rw [h2]
      exact Rp.more rp h2 hρ far _
    · unfold runF at q
      cases e1 : g (mkEnv io os ++ List.replicate (N.length - n) .un) with
      | bad => rw [e1] at q; exact q
      | bk ρ' => rw [e1] at q; exact q.elim
      | ct ρ' => rw [e1] at q; exact q.elim
      | nx ρ' =>
        rw [e1] at q
        simp only at q
        cases ho : outOf io ρ' with
        | none => rw [ho] at q; exact q.elim
        | some out =>
          rw [ho] at q
          intro σ' H' fs' r fr
          obtain ⟨fs2, g1, g2⟩ := RpA.fin (a := .tmp (.fz .non)) (v := .non) (l := []) hP h2 hio ⟨r.tl0, .nil, (fun _ z => nomatch z), rfl, rfl⟩ ho ⟨_, rfl⟩
          exact q .non H' fs2 [] g1 (fr.imp fun x z => z.elim (fun z => nomatch z) (g2 x))
      | rt o ρ' =>
        rw [e1] at q
        simp only at q
        cases ho : outOf io ρ' with
        | none => rw [ho] at q; exact q.elim
        | some out =>
          rw [ho] at q
          intro v σ' H' fs' l r fr
          obtain ⟨fs2, g1, g2⟩ := RpA.fin hP h2 hio r ho ⟨_, rfl⟩
          exact q v H' fs2 l g1 (fr.imp fun x z => z.imp id (g2 x))
      | ex x ρ' =>
        rw [e1] at q
        simp only at q
        cases ho : outOf io ρ' with
        | none => rw [ho] at q; exact q.elim
        | some out =>
          rw [ho] at q
          intro cls d σ' H' fs' rx r fr
          obtain ⟨fs2, g1, g2⟩ := RpA.fin (a := .tmp (.fz .non)) (v := .non) (l := []) hP h2 hio ⟨r.tl0, .nil, (fun _ z => nomatch z), rfl, rfl⟩ ho ⟨_, rfl⟩
          obtain ⟨rx1, vs', rx2, rx3⟩ := rx
          refine q cls d H' fs2 ⟨rx1, vs', RepF.gets (fun d u h => RepD.mono (hide_ex fun a x n e => ⟨fun z => n (z.imp id (g2 a)), e⟩) d u h) rx2, rx3⟩ g1.rp.unl (fr.imp g2)
end Lay
namespace Lay
open PySem PySem.Spec L2
/-- what a walk leans on stands -/
def Kp (σ : St) (H1 : Hp) (fs1 : Nat → List Addr) (lks : List Nat) (H2 : Hp) : Prop :=
  (∀ a x, H1 a = some x → ¬ Own fs1 a → H2 a = some x) ∧ ∀ i ∈ lks, ∀ a vs, σ[i]? = some (some (.ref a)) → H1 a = some (.lst vs) → H2 a = some (.lst vs)
def IsIt (K : PySem.W.Frag) (T : Addr → Prop) (σ : St) (H1 : Hp) (fs1 : Nat → List Addr) (lks : List Nat) (J : It) (ds : List Dat) : Prop :=
  ∃ (G : Hp → Prop) (Y : Nat → Hp → V → Hp → Prop), Walk J ds.length G Y ∧ (∀ H2, Kp σ H1 fs1 lks H2 → G H2) ∧
    ∀ i H2 x H3, i < ds.length → Kp σ H1 fs1 lks H2 → Y i H2 x H3 → Ex H2 H3 ∧ ∃ d, ds[i]? = some d ∧ ∀ G', Ex (hide (Hd T fs1) H1) G' → (∀ b y, H2 b = none → H3 b = some y → G' b = some y) → RepD K G' d x
abbrev IM := M (List Dat × List Nat)
def AftI (Z : Par) (T : Addr → Prop) (P : Pins) (σ : St) (H : Hp) (fs : Nat → List Addr) (Q : It → Hp → Prop) : R (List Dat × List Nat) → Prop
  | .ok p ρ' => ∀ J H' fs', Rp Z.K T P ρ' σ H' fs' → Fr H (Own fs) H' (Own fs') → IsIt Z.K T σ H' fs' p.2 J p.1 → Q J H'
  | .ex x ρ' => onX Z T P H fs x ρ'
  | .bad => False
def tI (Z : Par) (it : IM) : TI := fun σ H Q => ∃ T P ρ fs, Rp Z.K T P ρ σ H fs ∧ AftI Z T P σ H fs Q (it ρ)
abbrev DI (X : Cx) (W : WX) (tg e : Expr) (it : IM) : Prop := PI X tg e (tI (zp X W) it)
theorem pi_imp {X : Cx} {tg e : Expr} {t t' : TI} (h : PI X tg e t) (hi : ∀ σ H Q, t' σ H Q → t σ H Q) : PI X tg e t' := ⟨fun pins s σ H R I q => h.run pins s σ H R I (hi σ H R q)⟩
/-- a list is walked: its slot is locked, and opened behind the walk -/
def unlS (i : Nat) (b : Bool) (ρ : Env) : Option Env := match ρ[i]? with
  | some (.lk o) => some (ρ.set i (if b then .io o else .vl o))
  | _ => none
def unlR (i : Nat) (b : Bool) : SR → SR
  | .nx ρ => match unlS i b ρ with
    | some ρ' => .nx ρ'
    | none => .bad
  | .rt o ρ => match unlS i b ρ with
    | some ρ' => .rt o ρ'
    | none => .bad
  | .ex x ρ => match unlS i b ρ with
    | some ρ' => .ex x ρ'
    | none => .bad
  | _ => .bad
def lockA : List Nat → Env → (Env → SR) → SR
  | [], ρ, k => k ρ
  | i :: r, ρ, k => match ρ[i]? with
    | some (.vl (.lst os)) => unlR i false (lockA r (ρ.set i (.lk (.lst os))) k)
    | some (.io (.lst os)) => unlR i true (lockA r (ρ.set i (.lk (.lst os))) k)
    | some (.lk _) => lockA r ρ k
    | _ => .bad
section
variable {K : PySem.W.Frag} {T : Addr → Prop} {P : Pins} {ρ ρ' : Env} {σ : St} {H H' : Hp} {fs fs' : Nat → List Addr}
def pset (P : Pins) (i : Nat) (p : V × Option (List V)) : Pins := fun j => if j = i then some p else P j
/-- one slot's standing is told otherwise -/
theorem Rp.reslot {P' : Pins} {i : Nat} {s s' : Sl} (r : Rp K T P ρ σ H fs) (h : ρ[i]? = some s) (hp : ∀ j, j ≠ i → P' j = P j) (hs : ∀ x, σ[i]? = some x → RepS K (hide (Hd T fs) H) H (P i) s x (fs i) → RepS K (hide (Hd T fs) H) H (P' i) s' x (fs i)) :
    Rp K T P' (ρ.set i s') σ H fs := by
  have hlt : i < ρ.length := (List.getElem?_eq_some_iff.mp h).1
  refine ⟨fun j t e => ?_, fun j e => ?_, r.nd, r.dj, r.tf, r.ta, fun j p e => ?_⟩
  · by_cases hj : j = i
    · subst hj
      rw [List.getElem?_set_self hlt] at e
      cases e
      obtain ⟨x, h1, h2⟩ := r.slot j s h
      exact ⟨x, h1, hs x h1 h2⟩
    · rw [List.getElem?_set_ne (Ne.symm hj)] at e
      rw [hp j hj]
      exact r.slot j t e
  · by_cases hj : j = i
    · subst hj
      rw [List.getElem?_set_self hlt] at e
      cases e
    · rw [List.getElem?_set_ne (Ne.symm hj)] at e
      exact r.out j e
  · by_cases hj : j = i
    · subst hj; exact ⟨_, List.getElem?_set_self hlt⟩
    · rw [hp j hj] at e
      obtain ⟨t, ht⟩ := r.pl j p e
      exact set_some ht
theorem Rp.lock {i : Nat} {os : List OT} (r : Rp K T P ρ σ H fs) (h : ρ[i]? = some (.vl (.lst os)) ∨ ρ[i]? = some (.io (.lst os))) :
    ∃ a vs, σ[i]? = some (some (.ref a)) ∧ H a = some (.lst vs) ∧ Rp K T (pset P i (.ref a, some vs)) (ρ.set i (.lk (.lst os))) σ H fs ∧ (ρ[i]? = some (.vl (.lst os)) → P i = none) ∧ (ρ[i]? = some (.io (.lst os)) → P i = some (.ref a, none)) := by
  have go : ∀ v p, σ[i]? = some (some v) → P i = p → RepO K (hide (Hd T fs) H) H (.lst os) v (fs i) → (∃ s, ρ[i]? = some s) → ∃ a vs, v = .ref a ∧ H a = some (.lst vs) ∧ Rp K T (pset P i (.ref a, some vs)) (ρ.set i (.lk (.lst os))) σ H fs := fun v p hv hp q ⟨s, hs⟩ => by
    obtain ⟨a, vs, f, rfl, ef, ha, ro⟩ := id q
    refine ⟨a, vs, rfl, ha, r.reslot hs (fun j hj => if_neg hj) fun x hx _ => ?_⟩
    rw [hv] at hx
    cases hx
    exact ⟨.ref a, rfl, q, vs, a, if_pos rfl, rfl, by rw [ef]; exact List.mem_cons_self, ha⟩
  rcases h with h | h
  · obtain ⟨x, hx, v, rfl, hp, q⟩ := r.slot i _ h
    obtain ⟨a, vs, rfl, ha, r'⟩ := go v _ hx hp q ⟨_, h⟩
    exact ⟨a, vs, hx, ha, r', fun _ => hp, fun z => by rw [h] at z; cases z⟩
  · obtain ⟨x, hx, v, rfl, hp, q⟩ := r.slot i _ h
    obtain ⟨a, vs, rfl, ha, r'⟩ := go v _ hx hp q ⟨_, h⟩
    exact ⟨a, vs, hx, ha, r', (fun z => by rw [h] at z; cases z), fun _ => hp⟩
theorem Rp.unlock {i : Nat} {b : Bool} {a : Addr} {vs : List V} {P' : Pins} (r : Rp K T P' ρ σ H fs) (hP : P' i = some (.ref a, some vs)) (hj : ∀ j, j ≠ i → P' j = P j) (hb : P i = if b then some (.ref a, none) else none) (e : unlS i b ρ = some ρ') : Rp K T P ρ' σ H fs := by
  unfold unlS at e
  cases es : ρ[i]? with
  | none => rw [es] at e; cases e
  | some s =>
    cases s with
    | lk o =>
      simp only [es, Option.some.injEq] at e
      subst e
      refine r.reslot es (fun j hj' => (hj j hj').symm) fun x hx q => ?_
      obtain ⟨v, rfl, q, vs', a', h1, rfl, _⟩ := q
      rw [hP] at h1
      cases h1
      cases b with
      | true => exact ⟨.ref a, rfl, hb, q⟩
      | false => exact ⟨.ref a, rfl, hb, q⟩
    | _ => rw [es] at e; cases e
end
theorem lockA_ok {Z : Par} {T : Addr → Prop} {σ : St} {H : Hp} {fs : Nat → List Addr} {D : Ends} {k : Env → SR} : ∀ {lks : List Nat} {P : Pins} {ρ : Env}, Rp Z.K T P ρ σ H fs → AftS Z T P H fs D (lockA lks ρ k) →
    ∃ P' ρ', Rp Z.K T P' ρ' σ H fs ∧ AftS Z T P' H fs D (k ρ') ∧ (∀ j p, P j = some p → p.2 ≠ none → P' j = some p) ∧ ∀ i ∈ lks, ∃ a vs, σ[i]? = some (some (.ref a)) ∧ H a = some (.lst vs) ∧ P' i = some (.ref a, some vs)
  | [], P, ρ, r, q => ⟨P, ρ, r, q, fun _ _ h _ => h, fun _ z => nomatch z⟩
  | i :: lks, P, ρ, r, q => by
    unfold lockA at q
    have rest : ∀ {P1 : Pins} {ρ1 : Env}, Rp Z.K T P1 ρ1 σ H fs → AftS Z T P1 H fs D (lockA lks ρ1 k) → (∀ j p, P j = some p → p.2 ≠ none → P1 j = some p) → (∃ a vs, σ[i]? = some (some (.ref a)) ∧ H a = some (.lst vs) ∧ P1 i = some (.ref a, some vs)) →
        ∃ P' ρ', Rp Z.K T P' ρ' σ H fs ∧ AftS Z T P' H fs D (k ρ') ∧ (∀ j p, P j = some p → p.2 ≠ none → P' j = some p) ∧ ∀ i' ∈ i :: lks, ∃ a vs, σ[i']? = some (some (.ref a)) ∧ H a = some (.lst vs) ∧ P' i' = some (.ref a, some vs) := fun {P1 ρ1} r1 q1 keep ⟨a, vs, h1, h2, h3⟩ => by
      obtain ⟨P', ρ', g1, g2, g3, g4⟩ := lockA_ok r1 q1
      refine ⟨P', ρ', g1, g2, fun j p h hn => g3 j p (keep j p h hn) hn, fun i' hi' => ?_⟩
      rcases List.mem_cons.mp hi' with z | z
      · subst z
        exact ⟨a, vs, h1, h2, g3 i' _ h3 (fun z => nomatch z)⟩
      · exact g4 i' z
    have opened : ∀ {b : Bool} {os : List OT} {a : Addr} {vs : List V}, σ[i]? = some (some (.ref a)) → H a = some (.lst vs) → Rp Z.K T (pset P i (.ref a, some vs)) (ρ.set i (.lk (.lst os))) σ H fs → P i = (if b then some (.ref a, none) else none) →
        AftS Z T P H fs D (unlR i b (lockA lks (ρ.set i (.lk (.lst os))) k)) → ∃ P' ρ', Rp Z.K T P' ρ' σ H fs ∧ AftS Z T P' H fs D (k ρ') ∧ (∀ j p, P j = some p → p.2 ≠ none → P' j = some p) ∧ ∀ i' ∈ i :: lks, ∃ a vs, σ[i']? = some (some (.ref a)) ∧ H a = some (.lst vs) ∧ P' i' = some (.ref a, some vs) := fun {b os a vs} h1 h2 r1 hb q1 => by
      have hPi : pset P i (.ref a, some vs) i = some (.ref a, some vs) := if_pos rfl
      have hPj : ∀ j, j ≠ i → pset P i (.ref a, some vs) j = P j := fun j hj => if_neg hj
      refine rest r1 ?_ (fun j p h hn => ?_) ⟨a, vs, h1, h2, hPi⟩
      · cases e : lockA lks (ρ.set i (.lk (.lst os))) k with
        | nx ρ1 =>
          rw [e] at q1
          intro σ' H' fs' rp fr
          unfold unlR at q1
          cases c : unlS i b ρ1 with
          | none => simp only [c] at q1; exact q1.elim
          | some ρ2 =>
            simp only [c] at q1
            exact q1 σ' H' fs' (rp.unlock hPi hPj hb c) fr
        | rt o ρ1 =>
          rw [e] at q1
          intro v σ' H' fs' l rp fr
          unfold unlR at q1
          cases c : unlS i b ρ1 with
          | none => simp only [c] at q1; exact q1.elim
          | some ρ2 =>
            simp only [c] at q1
            exact q1 v σ' H' fs' l ⟨rp.rp.unlock hPi hPj hb c, rp.nd, rp.nt, rp.ar⟩ fr
        | ex x ρ1 =>
          rw [e] at q1
          intro cls d σ' H' fs' rx rp fr
          unfold unlR at q1
          cases c : unlS i b ρ1 with
          | none => simp only [c] at q1; exact q1.elim
          | some ρ2 =>
            simp only [c] at q1
            exact q1 cls d σ' H' fs' rx (rp.unlock hPi hPj hb c) fr
        | bk ρ1 => rw [e] at q1; exact q1.elim
        | ct ρ1 => rw [e] at q1; exact q1.elim
        | bad => rw [e] at q1; exact q1.elim
      · by_cases hj : j = i
        · subst hj
          rw [hb] at h
          cases b with
          | true => cases h; exact absurd rfl hn
          | false => cases h
        · rw [hPj j hj]; exact h
    cases es : ρ[i]? with
    | none => simp only [es] at q; exact q.elim
    | some s =>
      cases s with
      | un => simp only [es] at q; exact q.elim
      | vl o =>
        cases o with
        | lst os =>
          simp only [es] at q
          obtain ⟨a, vs, h1, h2, r1, h3, _⟩ := r.lock (.inl es)
          exact opened (b := false) h1 h2 r1 (h3 es) q
        | _ => simp only [es] at q; exact q.elim
      | io o =>
        cases o with
        | lst os =>
          simp only [es] at q
          obtain ⟨a, vs, h1, h2, r1, _, h4⟩ := r.lock (.inr es)
          exact opened (b := true) h1 h2 r1 (h4 es) q
        | _ => simp only [es] at q; exact q.elim
      | lk o =>
        simp only [es] at q
        obtain ⟨x, hx, v, rfl, _, vs, a, hp, rfl, _, ha⟩ := r.slot i _ es
        exact rest r q (fun _ _ h _ => h) ⟨a, vs, hx, ha, hp⟩
def forL (g : TM) (body : SM) : List Dat → SM
  | [], ρ => .nx ρ
  | d :: r, ρ => RS (g (.fz d) ρ) fun _ ρ1 => match body ρ1 with
    | .nx ρ2 => forL g body r ρ2
    | .ct ρ2 => forL g body r ρ2
    | .bk ρ2 => .nx ρ2
    | z => z
def sFor (it : IM) (g : TM) (body : SM) : SM := fun ρ => RS (it ρ) fun p ρ1 => lockA p.2 ρ1 (forL g body p.1)
theorem Kp.of {K : PySem.W.Frag} {T : Addr → Prop} {P' : Pins} {ρ' : Env} {σ σ' : St} {H1 H' : Hp} {fs1 fs' : Nat → List Addr} {lks : List Nat} (hl : ∀ i ∈ lks, ∃ a vs, σ[i]? = some (some (.ref a)) ∧ H1 a = some (.lst vs) ∧ P' i = some (.ref a, some vs))
    (r : Rp K T P' ρ' σ' H' fs') (f : Fr H1 (Own fs1) H' (Own fs')) : Kp σ H1 fs1 lks H' := by
  refine ⟨fun a x e n => (f a x e n).1, fun i hi a vs h1 h2 => ?_⟩
  obtain ⟨a', vs', g1, g2, g3⟩ := hl i hi
  rw [h1] at g1
  cases g1
  rw [h2] at g2
  cases g2
  obtain ⟨s, hs⟩ := r.pl i _ g3
  obtain ⟨x, hx, q⟩ := r.slot i s hs
  cases s with
  | un => rw [q.2] at g3; cases g3
  | vl o => obtain ⟨_, _, e, _⟩ := q; rw [e] at g3; cases g3
  | io o => obtain ⟨_, _, e, _⟩ := q; rw [e] at g3; cases g3
  | lk o =>
    obtain ⟨v, _, _, vs2, a2, e, rfl, _, ha⟩ := q
    rw [e] at g3
    cases g3
    exact ha
theorem tFor_op {Z : Par} {it : IM} {S : List Nat} {g : TM} {body : SM} {D : Ends} {σ : St} {H : Hp} (h : tS Z (sFor it g body) D σ H) : tFor (tI Z it) (gD Z S g) (tS Z body) D σ H := by
  obtain ⟨T, P, ρ, fs, rp, q⟩ := h
  refine ⟨T, P, ρ, fs, rp, ?_⟩
  unfold sFor at q
  cases e1 : it ρ with
  | bad => rw [e1] at q; exact q
  | ex x ρ' => rw [e1] at q; exact q
  | ok p ρ1 =>
    obtain ⟨ds, lks⟩ := p
    rw [e1] at q
    simp only [RS] at q
    intro J H1 fs1 r1 f1 ⟨G, Y, w, hG, hY⟩
    have q : AftS Z T P H1 fs1 D (lockA lks ρ1 (forL g body ds)) := AftS.fr q f1
    obtain ⟨P', ρ2, r2, q2, _, hl⟩ := lockA_ok r1 q
    refine for_it w (fun i σ' H' => ∃ ρ' fs', Rp Z.K T P' ρ' σ' H' fs' ∧ Fr H1 (Own fs1) H' (Own fs') ∧ AftS Z T P' H' fs' D (forL g body (ds.drop i) ρ'))
      ⟨ρ2, fs1, r2, Fr.refl, q2⟩ (fun i σ' H' _ ⟨ρ', fs', r', f', _⟩ => hG H' (Kp.of hl r' f')) (fun i x σ' H2 H3 hi ⟨ρ', fs', r', f', q'⟩ y => ?_) (fun σ' H' ⟨ρ', fs', r', f', q'⟩ => ?_)
    · obtain ⟨ex, d, hd, rd⟩ := hY i H2 x H3 hi (Kp.of hl r' f') y
      have ed : ds.drop i = d :: ds.drop (i + 1) := by
        have hh := List.getElem?_eq_some_iff.mp hd
        rw [List.drop_eq_getElem_cons hh.1, hh.2]
      rw [ed] at q'
      have r3 : Rp Z.K T P' ρ' σ' H3 fs' := r'.grow ex fun a z => .inl z
      refine ⟨T, P', ρ', fs', .fz d, [], ⟨r3.tl0, .nil, (fun _ z => nomatch z), rfl, ?_⟩, ?_⟩
      · rw [Tl_nil]
        refine rd _ (hide_ex fun a u n e => ?_) fun b u hb e => ?_
        · obtain ⟨h1, n1⟩ := f' a u e fun z => n (.inr z)
          exact ⟨fun z => z.elim (fun z => n (.inl z)) n1, ex a u h1⟩
        · exact (hide_no (r'.hd hb)).trans e
      · have g0 : Fr H2 (Own fs') H3 (Ow [] fs') := fun a u e n => ⟨ex a u e, fun z => z.elim (fun z => nomatch z) n⟩
        cases e2 : g (.fz d) ρ' with
        | bad => simp only [forL, e2, RS] at q'; exact q'
        | ex x' ρ3 =>
          simp only [forL, e2, RS] at q'
          exact fun cls dd σ4 H4 fs4 rx r4 f4 => q' cls dd σ4 H4 fs4 rx r4 (g0.trans f4)
        | ok u ρ3 =>
          simp only [forL, e2, RS] at q'
          intro σ4 H4 fs4 _ r4 f4
          have f24 : Fr H2 (Own fs') H4 (Own fs4) := g0.trans f4
          refine ⟨T, P', ρ3, fs4, r4, ?_⟩
          cases e3 : body ρ3 with
          | nx ρ5 =>
            simp only [e3] at q'
            exact fun σ5 H5 fs5 r5 f5 => ⟨ρ5, fs5, r5, f'.trans (f24.trans f5), AftS.fr (AftS.fr q' f24) f5⟩
          | ct ρ5 =>
            simp only [e3] at q'
            exact fun σ5 H5 fs5 r5 f5 => ⟨ρ5, fs5, r5, f'.trans (f24.trans f5), AftS.fr (AftS.fr q' f24) f5⟩
          | bk ρ5 =>
            simp only [e3] at q'
            exact fun σ5 H5 fs5 r5 f5 => q' σ5 H5 fs5 r5 (f24.trans f5)
          | rt o ρ5 =>
            simp only [e3] at q'
            exact fun v σ5 H5 fs5 l r5 f5 => q' v σ5 H5 fs5 l r5 (f24.trans f5)
          | ex x ρ5 =>
            simp only [e3] at q'
            exact onX.fr0 q' f24
          | bad =>
            simp only [e3] at q'
            exact q'
    · rw [List.drop_length] at q'
      exact q' σ' H' fs' r' Fr.refl
section
variable {X : Cx} {W : WX} {pos : Pos} {tg iter c : Expr} {body : List Stmt} {it : IM} {S : List Nat} {g : TM} {gb : SM}
theorem ds_for (hp : PassesOwn (model X.prog X.w) X.A X.env X.xe) (hc : X.calm = true) (hi : DI X W tg iter it) (hg : DG X W tg S g) (hb : DSs X W body gb)
    (hs : ∀ x, foldedSetIterable iter X.env x = pure x := by intro _; rfl) : DS X W (.For tg iter body [] pos) (sFor it g gb) := ps_imp (ps_for hp hc hi hg hb hs) fun D σ H h => tFor_op (Z := zp X W) h
def whileN (t : M Bool) (body : SM) : Nat → SM
  | 0, _ => .bad
  | n + 1, ρ => RS (t ρ) fun b ρ1 => if b then (match body ρ1 with
    | .nx ρ2 => whileN t body n ρ2
    | .ct ρ2 => whileN t body n ρ2
    | .bk ρ2 => .nx ρ2
    | z => z) else .nx ρ1
/-- more turns than any while here has -/
def FUEL : Nat := 1000000000
def sWhile (t : M Bool) (body : SM) : SM := whileN t body FUEL
theorem tWhile_op {Z : Par} {t : M Bool} {gb : SM} {D : Ends} {σ : St} {H : Hp} (h : tS Z (sWhile t gb) D σ H) : tWhile (tDT Z t) (tS Z gb) D σ H := by
  obtain ⟨T, P, ρ, fs, rp, q⟩ := h
  refine ⟨fun m σ' H' => ∃ ρ' fs', Rp Z.K T P ρ' σ' H' fs' ∧ AftS Z T P H' fs' D (whileN t gb m ρ'), ⟨FUEL, ρ, fs, rp, q⟩, fun m σ' H' ⟨ρ', fs', r', q'⟩ => ?_⟩
  refine ⟨T, P, ρ', fs', r', ?_⟩
  cases m with
  | zero => exact q'.elim
  | succ n =>
    unfold whileN at q'
    refine AftS.bindT (k := fun b ρ1 => if b then (match gb ρ1 with
      | .nx ρ2 => whileN t gb n ρ2
      | .ct ρ2 => whileN t gb n ρ2
      | .bk ρ2 => .nx ρ2
      | z => z) else .nx ρ1) q' fun b ρ1 H1 fs1 r1 f1 q1 => ?_
    cases b with
    | false =>
      rw [if_neg Bool.false_ne_true] at q1
      rw [if_neg Bool.false_ne_true]
      exact q1 σ' H1 fs1 r1 Fr.refl
    | true =>
      rw [if_pos rfl] at q1
      rw [if_pos rfl]
      refine ⟨fun σ2 H2 => ∃ ρ2 fs2, Rp Z.K T P ρ2 σ2 H2 fs2 ∧ AftS Z T P H2 fs2 D (whileN t gb n ρ2), fun σ2 H2 x => ⟨n, Nat.lt_succ_self n, x⟩, T, P, ρ1, fs1, r1, ?_⟩
      cases e3 : gb ρ1 with
      | nx ρ5 => simp only [e3] at q1; exact fun σ5 H5 fs5 r5 f5 => ⟨ρ5, fs5, r5, AftS.fr q1 f5⟩
      | ct ρ5 => simp only [e3] at q1; exact fun σ5 H5 fs5 r5 f5 => ⟨ρ5, fs5, r5, AftS.fr q1 f5⟩
      | bk ρ5 => simp only [e3] at q1; exact q1
      | rt o ρ5 => simp only [e3] at q1; exact q1
      | ex x ρ5 => simp only [e3] at q1; exact q1
      | bad => simp only [e3] at q1; exact q1
theorem ds_while {t : M Bool} (hp : PassesOwn (model X.prog X.w) X.A X.env X.xe) (hc : DT X W c t) (hb : DSs X W body gb) : DS X W (.While c body [] pos) (sWhile t gb) := ps_imp (ps_while hp hc hb) fun D σ H h => tWhile_op (Z := zp X W) h
def IpOk (K : PySem.W.Frag) (r : TIp) (op : OT → OT → Option OT) : Prop := ∀ G H o1 o2 v1 v2 f1 f2 o Q, Ex G H → RepO K G H o1 v1 f1 → RepO K G H o2 v2 f2 → op o1 o2 = some o → Res K G H o Q → r v1 v2 H Q
def sAug (i : Nat) (op : OT → OT → Option OT) (f : M Arg) : SM := fun ρ => RS (x2 op (xVar i) f ρ) fun a ρ1 => match a with
  | .tmp o => RS (gNm i o ρ1) fun _ ρ2 => .nx ρ2
  | .slot _ => .bad
theorem tAug_op {Z : Par} {i : Nat} {r : TIp} {op : OT → OT → Option OT} (ho : IpOk Z.K r op) {f : M Arg} {D : Ends} {σ : St} {H : Hp} (h : tS Z (sAug i op f) D σ H) : tAug i (tD Z f) r D σ H := by
  have key : tD Z (x2 op (xVar i) f) σ H (fun z H2 => D.nx (σ.set i (some z)) H2) := by
    obtain ⟨T, P, ρ, fs, rp, q⟩ := h
    refine ⟨T, P, ρ, fs, rp, ?_⟩
    unfold sAug at q
    cases e1 : x2 op (xVar i) f ρ with
    | bad => rw [e1] at q; exact q
    | ex x ρ' => rw [e1] at q; exact q
    | ok a ρ1 =>
      rw [e1] at q
      simp only [RS] at q
      cases a with
      | slot j => exact q.elim
      | tmp o =>
        simp only at q
        intro v H1 fs1 l r1 f1
        have hn : gName i v σ H1 D.nx := by
          refine gNm_name (Z := Z) ⟨T, P, ρ1, fs1, o, l, r1, ?_⟩
          cases e2 : gNm i o ρ1 with
          | bad => rw [e2] at q; exact q
          | ex x ρ' =>
            unfold gNm at e2
            split at e2 <;> cases e2
          | ok u ρ2 =>
            rw [e2] at q
            exact fun σ' H' fs' _ rp' fr => q σ' H' fs' rp' (f1.trans fr)
        exact hn
  have k2 := t2_op (Z := Z) (r := r) ho key
  obtain ⟨T, P, ρ, fs, rp, q⟩ := k2
  unfold xVar at q
  cases e : slv ρ[i]? with
  | none => rw [e] at q; exact q.elim
  | some o =>
    rw [e] at q
    obtain ⟨v, hv⟩ := rp.has e
    exact ⟨v, hv, q v H fs [] ⟨rp.tl0, .nil, (fun _ z => nomatch z), rfl, hv⟩ (Fr.refl.imp fun x z => z.elim (fun z => nomatch z) id)⟩
theorem ds_aug {i : Nat} {r : TIp} {op : OT → OT → Option OT} {st : Stmt} {f : M Arg} (hk : IpOk X.K r op) (h : PS X st (tAug i (tD (zp X W) f) r)) : DS X W st (sAug i op f) := ps_imp h fun D σ H q => tAug_op (Z := zp X W) hk q
end
end Lay
namespace Lay
open PySem PySem.Spec L2
section
variable {K : PySem.W.Frag} {T : Addr → Prop} {P : Pins} {ρ : Env} {σ : St} {H H1 : Hp} {fs fs1 : Nat → List Addr} {lks : List Nat}
theorem RepDs.get {G : Hp} : ∀ {ds : List Dat} {vs : List V} {i : Nat} {x : V}, RepDs K G ds vs → vs[i]? = some x → ∃ d, ds[i]? = some d ∧ RepD K G d x
  | [], _, i, x, h, e => by rw [show _ = [] from h] at e; simp at e
  | d :: r, _, 0, x, h, e => by
    obtain ⟨v, r', rfl, q1, q2⟩ := h
    simp only [List.getElem?_cons_zero, Option.some.injEq] at e
    subst e
    exact ⟨d, rfl, q1⟩
  | d :: r, _, i + 1, x, h, e => by
    obtain ⟨v, r', rfl, q1, q2⟩ := h
    rw [List.getElem?_cons_succ] at e
    obtain ⟨d', h1, h2⟩ := RepDs.get q2 e
    exact ⟨d', by rw [List.getElem?_cons_succ]; exact h1, h2⟩
/-- the items of a list that may be walked: what its slot is, if it must be locked -/
def allFz : List OT → Option (List Dat)
  | [] => some []
  | .fz d :: r => match allFz r with
    | some ds => some (d :: ds)
    | none => none
  | _ :: _ => none
theorem allFz_eq : ∀ {os : List OT} {ds : List Dat}, allFz os = some ds → os = ds.map .fz
  | [], ds, h => by cases h; rfl
  | o :: r, ds, h => by
    cases o with
    | fz d =>
      unfold allFz at h
      cases c : allFz r with
      | none => simp [c] at h
      | some ds' =>
        simp only [c, Option.some.injEq] at h
        subst h
        rw [List.map_cons, ← allFz_eq c]
    | _ => cases h
theorem RepOs.ds {G H : Hp} : ∀ {ds : List Dat} {vs : List V} {l : List Addr}, RepOs K G H (ds.map .fz) vs l → RepDs K G ds vs
  | [], _, _, h => h.1
  | d :: r, _, _, h => by
    obtain ⟨v, r', f1, f2, rfl, rfl, q1, q2⟩ := h
    exact ⟨v, r', rfl, q1.2, RepOs.ds q2⟩
theorem IsIt.list {a : Addr} {vs : List V} {ds : List Dat} (hS : ∀ H2, Kp σ H1 fs1 lks H2 → SqL K H2 a vs) (hd : RepDs K (hide (Hd T fs1) H1) ds vs) : IsIt K T σ H1 fs1 lks (Itl K a) ds := by
  have hl : vs.length = ds.length := hd.length
  refine ⟨_, _, by rw [← hl]; exact walk_list, hS, fun i H2 x H3 hi hk y => ?_⟩
  obtain ⟨rfl, e⟩ := y
  obtain ⟨d, h1, h2⟩ := hd.get e
  exact ⟨Ex.refl _, d, h1, fun G' ex _ => RepD.mono ex d x h2⟩
theorem IsIt.tup {a : Addr} {vs : List V} {ds : List Dat} (hS : ∀ H2, Kp σ H1 fs1 lks H2 → SqT K H2 a vs) (hd : RepDs K (hide (Hd T fs1) H1) ds vs) : IsIt K T σ H1 fs1 lks (Itt K a) ds := by
  have hl : vs.length = ds.length := hd.length
  refine ⟨_, _, by rw [← hl]; exact walk_tup, hS, fun i H2 x H3 hi hk y => ?_⟩
  obtain ⟨rfl, e⟩ := y
  obtain ⟨d, h1, h2⟩ := hd.get e
  exact ⟨Ex.refl _, d, h1, fun G' ex _ => RepD.mono ex d x h2⟩
theorem Kp.sqT {H2 : Hp} {a : Addr} {vs : List V} (k : Kp σ H1 fs1 lks H2) (h : SqT K (hide (Hd T fs1) H1) a vs) : SqT K H2 a vs := by
  have ex : Ex (hide (Hd T fs1) H1) H2 := fun b x e => by
    obtain ⟨n, e⟩ := of_hide e
    exact k.1 b x e fun z => n (.inr z)
  exact ex.sqT h
theorem Kp.sqL {H2 : Hp} {a : Addr} {vs : List V} (k : Kp σ H1 fs1 lks H2) (h : SqL K (hide (Hd T fs1) H1) a vs) : SqL K H2 a vs := by
  have ex : Ex (hide (Hd T fs1) H1) H2 := fun b x e => by
    obtain ⟨n, e⟩ := of_hide e
    exact k.1 b x e fun z => n (.inr z)
  exact ex.sqL h
end
/-- the items of what a walk is over: a name's list is locked, a new one is given away -/
def itemsOf (ρ : Env) : Arg → Option (List Dat × List Nat × Env)
  | .tmp (.fz (.tup ds)) => some (ds, [], ρ)
  | .tmp (.fz (.lst ds)) => some (ds, [], ρ)
  | .tmp (.lst os) => some (frzs os, [], ρ)
  | .tmp _ => none
  | .slot i => match ρ[i]? with
    | some (.vl (.fz (.tup ds))) => some (ds, [], ρ)
    | some (.io (.fz (.tup ds))) => some (ds, [], ρ)
    | some (.lk (.fz (.tup ds))) => some (ds, [], ρ)
    | some (.vl (.fz (.lst ds))) => some (ds, [], ρ)
    | some (.io (.fz (.lst ds))) => some (ds, [], ρ)
    | some (.lk (.fz (.lst ds))) => some (ds, [], ρ)
    | some (.vl (.lst os)) => match allFz os with
      | some ds => some (ds, [i], ρ)
      | none => some (frzs os, [], ρ.set i (.vl (.fz (.lst (frzs os)))))
    | some (.io (.lst os)) => match allFz os with
      | some ds => some (ds, [i], ρ)
      | none => none
    | some (.lk (.lst os)) => match allFz os with
      | some ds => some (ds, [i], ρ)
      | none => none
    | _ => none
/-- for .. in e -/
def iSeq (f : M Arg) : IM := fun ρ => (f ρ).bind fun a ρ1 => match itemsOf ρ1 a with
  | some (ds, lks, ρ2) => .ok (ds, lks) ρ2
  | none => .bad
def SqIt (K : PySem.W.Frag) (T : Addr → Prop) (σ : St) (H1 : Hp) (fs1 : Nat → List Addr) (lks : List Nat) (v : V) (ds : List Dat) : Prop :=
  ∃ a vs, v = .ref a ∧ RepDs K (hide (Hd T fs1) H1) ds vs ∧ ((∀ H2, Kp σ H1 fs1 lks H2 → SqT K H2 a vs) ∨ ∀ H2, Kp σ H1 fs1 lks H2 → SqL K H2 a vs)
theorem Kp.refl {σ : St} {H1 : Hp} {fs1 : Nat → List Addr} {lks : List Nat} : Kp σ H1 fs1 lks H1 := ⟨fun _ _ e _ => e, fun _ _ _ _ _ e => e⟩
section
variable {K : PySem.W.Frag} {T : Addr → Prop} {P : Pins} {ρ ρ2 : Env} {σ : St} {H H1 : Hp} {fs fs1 : Nat → List Addr} {lks : List Nat} {ds : List Dat}
theorem itemsOf_ok {a : Arg} {v : V} {l : List Addr} (r : RpA K T P ρ σ H fs a v l) (e : itemsOf ρ a = some (ds, lks, ρ2)) : ∃ fs2, Rp K T P ρ2 σ H fs2 ∧ (∀ b, Own fs2 b → Own fs b) ∧ SqIt K T σ H fs2 lks v ds := by
  have rl := r.rp.unl
  have exl : Ex (hide (Hd (Tl T l) fs) H) (hide (Hd T fs) H) := hide_ex fun a x n e => ⟨fun z => n (z.imp Or.inl id), e⟩
  have tupd : ∀ {ds : List Dat} {G : Hp}, Ex G (hide (Hd T fs) H) → RepD K G (.tup ds) v → SqIt K T σ H fs [] v ds := fun ex h => by
    obtain ⟨b, vs, rfl, q1, q2⟩ := h
    exact ⟨b, vs, rfl, RepDs.mono ex _ vs q2, .inl fun H2 k => k.sqT (ex.sqT q1)⟩
  have lstd : ∀ {ds : List Dat} {G : Hp}, Ex G (hide (Hd T fs) H) → RepD K G (.lst ds) v → SqIt K T σ H fs [] v ds := fun ex h => by
    obtain ⟨b, vs, rfl, q1, q2⟩ := h
    exact ⟨b, vs, rfl, RepDs.mono ex _ vs q2, .inr fun H2 k => k.sqL (.inl (.inl (ex b _ q1)))⟩
  cases a with
  | tmp o =>
    have har : RepO K (hide (Hd (Tl T l) fs) H) H o v l := r.ar
    cases o with
    | fz d =>
      cases d with
      | tup ds' => cases e; exact ⟨fs, rl, fun _ z => z, tupd exl har.2⟩
      | lst ds' => cases e; exact ⟨fs, rl, fun _ z => z, lstd exl har.2⟩
      | _ => cases e
    | lst os =>
      cases e
      have hl : RepD K (hide (Hd T fs) H) (frz (.lst os)) v := RepO.freeze exl (.lst os) v l (fun b hb x e => (hide_no (fun z => z.elim (r.nt b hb) (r.rp.noair b hb))).trans e) har
      exact ⟨fs, rl, fun _ z => z, lstd (Ex.refl _) hl⟩
    | dic os => cases e
  | slot i =>
    obtain ⟨rfl, hv⟩ := r.ar
    have rl' : Rp K T P ρ σ H fs := rl
    unfold itemsOf at e
    cases es : ρ[i]? with
    | none => simp [es] at e
    | some s =>
      obtain ⟨x, hx, q⟩ := rl'.slot i s es
      have val : ∀ o, slv (some s) = some o → RepO K (hide (Hd T fs) H) H o v (fs i) := fun o e2 => by
        obtain ⟨w, hw, q⟩ := slv_of q e2
        rw [hv] at hx
        cases hx
        cases hw
        exact q
      -- a list that is locked
      have lock : ∀ {os : List OT}, slv (some s) = some (.lst os) → os = ds.map .fz → SqIt K T σ H fs [i] v ds := fun {os} e2 e3 => by
        obtain ⟨b, vs, f, rfl, ef, hb, ro⟩ := val _ e2
        subst e3
        exact ⟨b, vs, rfl, RepOs.ds ro, .inr fun H2 k => .inl (.inl (k.2 i List.mem_cons_self b vs hv hb))⟩
      cases s with
      | un => simp [es] at e
      | vl o =>
        cases o with
        | fz d =>
          cases d with
          | tup ds' => simp only [es, Option.some.injEq, Prod.mk.injEq] at e; obtain ⟨rfl, rfl, rfl⟩ := e; exact ⟨fs, rl', fun _ z => z, tupd (Ex.refl _) (val _ rfl).2⟩
          | lst ds' => simp only [es, Option.some.injEq, Prod.mk.injEq] at e; obtain ⟨rfl, rfl, rfl⟩ := e; exact ⟨fs, rl', fun _ z => z, lstd (Ex.refl _) (val _ rfl).2⟩
          | _ => simp [es] at e
        | lst os =>
          simp only [es] at e
          cases c : allFz os with
          | some ds' =>
            simp only [c, Option.some.injEq, Prod.mk.injEq] at e
            obtain ⟨rfl, rfl, rfl⟩ := e
            exact ⟨fs, rl', fun _ z => z, lock rfl (allFz_eq c)⟩
          | none =>
            simp only [c, Option.some.injEq, Prod.mk.injEq] at e
            obtain ⟨rfl, rfl, rfl⟩ := e
            obtain ⟨h1, h2, v', h3, h4⟩ := rl'.freeze es
            rw [hv] at h3
            cases h3
            obtain ⟨b, vs, rfl, q1, q2⟩ := h4
            exact ⟨_, h1, h2, b, vs, rfl, q2, .inr fun H2 k => k.sqL (.inl (.inl q1))⟩
        | dic os => simp [es] at e
      | io o =>
        cases o with
        | fz d =>
          cases d with
          | tup ds' => simp only [es, Option.some.injEq, Prod.mk.injEq] at e; obtain ⟨rfl, rfl, rfl⟩ := e; exact ⟨fs, rl', fun _ z => z, tupd (Ex.refl _) (val _ rfl).2⟩
          | lst ds' => simp only [es, Option.some.injEq, Prod.mk.injEq] at e; obtain ⟨rfl, rfl, rfl⟩ := e; exact ⟨fs, rl', fun _ z => z, lstd (Ex.refl _) (val _ rfl).2⟩
          | _ => simp [es] at e
        | lst os =>
          simp only [es] at e
          cases c : allFz os with
          | some ds' =>
            simp only [c, Option.some.injEq, Prod.mk.injEq] at e
            obtain ⟨rfl, rfl, rfl⟩ := e
            exact ⟨fs, rl', fun _ z => z, lock rfl (allFz_eq c)⟩
          | none => simp [c] at e
        | dic os => simp [es] at e
      | lk o =>
        cases o with
        | fz d =>
          cases d with
          | tup ds' => simp only [es, Option.some.injEq, Prod.mk.injEq] at e; obtain ⟨rfl, rfl, rfl⟩ := e; exact ⟨fs, rl', fun _ z => z, tupd (Ex.refl _) (val _ rfl).2⟩
          | lst ds' => simp only [es, Option.some.injEq, Prod.mk.injEq] at e; obtain ⟨rfl, rfl, rfl⟩ := e; exact ⟨fs, rl', fun _ z => z, lstd (Ex.refl _) (val _ rfl).2⟩
          | _ => simp [es] at e
        | lst os =>
          simp only [es] at e
          cases c : allFz os with
          | some ds' =>
            simp only [c, Option.some.injEq, Prod.mk.injEq] at e
            obtain ⟨rfl, rfl, rfl⟩ := e
            exact ⟨fs, rl', fun _ z => z, lock rfl (allFz_eq c)⟩
          | none => simp [c] at e
        | dic os => simp [es] at e
end
/-- a list or a tuple is walked -/
def iSq (K : PySem.W.Frag) (te : TE) : TI := fun σ H R => te σ H fun x H1 => ∃ a, x = .ref a ∧ (((∃ xs, SqL K H1 a xs) ∧ R (Itl K a) H1) ∨ ((∃ xs, SqT K H1 a xs) ∧ R (Itt K a) H1))
theorem pi_sq {X : Cx} {tg l : Expr} {tl : TE} (hl : PE X l tl) : PI X tg l (iSq X.K tl) := by
  refine ⟨fun pins s σ H R I h => ?_⟩
  refine thn (hl.run pins s σ H _ I h) fun v s1 ⟨x, H1, I1, r1, q1⟩ => ?_
  obtain ⟨a, e, q⟩ := q1
  subst e
  cases r1
  rcases q with ⟨⟨xs, hq⟩, q⟩ | ⟨⟨xs, hq⟩, q⟩
  · obtain ⟨its, rv, p, hz⟩ := I1.list hq
    refine PySem.wpAny_pyIter_list p.isList ?_
    refine ⟨s1.heap.objs.size, [s1.heap.objs.size], _, _, H1, rfl, I1.kept (t' := s1.toks) fun b o e => Heap.get?_push_of_some _ e, turn_list a _, ⟨_, Heap.get?_push_size _ rfl, rfl, rfl⟩, fun b hb => ?_, q⟩
    have e : b = s1.heap.objs.size := by simpa using hb
    subst e
    exact I1.fpOk (Nat.le_refl _) (I1.hok.fresh (Nat.le_refl _))
  · obtain ⟨its, rv, p, hz⟩ := I1.tuple hq
    refine PySem.wpAny_pyIter_tuple (show s1.heap.IsTuple a its.toArray from p) ?_
    refine ⟨s1.heap.objs.size, [s1.heap.objs.size], _, _, H1, rfl, I1.kept (t' := s1.toks) fun b o e => Heap.get?_push_of_some _ e, turn_tuple a _, ⟨_, Heap.get?_push_size _ rfl, rfl, rfl⟩, fun b hb => ?_, q⟩
    have e : b = s1.heap.objs.size := by simpa using hb
    subst e
    exact I1.fpOk (Nat.le_refl _) (I1.hok.fresh (Nat.le_refl _))
section
variable {X : Cx} {W : WX} {tg e : Expr} {f : M Arg}
theorem di_seq (he : DE X W e f) : DI X W tg e (iSeq f) := pi_imp (pi_sq he) fun σ H Q ⟨T, P, ρ, fs, rp, q⟩ => by
  refine ⟨T, P, ρ, fs, rp, ?_⟩
  unfold iSeq at q
  cases e1 : f ρ with
  | bad => rw [e1] at q; exact q
  | ex x ρ' => rw [e1] at q; exact q
  | ok a ρ1 =>
    rw [e1] at q
    simp only [R.bind] at q
    intro v H1 fs1 l1 r1 f1
    cases c : itemsOf ρ1 a with
    | none => simp only [c] at q; exact q.elim
    | some p =>
      obtain ⟨ds, lks, ρ2⟩ := p
      simp only [c] at q
      obtain ⟨fs2, r2, s2, b, vs, rfl, rd, h⟩ := itemsOf_ok r1 c
      have ff : Fr H (Own fs) H1 (Own fs2) := f1.imp fun x z => .inr (s2 x z)
      refine ⟨b, rfl, ?_⟩
      rcases h with h | h
      · exact .inr ⟨⟨vs, h H1 Kp.refl⟩, q _ H1 fs2 r2 ff (IsIt.tup h rd)⟩
      · exact .inl ⟨⟨vs, h H1 Kp.refl⟩, q _ H1 fs2 r2 ff (IsIt.list h rd)⟩
end
def rngL (lo : Int) : Nat → List Dat
  | 0 => []
  | n + 1 => .int lo :: rngL (lo + 1) n
theorem rngL_length : ∀ (n : Nat) (lo : Int), (rngL lo n).length = n
  | 0, _ => rfl
  | n + 1, lo => by show (rngL (lo + 1) n).length + 1 = _; rw [rngL_length n]
theorem rngL_get : ∀ (n : Nat) (lo : Int) (i : Nat), i < n → (rngL lo n)[i]? = some (.int (lo + i))
  | 0, _, i, h => absurd h (Nat.not_lt_zero i)
  | n + 1, lo, 0, _ => by simp [rngL]
  | n + 1, lo, i + 1, h => by
    show (rngL (lo + 1) n)[i]? = _
    rw [rngL_get n (lo + 1) i (Nat.lt_of_succ_lt_succ h)]
    congr 2
    show lo + 1 + (i : Int) = lo + ((i + 1 : Nat) : Int)
    omega
/-- range(n), range(a, b) of numbers in the line -/
def rngOk (i : Int) : Bool := decide (-(2 ^ 62) ≤ i) && decide (i < 2 ^ 62)
def iRg1 (f : M (List Arg)) : IM := fun ρ => (f ρ).bind fun as ρ1 => match looks ρ1 as with
  | some [.fz (.int j)] => if rngOk j then .ok (rngL 0 j.toNat, []) ρ1 else .bad
  | _ => .bad
def iRg2 (f : M (List Arg)) : IM := fun ρ => (f ρ).bind fun as ρ1 => match looks ρ1 as with
  | some [.fz (.int i), .fz (.int j)] => if rngOk i && rngOk j then .ok (rngL i (j - i).toNat, []) ρ1 else .bad
  | _ => .bad
theorem IsIt.range {K : PySem.W.Frag} {T : Addr → Prop} {σ : St} {H1 : Hp} {fs1 : Nat → List Addr} {lks : List Nat} {lo : Int} {n : Nat} : IsIt K T σ H1 fs1 lks (Itr lo n) (rngL lo n) := by
  refine ⟨_, _, by rw [rngL_length]; exact walk_range, fun _ _ => True.intro, fun i H2 x H3 hi _ y => ?_⟩
  obtain ⟨rfl, rfl⟩ := y
  rw [rngL_length] at hi
  exact ⟨Ex.refl _, _, rngL_get n lo i hi, fun G' _ _ => rfl⟩
section
variable {X : Cx} {W : WX} {tg a b : Expr} {p pos : Pos} {f : M (List Arg)}
theorem di_rng1 (hg : Gl X "range") (hm : X.mg "range" = none) (ha : DA X W [a] f) (hs : starEach [a] X.env = [(false, eval a X.env)] := by rfl) : DI X W tg (.Call (.Name "range" p) [a] [] pos) (iRg1 f) := pi_imp (pi_range1 hg hm ha hs) fun σ H Q ⟨T, P, ρ, fs, rp, q⟩ => by
  refine ⟨T, P, ρ, fs, rp, ?_⟩
  unfold iRg1 at q
  cases e1 : f ρ with
  | bad => rw [e1] at q; exact q
  | ex x ρ' => rw [e1] at q; exact q
  | ok as ρ1 =>
    rw [e1] at q
    simp only [R.bind] at q
    intro vs H1 fs1 l1 r1 f1
    cases c : looks ρ1 as with
    | none => simp only [c] at q; exact q.elim
    | some os =>
      simp only [c] at q
      have sv := see_all r1.rp r1.ar c
      split at q
      · rename_i j heq
        cases heq
        obtain ⟨v, r', _, rfl, ⟨_, hv⟩, hr⟩ := sv
        cases (show v = .int j from hv)
        cases (show r' = [] from hr)
        by_cases h : rngOk j = true
        · rw [if_pos h] at q
          simp only [rngOk, Bool.and_eq_true, decide_eq_true_eq] at h
          exact ⟨j, rfl, h.1, h.2, q _ H1 fs1 r1.rp.unl (f1.imp fun _ z => .inr z) IsIt.range⟩
        · rw [if_neg h] at q; exact q.elim
      · exact q.elim
theorem di_rng2 (hg : Gl X "range") (hm : X.mg "range" = none) (ha : DA X W [a, b] f) (hs : starEach [a, b] X.env = [(false, eval a X.env), (false, eval b X.env)] := by rfl) (hs2 : starEach [b] X.env = [(false, eval b X.env)] := by rfl) : DI X W tg (.Call (.Name "range" p) [a, b] [] pos) (iRg2 f) := pi_imp (pi_range2 hg hm ha hs hs2) fun σ H Q ⟨T, P, ρ, fs, rp, q⟩ => by
  refine ⟨T, P, ρ, fs, rp, ?_⟩
  unfold iRg2 at q
  cases e1 : f ρ with
  | bad => rw [e1] at q; exact q
  | ex x ρ' => rw [e1] at q; exact q
  | ok as ρ1 =>
    rw [e1] at q
    simp only [R.bind] at q
    intro vs H1 fs1 l1 r1 f1
    cases c : looks ρ1 as with
    | none => simp only [c] at q; exact q.elim
    | some os =>
      simp only [c] at q
      have sv := see_all r1.rp r1.ar c
      split at q
      · rename_i i j heq
        cases heq
        obtain ⟨v, r', _, rfl, ⟨_, hv⟩, v2, r2, _, rfl, ⟨_, hv2⟩, hr⟩ := sv
        cases (show v = .int i from hv)
        cases (show v2 = .int j from hv2)
        cases (show r2 = [] from hr)
        by_cases h : (rngOk i && rngOk j) = true
        · rw [if_pos h] at q
          simp only [rngOk, Bool.and_eq_true, decide_eq_true_eq] at h
          exact ⟨i, j, rfl, ⟨h.1.1, h.1.2, h.2.1, h.2.2⟩, q _ H1 fs1 r1.rp.unl (f1.imp fun _ z => .inr z) IsIt.range⟩
        · rw [if_neg h] at q; exact q.elim
      · exact q.elim
end
end Lay
namespace Lay
open PySem PySem.Spec L2
def lockE : List Nat → Env → Option (Env × List (Nat × Bool))
  | [], ρ => some (ρ, [])
  | i :: r, ρ => match ρ[i]? with
    | some (.vl (.lst os)) => match lockE r (ρ.set i (.lk (.lst os))) with
      | some (ρ2, us) => some (ρ2, us ++ [(i, false)])
      | none => none
    | some (.io (.lst os)) => match lockE r (ρ.set i (.lk (.lst os))) with
      | some (ρ2, us) => some (ρ2, us ++ [(i, true)])
      | none => none
    | some (.lk _) => lockE r ρ
    | _ => none
def unlE : List (Nat × Bool) → Env → Option Env
  | [], ρ => some ρ
  | (i, b) :: us, ρ => match unlS i b ρ with
    | some ρ1 => unlE us ρ1
    | none => none
theorem unlE_app : ∀ {us vs : List (Nat × Bool)} {ρ ρ2 : Env}, unlE (us ++ vs) ρ = some ρ2 → ∃ ρ1, unlE us ρ = some ρ1 ∧ unlE vs ρ1 = some ρ2
  | [], vs, ρ, ρ2, h => ⟨ρ, rfl, h⟩
  | (i, b) :: us, vs, ρ, ρ2, h => by
    unfold unlE at h
    rw [List.cons_append] at h
    cases c : unlS i b ρ with
    | none => simp [unlE, c] at h
    | some ρ1 =>
      simp only [c] at h
      obtain ⟨ρ3, h1, h2⟩ := unlE_app h
      exact ⟨ρ3, by simp only [unlE, c]; exact h1, h2⟩
section
variable {K : PySem.W.Frag} {σ : St} {H : Hp} {fs : Nat → List Addr}
theorem lockE_ok : ∀ {lks : List Nat} {T : Addr → Prop} {P : Pins} {ρ ρ2 : Env} {us : List (Nat × Bool)}, Rp K T P ρ σ H fs → lockE lks ρ = some (ρ2, us) →
    ∃ P', Rp K T P' ρ2 σ H fs ∧ (∀ i ∈ lks, ∃ a vs, σ[i]? = some (some (.ref a)) ∧ H a = some (.lst vs) ∧ P' i = some (.ref a, some vs)) ∧ (∀ j p, P j = some p → p.2 ≠ none → P' j = some p) ∧
      ∀ {T' : Addr → Prop} {ρ3 ρ4 : Env} {σ' : St} {H' : Hp} {fs' : Nat → List Addr}, Rp K T' P' ρ3 σ' H' fs' → unlE us ρ3 = some ρ4 → Rp K T' P ρ4 σ' H' fs'
  | [], T, P, ρ, ρ2, us, r, e => by
    cases e
    refine ⟨P, r, (fun _ z => nomatch z), (fun _ _ h _ => h), fun r3 e3 => ?_⟩
    cases e3
    exact r3
  | i :: lks, T, P, ρ, ρ2, us, r, e => by
    have go : ∀ {b : Bool} {os : List OT}, (ρ[i]? = some (.vl (.lst os)) ∧ b = false ∨ ρ[i]? = some (.io (.lst os)) ∧ b = true) → (match lockE lks (ρ.set i (.lk (.lst os))) with
        | some (ρ2, us) => some (ρ2, us ++ [(i, b)])
        | none => none) = some (ρ2, us) → ∃ P', Rp K T P' ρ2 σ H fs ∧ (∀ i' ∈ i :: lks, ∃ a vs, σ[i']? = some (some (.ref a)) ∧ H a = some (.lst vs) ∧ P' i' = some (.ref a, some vs)) ∧ (∀ j p, P j = some p → p.2 ≠ none → P' j = some p) ∧
      ∀ {T' : Addr → Prop} {ρ3 ρ4 : Env} {σ' : St} {H' : Hp} {fs' : Nat → List Addr}, Rp K T' P' ρ3 σ' H' fs' → unlE us ρ3 = some ρ4 → Rp K T' P ρ4 σ' H' fs' := fun {b os} hs e2 => by
      obtain ⟨a, vs, h1, h2, r1, h3, h4⟩ := r.lock (hs.elim (fun z => .inl z.1) (fun z => .inr z.1))
      have hb : P i = if b then some (.ref a, none) else none := by
        rcases hs with ⟨z, rfl⟩ | ⟨z, rfl⟩
        · exact h3 z
        · exact h4 z
      have hPi : pset P i (.ref a, some vs) i = some (.ref a, some vs) := if_pos rfl
      have hPj : ∀ j, j ≠ i → pset P i (.ref a, some vs) j = P j := fun j hj => if_neg hj
      cases c : lockE lks (ρ.set i (.lk (.lst os))) with
      | none => rw [c] at e2; cases e2
      | some p =>
        obtain ⟨ρ5, us5⟩ := p
        rw [c] at e2
        simp only [Option.some.injEq, Prod.mk.injEq] at e2
        obtain ⟨rfl, rfl⟩ := e2
        obtain ⟨P', g1, g2, g3, g4⟩ := lockE_ok r1 c
        have kp : ∀ j p, P j = some p → p.2 ≠ none → pset P i (.ref a, some vs) j = some p := fun j p h hn => by
          by_cases hj : j = i
          · subst hj
            rw [hb] at h
            cases b with
            | true => cases h; exact absurd rfl hn
            | false => cases h
          · rw [hPj j hj]; exact h
        refine ⟨P', g1, fun i' hi' => ?_, fun j p h hn => g3 j p (kp j p h hn) hn, fun r3 e3 => ?_⟩
        · rcases List.mem_cons.mp hi' with z | z
          · subst z
            exact ⟨a, vs, h1, h2, g3 i' _ hPi (fun z => nomatch z)⟩
          · exact g2 i' z
        · obtain ⟨ρ6, k1, k2⟩ := unlE_app e3
          have r6 := g4 r3 k1
          unfold unlE at k2
          cases c2 : unlS i b ρ6 with
          | none => rw [c2] at k2; cases k2
          | some ρ7 =>
            rw [c2] at k2
            have k2 : some ρ7 = some _ := k2
            cases k2
            exact r6.unlock hPi hPj hb c2
    unfold lockE at e
    cases es : ρ[i]? with
    | none => simp [es] at e
    | some s =>
      cases s with
      | un => simp [es] at e
      | vl o =>
        cases o with
        | lst os => simp only [es] at e; exact go (.inl ⟨es, rfl⟩) e
        | _ => simp [es] at e
      | io o =>
        cases o with
        | lst os => simp only [es] at e; exact go (.inr ⟨es, rfl⟩) e
        | _ => simp [es] at e
      | lk o =>
        simp only [es] at e
        obtain ⟨P', g1, g2, g3, g4⟩ := lockE_ok r e
        obtain ⟨x, hx, v, rfl, _, vs, a, hp, rfl, _, ha⟩ := r.slot i _ es
        refine ⟨P', g1, fun i' hi' => ?_, g3, g4⟩
        rcases List.mem_cons.mp hi' with z | z
        · subst z
          exact ⟨a, vs, hx, ha, g3 i' _ hp (fun z => nomatch z)⟩
        · exact g2 i' z
end
def wipeE : List Nat → Env → Env
  | [], ρ => ρ
  | v :: vs, ρ => (wipeE vs ρ).set v .un
/-- the own names of a comprehension get back what they were outside -/
def restE (ρ0 : Env) : List Nat → Env → Env
  | [], ρ => ρ
  | v :: vs, ρ => match ρ0[v]? with
    | some s => (restE ρ0 vs ρ).set v s
    | none => restE ρ0 vs ρ
/-- whose is hidden within -/
def wT (fs : Nat → List Addr) (T : Addr → Prop) : List Nat → Addr → Prop
  | [] => T
  | v :: vs => fun a => wT fs T vs a ∨ a ∈ fs v
def wP (P : Pins) (vs : List Nat) : Pins := fun j => if j ∈ vs then none else P j
def wF (fs : Nat → List Addr) (vs : List Nat) : Nat → List Addr := fun j => if j ∈ vs then [] else fs j
theorem wT_iff {fs : Nat → List Addr} {T : Addr → Prop} {a : Addr} : ∀ {vs : List Nat}, wT fs T vs a ↔ T a ∨ ∃ v ∈ vs, a ∈ fs v
  | [] => by simp [wT]
  | v :: vs => by
    show (wT fs T vs a ∨ a ∈ fs v) ↔ _
    rw [wT_iff (vs := vs)]
    constructor
    · rintro ((h | ⟨w, h1, h2⟩) | h)
      · exact .inl h
      · exact .inr ⟨w, List.mem_cons_of_mem _ h1, h2⟩
      · exact .inr ⟨v, List.mem_cons_self, h⟩
    · rintro (h | ⟨w, h1, h2⟩)
      · exact .inl (.inl h)
      · rcases List.mem_cons.mp h1 with z | z
        · subst z; exact .inr h2
        · exact .inl (.inr ⟨w, z, h2⟩)
theorem wF_own {fs : Nat → List Addr} {vs : List Nat} {a : Addr} (h : Own (wF fs vs) a) : ∃ j, j ∉ vs ∧ a ∈ fs j := by
  obtain ⟨j, hj⟩ := h
  unfold wF at hj
  by_cases e : j ∈ vs
  · rw [if_pos e] at hj; cases hj
  · rw [if_neg e] at hj; exact ⟨j, e, hj⟩
theorem wipeE_get {vs : List Nat} {ρ : Env} {j : Nat} : (wipeE vs ρ)[j]? = if j ∈ vs then (ρ[j]?).map fun _ => Sl.un else ρ[j]? := by
  induction vs with
  | nil => simp [wipeE]
  | cons v vs ih =>
    show ((wipeE vs ρ).set v .un)[j]? = _
    by_cases hj : v = j
    · subst hj
      rw [if_pos List.mem_cons_self]
      have hl : (wipeE vs ρ).length = ρ.length := by
        clear ih
        induction vs with
        | nil => rfl
        | cons w vs ih => show ((wipeE vs ρ).set w .un).length = _; rw [List.length_set]; exact ih
      by_cases hlt : v < ρ.length
      · rw [List.getElem?_set_self (by rw [hl]; exact hlt), List.getElem?_eq_getElem hlt]; rfl
      · rw [List.getElem?_eq_none_iff.mpr (by rw [List.length_set, hl]; omega), List.getElem?_eq_none_iff.mpr (by omega)]; rfl
    · rw [List.getElem?_set_ne hj, ih]
      by_cases hm : j ∈ vs
      · rw [if_pos hm, if_pos (List.mem_cons_of_mem _ hm)]
      · rw [if_neg hm, if_neg (fun z => (List.mem_cons.mp z).elim (fun z => hj z.symm) hm)]
theorem wipe_get {vs : List Nat} {σ : St} {j : Nat} : (wipe σ vs)[j]? = if j ∈ vs then (σ[j]?).map fun _ => none else σ[j]? := by
  induction vs with
  | nil => simp [wipe]
  | cons v vs ih =>
    show ((wipe σ vs).set v none)[j]? = _
    by_cases hj : v = j
    · subst hj
      rw [if_pos List.mem_cons_self]
      have hl : (wipe σ vs).length = σ.length := wipe_length σ vs
      by_cases hlt : v < σ.length
      · rw [List.getElem?_set_self (by rw [hl]; exact hlt), List.getElem?_eq_getElem hlt]; rfl
      · rw [List.getElem?_eq_none_iff.mpr (by rw [List.length_set, hl]; omega), List.getElem?_eq_none_iff.mpr (by omega)]; rfl
    · rw [List.getElem?_set_ne hj, ih]
      by_cases hm : j ∈ vs
      · rw [if_pos hm, if_pos (List.mem_cons_of_mem _ hm)]
      · rw [if_neg hm, if_neg (fun z => (List.mem_cons.mp z).elim (fun z => hj z.symm) hm)]
theorem restE_get {ρ0 : Env} {vs : List Nat} {ρ : Env} {j : Nat} (hl : ρ.length = ρ0.length) : (restE ρ0 vs ρ)[j]? = if j ∈ vs then ρ0[j]? else ρ[j]? := by
  have len : ∀ vs, (restE ρ0 vs ρ).length = ρ0.length := by
    intro vs
    induction vs with
    | nil => exact hl
    | cons w vs ih =>
      unfold restE
      cases ρ0[w]? with
      | none => exact ih
      | some s => rw [List.length_set]; exact ih
  induction vs with
  | nil => simp [restE]
  | cons v vs ih =>
    unfold restE
    cases e : ρ0[v]? with
    | none =>
      simp only
      rw [ih]
      by_cases hm : j ∈ vs
      · rw [if_pos hm, if_pos (List.mem_cons_of_mem _ hm)]
      · by_cases hj : j = v
        · subst hj
          rw [if_neg hm, if_pos List.mem_cons_self, e]
          exact List.getElem?_eq_none_iff.mpr (by rw [hl]; exact List.getElem?_eq_none_iff.mp e)
        · rw [if_neg hm, if_neg (fun z => (List.mem_cons.mp z).elim hj hm)]
    | some s =>
      simp only
      by_cases hj : v = j
      · subst hj
        rw [if_pos List.mem_cons_self, List.getElem?_set_self (by rw [len]; exact (List.getElem?_eq_some_iff.mp e).1), e]
      · rw [List.getElem?_set_ne hj, ih]
        by_cases hm : j ∈ vs
        · rw [if_pos hm, if_pos (List.mem_cons_of_mem _ hm)]
        · rw [if_neg hm, if_neg (fun z => (List.mem_cons.mp z).elim (fun z => hj z.symm) hm)]
section
variable {K : PySem.W.Frag} {T : Addr → Prop} {P : Pins} {ρ ρ' : Env} {σ σ' : St} {H H' : Hp} {fs fs' : Nat → List Addr} {vs : List Nat}
/-- within a comprehension its own names are new -/
theorem Rp.wiped (r : Rp K T P ρ σ H fs) : Rp K (wT fs T vs) (wP P vs) (wipeE vs ρ) (wipe σ vs) H (wF fs vs) := by
  have eqh : ∀ a, Hd (wT fs T vs) (wF fs vs) a ↔ Hd T fs a := fun a => by
    constructor
    · rintro (z | z)
      · rcases wT_iff.mp z with z | ⟨v, _, z⟩
        · exact .inl z
        · exact .inr ⟨v, z⟩
      · obtain ⟨j, _, z⟩ := wF_own z
        exact .inr ⟨j, z⟩
    · rintro (z | ⟨j, z⟩)
      · exact .inl (wT_iff.mpr (.inl z))
      · by_cases h : j ∈ vs
        · exact .inl (wT_iff.mpr (.inr ⟨j, h, z⟩))
        · exact .inr ⟨j, by unfold wF; rw [if_neg h]; exact z⟩
  have eh : hide (Hd (wT fs T vs) (wF fs vs)) H = hide (Hd T fs) H := by
    congr 1
    funext a
    exact propext (eqh a)
  refine ⟨fun j s e => ?_, fun j e => ?_, fun j => ?_, fun i j a h1 h2 => ?_, fun a o t => ?_, fun a t => ?_, fun j p e => ?_⟩
  · rw [wipeE_get] at e
    rw [wipe_get, eh]
    unfold wP wF
    by_cases h : j ∈ vs
    · rw [if_pos h] at e ⊢
      rw [if_pos h, if_pos h]
      cases er : ρ[j]? with
      | none => rw [er] at e; cases e
      | some s0 =>
        rw [er] at e
        cases e
        obtain ⟨x, hx, _⟩ := r.slot j s0 er
        exact ⟨none, by rw [hx]; rfl, rfl, rfl⟩
    · rw [if_neg h] at e ⊢
      rw [if_neg h, if_neg h]
      exact r.slot j s e
  · rw [wipeE_get] at e
    unfold wF
    by_cases h : j ∈ vs
    · rw [if_pos h]
    · rw [if_neg h] at e ⊢
      exact r.out j e
  · unfold wF
    by_cases h : j ∈ vs
    · rw [if_pos h]; exact .nil
    · rw [if_neg h]; exact r.nd j
  · unfold wF at h1 h2
    by_cases hi : i ∈ vs
    · rw [if_pos hi] at h1; cases h1
    · by_cases hj : j ∈ vs
      · rw [if_pos hj] at h2; cases h2
      · rw [if_neg hi] at h1; rw [if_neg hj] at h2; exact r.dj i j a h1 h2
  · obtain ⟨j, hj, hm⟩ := wF_own o
    rcases wT_iff.mp t with z | ⟨v, hv, z⟩
    · exact r.tf a ⟨j, hm⟩ z
    · exact hj (by rw [r.dj j v a hm z]; exact hv)
  · rcases wT_iff.mp t with z | ⟨v, hv, z⟩
    · exact r.ta a z
    · exact r.owned ⟨v, z⟩
  · unfold wP at e
    by_cases h : j ∈ vs
    · rw [if_pos h] at e; cases e
    · rw [if_neg h] at e
      obtain ⟨s, hs⟩ := r.pl j p e
      exact ⟨s, by rw [wipeE_get, if_neg h]; exact hs⟩
/-- and behind it they are as they were -/
theorem Rp.rested {l : List Addr} (r : Rp K T P ρ σ H fs) (r' : Rp K (Tl (wT fs T vs) l) (wP P vs) ρ' σ' H' fs') (hl : ρ'.length = ρ.length) (hσ : SB vs σ σ') (fr : Fr H (Own (wF fs vs)) H' (Ow l fs')) (hun : ∀ j ∈ vs, ∀ s, ρ'[j]? = some s → fs' j = []) :
    Rp K (Tl T l) P (restE ρ vs ρ') σ H' (fun j => if j ∈ vs then fs j else fs' j) := by
  have kept : ∀ v ∈ vs, ∀ a ∈ fs v, ∀ x, H a = some x → H' a = some x ∧ ¬ Ow l fs' a := fun v hv a ha x e => fr a x e fun z => by
    obtain ⟨j, hj, hm⟩ := wF_own z
    exact hj (by rw [r.dj j v a hm ha]; exact hv)
  have f0 : ∀ j ∈ vs, fs' j = [] := fun j hj => by
    cases e : ρ'[j]? with
    | none => exact r'.out j e
    | some s => exact hun j hj s e
  have own : ∀ a, Own (fun j => if j ∈ vs then fs j else fs' j) a → (∃ v ∈ vs, a ∈ fs v) ∨ Own fs' a := fun a ⟨j, hj⟩ => by
    have hj : a ∈ (if j ∈ vs then fs j else fs' j) := hj
    by_cases h : j ∈ vs
    · rw [if_pos h] at hj; exact .inl ⟨j, h, hj⟩
    · rw [if_neg h] at hj; exact .inr ⟨j, hj⟩
  have sees : ∀ v ∈ vs, ∀ a ∈ fs v, ¬ Own fs' a := fun v hv a ha z => by
    obtain ⟨x, e⟩ := r.owned ⟨v, ha⟩
    exact (kept v hv a ha x e).2 (.inr z)
  have eqh : ∀ a, Hd (Tl T l) (fun j => if j ∈ vs then fs j else fs' j) a ↔ Hd (Tl (wT fs T vs) l) fs' a := fun a => by
    constructor
    · rintro ((z | z) | z)
      · exact .inl (.inl (wT_iff.mpr (.inl z)))
      · exact .inl (.inr z)
      · rcases own a z with ⟨v, hv, z⟩ | z
        · exact .inl (.inl (wT_iff.mpr (.inr ⟨v, hv, z⟩)))
        · exact .inr z
    · rintro ((z | z) | z)
      · rcases wT_iff.mp z with z | ⟨v, hv, z⟩
        · exact .inl (.inl z)
        · exact .inr ⟨v, show a ∈ (if v ∈ vs then fs v else fs' v) by rw [if_pos hv]; exact z⟩
      · exact .inl (.inr z)
      · obtain ⟨j, hj⟩ := z
        refine .inr ⟨j, show a ∈ (if j ∈ vs then fs j else fs' j) from ?_⟩
        by_cases h : j ∈ vs
        · rw [f0 j h] at hj; cases hj
        · rw [if_neg h]; exact hj
  have eh : hide (Hd (Tl T l) (fun j => if j ∈ vs then fs j else fs' j)) H' = hide (Hd (Tl (wT fs T vs) l) fs') H' := by
    congr 1
    funext a
    exact propext (eqh a)
  have ex : Ex (hide (Hd T fs) H) (hide (Hd (Tl (wT fs T vs) l) fs') H') := hide_ex fun a x n e => by
    obtain ⟨h1, n1⟩ := fr a x e fun z => by
      obtain ⟨j, _, hm⟩ := wF_own z
      exact n (.inr ⟨j, hm⟩)
    refine ⟨?_, h1⟩
    rintro ((z | z) | z)
    · rcases wT_iff.mp z with z | ⟨v, hv, z⟩
      · exact n (.inl z)
      · exact n (.inr ⟨v, z⟩)
    · exact n1 (.inl z)
    · exact n1 (.inr z)
  refine ⟨fun j s e => ?_, fun j e => ?_, fun j => ?_, fun i j a h1 h2 => ?_, fun a o t => ?_, fun a t => ?_, fun j p e => ?_⟩
  · rw [restE_get hl] at e
    rw [eh]
    by_cases h : j ∈ vs
    · rw [if_pos h] at e
      show ∃ x, σ[j]? = some x ∧ RepS K _ H' (P j) s x (if j ∈ vs then fs j else fs' j)
      rw [if_pos h]
      obtain ⟨x, hx, q⟩ := r.slot j s e
      exact ⟨x, hx, q.mono ex fun a ha x e => (kept j h a ha x e).1⟩
    · rw [if_neg h] at e
      show ∃ x, σ[j]? = some x ∧ RepS K _ H' (P j) s x (if j ∈ vs then fs j else fs' j)
      rw [if_neg h]
      obtain ⟨x, hx, q⟩ := r'.slot j s e
      have hP : wP P vs j = P j := if_neg h
      rw [hP] at q
      exact ⟨x, by rw [← hσ.2 j h]; exact hx, q⟩
  · rw [restE_get hl] at e
    show (if j ∈ vs then fs j else fs' j) = []
    by_cases h : j ∈ vs
    · rw [if_pos h] at e ⊢; exact r.out j e
    · rw [if_neg h] at e ⊢; exact r'.out j e
  · show (if j ∈ vs then fs j else fs' j).Nodup
    by_cases h : j ∈ vs
    · rw [if_pos h]; exact r.nd j
    · rw [if_neg h]; exact r'.nd j
  · have h1 : a ∈ (if i ∈ vs then fs i else fs' i) := h1
    have h2 : a ∈ (if j ∈ vs then fs j else fs' j) := h2
    by_cases hi : i ∈ vs
    · rw [if_pos hi] at h1
      by_cases hj : j ∈ vs
      · rw [if_pos hj] at h2; exact r.dj i j a h1 h2
      · rw [if_neg hj] at h2; exact absurd ⟨j, h2⟩ (sees i hi a h1)
    · rw [if_neg hi] at h1
      by_cases hj : j ∈ vs
      · rw [if_pos hj] at h2; exact absurd ⟨i, h1⟩ (sees j hj a h2)
      · rw [if_neg hj] at h2; exact r'.dj i j a h1 h2
  · rcases own a o with ⟨v, hv, z⟩ | z
    · obtain ⟨x, e⟩ := r.owned ⟨v, z⟩
      rcases t with t | t
      · exact r.tf a ⟨v, z⟩ t
      · exact (kept v hv a z x e).2 (.inl t)
    · rcases t with t | t
      · exact r'.tf a z (.inl (wT_iff.mpr (.inl t)))
      · exact r'.tf a z (.inr t)
  · rcases t with t | t
    · exact r'.ta a (.inl (wT_iff.mpr (.inl t)))
    · exact r'.ta a (.inr t)
  · by_cases h : j ∈ vs
    · obtain ⟨s, hs⟩ := r.pl j p e
      exact ⟨s, by rw [restE_get hl, if_pos h]; exact hs⟩
    · have e' : wP P vs j = some p := by unfold wP; rw [if_neg h]; exact e
      obtain ⟨s, hs⟩ := r'.pl j p e'
      exact ⟨s, by rw [restE_get hl, if_neg h]; exact hs⟩
end
end Lay
namespace Lay
open PySem PySem.Spec L2
def lcL (own : List Nat) (g : TM) (t : M Bool) (e : M Arg) : List Dat → Env → R (List OT)
  | [], ρ => .ok [] ρ
  | d :: r, ρ => match g (.fz d) ρ with
    | .ok _ ρ1 => match t ρ1 with
      | .ok true ρ2 => match e ρ2 with
        | .ok a ρ3 => match take1 ρ3 a with
          | some (o, ρ4) => match lcL own g t e r (wipeE own ρ4) with
            | .ok os ρ5 => .ok (o :: os) ρ5
            | _ => .bad
          | none => .bad
        | _ => .bad
      | .ok false ρ2 => lcL own g t e r (wipeE own ρ2)
      | _ => .bad
    | _ => .bad
def xLc (own : List Nat) (it : IM) (g : TM) (t : M Bool) (e : M Arg) : M Arg := fun ρ => (it ρ).bind fun p ρ1 => match lockE p.2 ρ1 with
  | none => .bad
  | some (ρ2, us) => if p.1.length ≤ sizeLine ∧ (∀ i ∈ p.2, i ∉ own) then match lcL own g t e p.1 (wipeE own ρ2) with
    | .ok os ρ3 => if ρ3.length = ρ2.length then match unlE us (restE ρ2 own ρ3) with
      | some ρ4 => .ok (.tmp (.lst os)) ρ4
      | none => .bad
      else .bad
    | _ => .bad
    else .bad
section
variable {K : PySem.W.Frag} {T T' : Addr → Prop} {P : Pins} {ρ : Env} {σ σ' : St} {H H' : Hp} {fs fs' : Nat → List Addr} {vs : List Nat}
theorem Rp.updT (r : Rp K T P ρ σ H fs) {D : Addr} (hD : T D) (o : HO) : Rp K T P ρ σ (upd H D o) fs := by
  have ne : ∀ a, ¬ Hd T fs a → a ≠ D := fun a n z => n (.inl (by rw [z]; exact hD))
  have ex : Ex (hide (Hd T fs) H) (hide (Hd T fs) (upd H D o)) := hide_ex fun a x n e => ⟨n, by rw [upd_ne (ne a n)]; exact e⟩
  refine ⟨fun i s e => ?_, r.out, r.nd, r.dj, r.tf, fun a t => ?_, r.pl⟩
  · obtain ⟨x, h1, h2⟩ := r.slot i s e
    exact ⟨x, h1, h2.mono ex fun a ha y e => by
      have : a ≠ D := fun z => r.tf a ⟨i, ha⟩ (by rw [z]; exact hD)
      rw [upd_ne this]; exact e⟩
  · by_cases h : a = D
    · subst h; exact ⟨_, upd_same⟩
    · obtain ⟨x, e⟩ := r.ta a t
      exact ⟨x, by rw [upd_ne h]; exact e⟩
theorem wipe_sb {S : List Nat} (h : SB S (wipe σ vs) σ') (hs : ∀ j ∈ S, j ∈ vs) : wipe σ' vs = wipe σ vs := by
  apply List.ext_getElem?
  intro j
  rw [wipe_get, wipe_get]
  by_cases hj : j ∈ vs
  · rw [if_pos hj, if_pos hj]
    have hl : σ'.length = σ.length := by rw [h.1, wipe_length]
    by_cases hlt : j < σ.length
    · rw [List.getElem?_eq_getElem hlt, List.getElem?_eq_getElem (by omega)]; rfl
    · rw [List.getElem?_eq_none_iff.mpr (by omega), List.getElem?_eq_none_iff.mpr (by omega)]
  · rw [if_neg hj, if_neg hj, h.2 j fun z => hj (hs j z), wipe_get, if_neg hj]
theorem wP_idem : wP (wP P vs) vs = wP P vs := by
  funext j
  unfold wP
  by_cases h : j ∈ vs
  · rw [if_pos h, if_pos h]
  · rw [if_neg h, if_neg h]
theorem RepOs.app {G H : Hp} : ∀ {os : List OT} {us : List V} {l : List Addr} {o : OT} {v : V} {l2 : List Addr}, RepOs K G H os us l → RepO K G H o v l2 → RepOs K G H (os ++ [o]) (us ++ [v]) (l ++ l2)
  | [], us, l, o, v, l2, h, h2 => by
    obtain ⟨rfl, rfl⟩ := h
    exact ⟨v, [], l2, [], rfl, (List.append_nil l2).symm, h2, rfl, rfl⟩
  | o' :: r, us, l, o, v, l2, h, h2 => by
    obtain ⟨v', r', f1, f2, rfl, rfl, q1, q2⟩ := h
    exact ⟨v', r' ++ [v], f1, f2 ++ l2, rfl, List.append_assoc f1 f2 l2, q1, RepOs.app q2 h2⟩
end
theorem tLc_op {Z : Par} {W0 : Value → Option Addr → St → Hp → Prop} {own S : List Nat} (hS : ∀ j ∈ S, j ∈ own) {it : IM} {g : TM} {t : M Bool} {e : M Arg} {σ : St} {H : Hp} {Q : VK} (h : tD Z (xLc own it g t e) σ H Q) :
    tLc (tI Z it) (gD ⟨Z.K, Z.mg, W0⟩ S g) (tDT ⟨Z.K, Z.mg, W0⟩ t) (tD ⟨Z.K, Z.mg, W0⟩ e) own σ H Q := by
  obtain ⟨T, P, ρ, fs, rp, q⟩ := h
  refine ⟨T, P, ρ, fs, rp, ?_⟩
  unfold xLc at q
  cases e1 : it ρ with
  | bad => rw [e1] at q; exact q
  | ex x ρ' => rw [e1] at q; exact q
  | ok p ρ1 =>
    obtain ⟨ds, lks⟩ := p
    rw [e1] at q
    simp only [R.bind] at q
    intro J H1 fs1 r1 f1 ⟨G, Y, w, hG, hY⟩ D hD
    cases c1 : lockE lks ρ1 with
    | none => simp only [c1] at q; exact q.elim
    | some p2 =>
    obtain ⟨ρ2, us⟩ := p2
    simp only [c1] at q
    by_cases hz : ds.length ≤ sizeLine ∧ (∀ i ∈ lks, i ∉ own)
    · rw [if_pos hz] at q
      obtain ⟨hz, hlo⟩ := hz
      cases c2 : lcL own g t e ds (wipeE own ρ2) with
      | bad => simp only [c2] at q; exact q.elim
      | ex x ρ' => simp only [c2] at q; exact q.elim
      | ok os ρ3 =>
      simp only [c2] at q
      by_cases hlen : ρ3.length = ρ2.length
      · rw [if_pos hlen] at q
        cases c3 : unlE us (restE ρ2 own ρ3) with
        | none => simp only [c3] at q; exact q.elim
        | some ρ4 =>
        simp only [c3] at q
        obtain ⟨P', r2, hl, _, hunl⟩ := lockE_ok r1 c1
        have rw' := r2.wiped (vs := own)
        -- abbreviations
        let Tw := wT fs1 T own
        let Pw := wP P' own
        have unw : ∀ ρ0 : Env, ∀ j ∈ own, ∀ s, (wipeE own ρ0)[j]? = some s → s = .un := fun ρ0 j hj s e => by
          rw [wipeE_get, if_pos hj] at e
          cases er : ρ0[j]? with
          | none => rw [er] at e; cases e
          | some s0 => rw [er] at e; cases e; rfl
        refine lc_it w (fun i H' => ∃ ρ' fs' vacc lacc acc os', Rp Z.K (Tl Tw (D :: lacc)) Pw ρ' (wipe σ own) H' fs' ∧ (D :: lacc).Nodup ∧ (∀ b ∈ D :: lacc, ¬ Tw b) ∧ H' D = some (.lst vacc) ∧ RepOs Z.K (hide (Hd (Tl Tw (D :: lacc)) fs') H') H' acc vacc lacc ∧
            Fr H1 (Own (wF fs1 own)) H' (Ow (D :: lacc) fs') ∧ acc.length ≤ i ∧ lcL own g t e (ds.drop i) ρ' = .ok os' ρ3 ∧ acc ++ os' = os ∧ ∀ j ∈ own, ∀ s, ρ'[j]? = some s → s = .un) ?_ ?_ ?_ ?_
        · have nD : ¬ Tw D := fun z => rw'.hd hD (.inl z)
          have ex0 : ∀ a x, H1 a = some x → upd H1 D (.lst []) a = some x := fun a x e => by rw [upd_ne (ne_of_none e hD)]; exact e
          refine ⟨wipeE own ρ2, wF fs1 own, [], [], [], os, rw'.grow ex0 (fun a z => ?_), List.nodup_cons.mpr ⟨List.not_mem_nil, .nil⟩, ?_, upd_same, ⟨rfl, rfl⟩, (fun a x e n => ⟨ex0 a x e, fun z => ?_⟩), Nat.le_refl _, by rw [List.drop_zero]; exact c2, rfl, unw ρ2⟩
          · rcases z with z | z
            · exact .inl z
            · have : a = D := by simpa using z
              subst this
              exact .inr ⟨hD, _, upd_same⟩
          · intro b hb
            have : b = D := by simpa using hb
            subst this
            exact nD
          · rcases z with z | z
            · have : a = D := by simpa using z
              subst this
              rw [hD] at e; cases e
            · exact n z
        · intro i H' _ ⟨ρ', fs', vacc, lacc, acc, os', rr, _, _, _, _, fr, _⟩
          refine hG H' (Kp.of (P' := Pw) (fun i hi => ?_) rr (fun a x e n => ?_))
          · obtain ⟨a, vs, h1, h2, h3⟩ := hl i hi
            exact ⟨a, vs, h1, h2, by show wP P' own i = _; unfold wP; rw [if_neg (hlo i hi)]; exact h3⟩
          · obtain ⟨h1, n1⟩ := fr a x e fun z => by
              obtain ⟨j, _, hm⟩ := wF_own z
              exact n ⟨j, hm⟩
            exact ⟨h1, fun z => n1 (.inr z)⟩
        · rintro i x H2 H3 hi ⟨ρ', fs', vacc, lacc, acc, os', rr, nd, nTw, hDv, ra, fr, la, hlc, happ, hun⟩ y
          have frOwn : Fr H1 (Own fs1) H2 (Own fs') := fun a x e n => by
            obtain ⟨h1, n1⟩ := fr a x e fun z => by
              obtain ⟨j, _, hm⟩ := wF_own z
              exact n ⟨j, hm⟩
            exact ⟨h1, fun z => n1 (.inr z)⟩
          have kp : Kp σ H1 fs1 lks H2 := Kp.of (P' := Pw) (fun i hi => by
            obtain ⟨a, vs, h1, h2, h3⟩ := hl i hi
            exact ⟨a, vs, h1, h2, by show wP P' own i = _; unfold wP; rw [if_neg (hlo i hi)]; exact h3⟩) rr frOwn
          obtain ⟨ex, d, hd, rd⟩ := hY i H2 x H3 hi kp y
          have ed : ds.drop i = d :: ds.drop (i + 1) := by
            have hh := List.getElem?_eq_some_iff.mp hd
            rw [List.drop_eq_getElem_cons hh.1, hh.2]
          rw [ed] at hlc
          unfold lcL at hlc
          have rr3 : Rp Z.K (Tl Tw (D :: lacc)) Pw ρ' (wipe σ own) H3 fs' := rr.grow ex fun a z => .inl z
          have TD : Tl Tw (D :: lacc) D := .inr List.mem_cons_self
          have Tla : ∀ b ∈ lacc, Tl Tw (D :: lacc) b := fun b hb => .inr (List.mem_cons_of_mem _ hb)
          -- the item
          have rd' : RepD Z.K (hide (Hd (Tl Tw (D :: lacc)) fs') H3) d x := by
            refine rd _ (hide_ex fun a u n e => ?_) fun b u hb e => (hide_no (rr.hd hb)).trans e
            obtain ⟨h1, n1⟩ := fr a u e fun z => by
              obtain ⟨j, _, hm⟩ := wF_own z
              exact n (.inr ⟨j, hm⟩)
            refine ⟨?_, ex a u h1⟩
            rintro ((z | z) | z)
            · rcases wT_iff.mp z with z | ⟨v, _, z⟩
              · exact n (.inl z)
              · exact n (.inr ⟨v, z⟩)
            · exact n1 (.inl z)
            · exact n1 (.inr z)
          cases eg : g (.fz d) ρ' with
          | bad => rw [eg] at hlc; cases hlc
          | ex x' ρ9 => rw [eg] at hlc; cases hlc
          | ok u ρ5 =>
          rw [eg] at hlc
          simp only at hlc
          refine ⟨Tl Tw (D :: lacc), Pw, ρ', fs', .fz d, [], ⟨rr3.tl0, .nil, (fun _ z => nomatch z), rfl, by rw [Tl_nil]; exact rd'⟩, ?_⟩
          rw [eg]
          intro σ5 H5 fs5 sb5 r5 f5
          have f25 : Fr H2 (Own fs') H5 (Own fs5) := fun a u e n => f5 a u (ex a u e) fun z => z.elim (fun z => nomatch z) n
          refine ⟨wipe_sb sb5 hS, Tl Tw (D :: lacc), Pw, ρ5, fs5, r5, ?_⟩
          cases et : t ρ5 with
          | bad => rw [et] at hlc; cases hlc
          | ex x' ρ9 => rw [et] at hlc; cases hlc
          | ok b ρ6 =>
          rw [et] at hlc
          intro H6 fs6 r6 f6
          have f26 : Fr H2 (Own fs') H6 (Own fs6) := f25.trans f6
          -- what was in the air stands
          have airT : ∀ {Hx : Hp} {fx : Addr → Prop}, Fr H2 (Own fs') Hx fx → ∀ a, Tl Tw (D :: lacc) a → ∀ y, H2 a = some y → Hx a = some y ∧ ¬ fx a := fun fq a ta y e => fq a y e fun z => rr.tf a z ta
          have exA : ∀ {Hx : Hp} {fx : Nat → List Addr} {lx : List Addr}, Fr H2 (Own fs') Hx (Ow lx fx) → Ex (hide (Hd (Tl Tw (D :: lacc)) fs') H2) (hide (Hd (Tl (Tl Tw (D :: lacc)) lx) fx) Hx) := fun fq => hide_ex fun a y n e => by
            obtain ⟨h1, n1⟩ := fq a y e fun z => n (.inr z)
            refine ⟨?_, h1⟩
            rintro ((z | z) | z)
            · exact n (.inl z)
            · exact n1 (.inl z)
            · exact n1 (.inr z)
          cases b with
          | false =>
            simp only at hlc
            rw [if_neg Bool.false_ne_true]
            have r7 := r6.wiped (vs := own)
            have e7 : wP Pw own = Pw := wP_idem
            have e8 : wipe σ5 own = wipe σ own := wipe_sb sb5 hS
            rw [e7, e8] at r7
            have r7' : Rp Z.K (Tl Tw (D :: lacc)) Pw (wipeE own ρ6) (wipe σ own) H6 (wF fs6 own) := r7.grow (fun _ _ e => e) fun a z => .inl (wT_iff.mpr (.inl z))
            have sub : ∀ a, Own (wF fs6 own) a → Own fs6 a := fun a z => by
              obtain ⟨j, _, hm⟩ := wF_own z
              exact ⟨j, hm⟩
            refine ⟨wipeE own ρ6, wF fs6 own, vacc, lacc, acc, os', r7', nd, nTw, (airT f26 D TD _ hDv).1, ?_, ?_, Nat.le_succ_of_le la, hlc, happ, unw ρ6⟩
            · refine RepOs.mono (fun a y e => ?_) acc vacc lacc (fun b hb y e => (airT f26 b (Tla b hb) y e).1) ra
              have := exA (lx := []) (fx := fs6) (f26.imp fun x z => z.elim (fun z => nomatch z) id) a y e
              rw [Tl_nil] at this
              obtain ⟨n1, n2⟩ := of_hide this
              exact (hide_no fun z => n1 (z.imp id (sub a))).trans n2
            · intro a y e n
              obtain ⟨h1, n1⟩ := fr a y e n
              obtain ⟨h2, n2⟩ := f26 a y h1 fun z => n1 (.inr z)
              refine ⟨h2, ?_⟩
              rintro (z | z)
              · exact n1 (.inl z)
              · exact n2 (sub a z)
          | true =>
            simp only at hlc
            rw [if_pos rfl]
            refine ⟨Tl Tw (D :: lacc), Pw, ρ6, fs6, r6, ?_⟩
            cases ee : e ρ6 with
            | bad => rw [ee] at hlc; cases hlc
            | ex x' ρ9 => rw [ee] at hlc; cases hlc
            | ok a ρ7 =>
            rw [ee] at hlc
            simp only at hlc
            intro yv H7 fs7 l7 r7 f7
            cases ct : take1 ρ7 a with
            | none => rw [ct] at hlc; cases hlc
            | some p8 =>
            obtain ⟨o, ρ8⟩ := p8
            rw [ct] at hlc
            simp only at hlc
            cases cl : lcL own g t e (ds.drop (i + 1)) (wipeE own ρ8) with
            | bad => rw [cl] at hlc; cases hlc
            | ex x' ρ9 => rw [cl] at hlc; cases hlc
            | ok os9 ρ9 =>
            rw [cl] at hlc
            simp only [R.ok.injEq] at hlc
            obtain ⟨rfl, rfl⟩ := hlc
            obtain ⟨fs8, r8, s8, p8⟩ := take1_ok r7.rp r7.ar ct
            have f27 : Fr H2 (Own fs') H7 (Ow l7 fs7) := f26.trans f7
            have f28 : Fr H2 (Own fs') H7 (Ow l7 fs8) := f27.imp fun x z => z.imp id (s8 x)
            have hD7 : H7 D = some (.lst vacc) := (airT f27 D TD _ hDv).1
            have nD7 : D ∉ l7 := fun z => r7.nt D z TD
            refine ⟨vacc, hD7, ?_, ?_⟩
            · have h1 : vacc.length = acc.length := RepOs.length ra
              rw [h1]
              exact Nat.lt_of_le_of_lt la (Nat.lt_of_lt_of_le hi hz)
            · have r9 := r8.wiped (vs := own)
              have e7 : wP Pw own = Pw := wP_idem
              have e8 : wipe σ5 own = wipe σ own := wipe_sb sb5 hS
              rw [e7, e8] at r9
              have eT : ∀ a, Tl Tw (D :: (lacc ++ l7)) a ↔ Tl (Tl Tw (D :: lacc)) l7 a := fun a => by
                simp only [Tl, List.mem_cons, List.mem_append]
                constructor
                · rintro (z | z | z | z) <;> simp [z]
                · rintro ((z | z | z) | z) <;> simp [z]
              have r9' : Rp Z.K (Tl Tw (D :: (lacc ++ l7))) Pw (wipeE own ρ8) (wipe σ own) H7 (wF fs8 own) := r9.grow (fun _ _ e => e) fun a z => .inl (wT_iff.mpr (.inl ((eT a).mp z)))
              have TD' : Tl Tw (D :: (lacc ++ l7)) D := .inr List.mem_cons_self
              have sub : ∀ a, Own (wF fs8 own) a → Own fs8 a := fun a z => by
                obtain ⟨j, _, hm⟩ := wF_own z
                exact ⟨j, hm⟩
              have nda := List.nodup_cons.mp nd
              have neD : ∀ b ∈ lacc, b ≠ D := fun b hb z => nda.1 (by rw [← z]; exact hb)
              -- what may be read
              have exB : Ex (hide (Hd (Tl (Tl Tw (D :: lacc)) l7) fs8) H7) (hide (Hd (Tl Tw (D :: (lacc ++ l7))) (wF fs8 own)) (upd H7 D (.lst (vacc ++ [yv])))) := hide_ex fun a y n e => by
                have ne : a ≠ D := fun z => n (.inl (.inl (by rw [z]; exact TD)))
                refine ⟨fun z => n ?_, by rw [upd_ne ne]; exact e⟩
                rcases z with z | z
                · exact .inl ((eT a).mp z)
                · exact .inr (sub a z)
              refine ⟨wipeE own ρ8, wF fs8 own, vacc ++ [yv], lacc ++ l7, acc ++ [o], os9, r9'.updT TD' _, ?_, ?_, upd_same, ?_, ?_, ?_, cl, by rw [← happ, List.append_assoc]; rfl, unw ρ8⟩
              · refine List.nodup_cons.mpr ⟨fun z => (List.mem_append.mp z).elim nda.1 nD7, List.nodup_append.mpr ⟨nda.2, r7.nd, fun a ha b hb e => ?_⟩⟩
                subst e
                exact r7.nt a hb (Tla a ha)
              · intro b hb z
                rcases List.mem_cons.mp hb with e | hb
                · subst e; exact nTw b List.mem_cons_self z
                · rcases List.mem_append.mp hb with hb | hb
                  · exact nTw b (List.mem_cons_of_mem _ hb) z
                  · exact r7.nt b hb (.inl z)
              · refine RepOs.app (RepOs.mono ((exA f28).trans exB) acc vacc lacc (fun b hb y e => ?_) ra) (RepO.mono exB o yv l7 (fun b hb y e => ?_) p8)
                · rw [upd_ne (neD b hb)]
                  exact (airT f27 b (Tla b hb) y e).1
                · rw [upd_ne (fun z => nD7 (by rw [← z]; exact hb))]
                  exact e
              · intro a y e n
                obtain ⟨h1, n1⟩ := fr a y e n
                obtain ⟨h2, n2⟩ := f28 a y h1 fun z => n1 (.inr z)
                have ne : a ≠ D := fun z => n1 (.inl (by rw [z]; exact List.mem_cons_self))
                refine ⟨by rw [upd_ne ne]; exact h2, ?_⟩
                rintro (z | z)
                · rcases List.mem_cons.mp z with z | z
                  · exact ne z
                  · rcases List.mem_append.mp z with z | z
                    · exact n1 (.inl (List.mem_cons_of_mem _ z))
                    · exact n2 (.inl z)
                · exact n2 (.inr (sub a z))
              · rw [List.length_append]
                exact Nat.succ_le_succ la
        · rintro H' ⟨ρ', fs', vacc, lacc, acc, os', rr, nd, nTw, hDv, ra, fr, la, hlc, happ, hun⟩
          rw [List.drop_length] at hlc
          unfold lcL at hlc
          simp only [R.ok.injEq] at hlc
          obtain ⟨rfl, rfl⟩ := hlc
          rw [List.append_nil] at happ
          subst happ
          have hsb : SB own σ (wipe σ own) := ⟨wipe_length σ own, fun j hj => by rw [wipe_get, if_neg hj]⟩
          have unf : ∀ j ∈ own, ∀ s, ρ'[j]? = some s → fs' j = [] := fun j hj s e => by
            have := hun j hj s e
            subst this
            obtain ⟨x, _, q⟩ := rr.slot j _ e
            exact q.1
          have rst := Rp.rested r2 rr hlen hsb fr unf
          have r4 := hunl rst c3
          let fz : Nat → List Addr := fun j => if j ∈ own then fs1 j else fs' j
          have ownz : ∀ a, Own fz a → (∃ v ∈ own, a ∈ fs1 v) ∨ Own fs' a := fun a ⟨j, hj⟩ => by
            have hj : a ∈ (if j ∈ own then fs1 j else fs' j) := hj
            by_cases h : j ∈ own
            · rw [if_pos h] at hj; exact .inl ⟨j, h, hj⟩
            · rw [if_neg h] at hj; exact .inr ⟨j, hj⟩
          have exz : Ex (hide (Hd (Tl Tw (D :: lacc)) fs') H') (hide (Hd (Tl T (D :: lacc)) fz) H') := hide_ex fun a y n e => ⟨fun z => n (by
            rcases z with (z | z) | z
            · exact .inl (.inl (wT_iff.mpr (.inl z)))
            · exact .inl (.inr z)
            · rcases ownz a z with ⟨v, hv, z⟩ | z
              · exact .inl (.inl (wT_iff.mpr (.inr ⟨v, hv, z⟩)))
              · exact .inr z), e⟩
          refine q (.ref D) H' fz (D :: lacc) ⟨r4, nd, fun b hb z => nTw b hb (wT_iff.mpr (.inl z)), D, vacc, lacc, rfl, rfl, hDv, RepOs.mono exz acc vacc lacc (fun _ _ _ e => e) ra⟩ fun a y e n => ?_
          obtain ⟨h1, n1⟩ := f1 a y e n
          obtain ⟨h2, n2⟩ := fr a y h1 fun z => by
            obtain ⟨j, _, hm⟩ := wF_own z
            exact n1 ⟨j, hm⟩
          refine ⟨h2, ?_⟩
          rintro (z | z)
          · exact n2 (.inl z)
          · rcases ownz a z with ⟨v, _, z⟩ | z
            · exact n1 ⟨v, z⟩
            · exact n2 (.inr z)
      · rw [if_neg hlen] at q; exact q.elim
    · rw [if_neg hz] at q; exact q.elim
/-- nothing is let out -/
abbrev W0 : WX := fun _ _ _ _ => False
section
variable {X : Cx} {W : WX} {pos : Pos} {elt tg iter : Expr} {ifs : List Expr} {scope : Scope} {own : List (Str × Nat)} {S : List Nat} {it : IM} {g : TM} {t : M Bool} {e : M Arg}
def xYes : M Bool := fun ρ => .ok true ρ
theorem dts_nil : PTs X [] (tDT (zp X W) xYes) := ⟨fun pins s σ H Q I ⟨T, P, ρ, fs, r, q⟩ => pts_nil.run pins s σ H Q I (q H fs r Fr.refl)⟩
theorem dts_one {c : Expr} (h : DT X W c t) : PTs X [c] (tDT (zp X W) t) := pts_one h
theorem de_lc (hc : X.calm = true) (hN : X.N.Nodup) (hi : DI X W tg iter it) (ok : BlkOk X.N X.env.scope scope own) (hS : ∀ j ∈ S, j ∈ own.map (·.2))
    (hg : ∀ (s : Shared) (H : Hp) (C : Addr) (cl : List (Str × Addr)) (fp : List Addr), DG (X.blk s H scope (compEnvC scope cl C X.env) fp) W0 tg S g)
    (ht : ∀ (s : Shared) (H : Hp) (C : Addr) (cl : List (Str × Addr)) (fp : List Addr), PTs (X.blk s H scope (compEnvC scope cl C X.env) fp) ifs (tDT (zp X W0) t))
    (he : ∀ (s : Shared) (H : Hp) (C : Addr) (cl : List (Str × Addr)) (fp : List Addr), DE (X.blk s H scope (compEnvC scope cl C X.env) fp) W0 elt e) (hs : ∀ x, foldedSetIterable iter X.env x = pure x := by intro _; rfl) :
    DE X W (.ListComp elt [⟨tg, iter, ifs, 0⟩] scope pos) (xLc (own.map (·.2)) it g t e) := pe_imp (pe_lc hc hN hi ok hg ht he hs) fun σ H Q h => tLc_op (Z := zp X W) (W0 := W0) hS h
end
end Lay
namespace Lay
open PySem PySem.Spec L2
theorem OpR.or {X : Cx} {f : Value → Value → Sem Value} {r r' : R2} (h : OpR X f r) (h' : OpR X f r') : OpR X f (fun x y H Q => r x y H Q ∨ r' x y H Q) := fun pins s σ H x y v u Q I rx ry q =>
  q.elim (h pins s σ H x y v u Q I rx ry) (h' pins s σ H x y v u Q I rx ry)
theorem CallR.or {X : Cx} {f : Value} {r r' : List V → Hp → VK → Prop} (h : CallR X f r) (h' : CallR X f r') : CallR X f (fun xs H Q => r xs H Q ∨ r' xs H Q) := fun pins s σ H xs us Q I r q =>
  q.elim (h pins s σ H xs us Q I r) (h' pins s σ H xs us Q I r)
section
variable {K : PySem.W.Frag} {G H : Hp} {Q : VK} {v : V} {f : List Addr}
theorem Res.newL {ds : List Dat} {vs : List V} {p : Addr} (h : Res K G H (.lst (ds.map .fz)) Q) (r : RepDs K G ds vs) (hp : H p = none) : Q (.ref p) (upd H p (.lst vs)) := by
  refine h (.ref p) _ [p] (fun a o e => by rw [upd_ne (ne_of_none e hp)]; exact e) (List.nodup_cons.mpr ⟨List.not_mem_nil, .nil⟩) (fun b hb => ?_) fun G' ex nw => ⟨p, vs, [], rfl, rfl, upd_same, ?_⟩
  · have : b = p := by simpa using hb
    rw [this]; exact hp
  · exact RepDs.os (RepDs.mono ex ds vs r)
theorem Res.newT {ds : List Dat} {vs : List V} {p : Addr} (h : Res K G H (.fz (.tup ds)) Q) (r : RepDs K G ds vs) (hp : H p = none) : Q (.ref p) (upd H p (.tup vs)) := by
  refine h (.ref p) _ [] (fun a o e => by rw [upd_ne (ne_of_none e hp)]; exact e) .nil (fun b hb => nomatch hb) fun G' ex nw => ⟨rfl, p, vs, rfl, .inl (.inl (nw p _ hp upd_same (fun z => nomatch z))), RepDs.mono ex ds vs r⟩
/-- a list's items, if nobody owns them one by one -/
def asL : OT → Option (List Dat)
  | .fz (.lst ds) => some ds
  | .lst os => allFz os
  | _ => none
theorem asL_ok {o : OT} {ds : List Dat} (e : Ex G H) (h : RepO K G H o v f) (c : asL o = some ds) : ∃ a vs, v = .ref a ∧ H a = some (.lst vs) ∧ RepDs K G ds vs := by
  cases o with
  | fz d =>
    cases d with
    | lst ds' =>
      cases c
      obtain ⟨_, a, vs, rfl, q, r⟩ := h
      exact ⟨a, vs, rfl, e a _ q, r⟩
    | _ => cases c
  | lst os =>
    obtain ⟨a, vs, g, rfl, _, q, r⟩ := h
    rw [allFz_eq c] at r
    exact ⟨a, vs, rfl, q, RepOs.ds r⟩
  | dic os => cases c
/-- a tuple's -/
def asT : OT → Option (List Dat)
  | .fz (.tup ds) => some ds
  | _ => none
theorem asT_ok {o : OT} {ds : List Dat} (e : Ex G H) (h : RepO K G H o v f) (c : asT o = some ds) : ∃ a vs, v = .ref a ∧ SqT K H a vs ∧ RepDs K G ds vs := by
  cases o with
  | fz d =>
    cases d with
    | tup ds' =>
      cases c
      obtain ⟨_, a, vs, rfl, q, r⟩ := h
      exact ⟨a, vs, rfl, e.sqT q, r⟩
    | _ => cases c
  | _ => cases c
def asI : OT → Option Int
  | .fz (.int i) => some i
  | _ => none
def asS : OT → Option Str
  | .fz (.str s) => some s
  | _ => none
theorem RepDs.app {ds es : List Dat} {vs us : List V} (h : RepDs K G ds vs) (h2 : RepDs K G es us) : RepDs K G (ds ++ es) (vs ++ us) := by
  induction ds generalizing vs with
  | nil => rw [show vs = [] from h]; exact h2
  | cons d r ih =>
    obtain ⟨v, r', rfl, q1, q2⟩ := h
    exact ⟨v, r' ++ us, rfl, q1, ih q2⟩
/-- a scalar has come -/
theorem Res.int {i : Int} (h : Res K G H (.fz (.int i)) Q) : Q (.int i) H := Res.same h rfl
theorem Res.bl {i : Bool} (h : Res K G H (.fz (.bl i)) Q) : Q (.bl i) H := Res.same h rfl
theorem Res.str {i : Str} (h : Res K G H (.fz (.str i)) Q) : Q (.str i) H := Res.same h rfl
end
def opAdd (x y : OT) : Option OT := match x, y with
  | .fz (.int i), .fz (.int j) => some (.fz (.int (i + j)))
  | .fz (.str s), .fz (.str t) => if s.length + t.length ≤ sizeLine then some (.fz (.str (s ++ t))) else none
  | .fz (.tup xs), .fz (.tup ys) => if xs.length + ys.length ≤ sizeLine then some (.fz (.tup (xs ++ ys))) else none
  | x, y => match asL x, asL y with
    | some xs, some ys => if xs.length + ys.length ≤ sizeLine then some (.lst ((xs ++ ys).map .fz)) else none
    | _, _ => none
def rAddA (K : PySem.W.Frag) : R2 := fun x y H Q => (rI0 (fun i j => .int (i + j)) x y H Q) ∨ (∃ i j, x = .str i ∧ y = .str j ∧ i.length + j.length ≤ sizeLine ∧ Q (.str (i ++ j)) H) ∨ rCatA K x y H Q ∨ rCat x y H Q
theorem op_addA {X : Cx} : OpR X (binaryOp .Add) (rAddA X.K) := op_add.or (op_add_str.or (op_catA.or op_cat))
theorem ok_add {K : PySem.W.Frag} : OpOk K (rAddA K) opAdd := fun G H o1 o2 v1 v2 f1 f2 o Q e r1 r2 c q => by
  have lists : ∀ {xs ys : List Dat}, asL o1 = some xs → asL o2 = some ys → (if xs.length + ys.length ≤ sizeLine then some (OT.lst ((xs ++ ys).map .fz)) else none) = some o → rAddA K v1 v2 H Q := fun {xs ys} c1 c2 c3 => by
    by_cases h : xs.length + ys.length ≤ sizeLine
    · rw [if_pos h] at c3
      cases c3
      obtain ⟨a, vs, rfl, ha, ra⟩ := asL_ok e r1 c1
      obtain ⟨b, us, rfl, hb, rb⟩ := asL_ok e r2 c2
      exact .inr (.inr (.inr ⟨a, b, vs, us, rfl, rfl, ha, hb, by rw [ra.length, rb.length]; exact h, fun p hp => Res.newL q (ra.app rb) hp⟩))
    · rw [if_neg h] at c3; cases c3
  have gen : (match asL o1, asL o2 with
    | some xs, some ys => if xs.length + ys.length ≤ sizeLine then some (OT.lst ((xs ++ ys).map .fz)) else none
    | _, _ => none) = some o → rAddA K v1 v2 H Q := fun c => by
    cases c1 : asL o1 with
    | none => rw [c1] at c; cases c
    | some xs =>
      cases c2 : asL o2 with
      | none => rw [c1, c2] at c; cases c
      | some ys => rw [c1, c2] at c; exact lists c1 c2 c
  unfold opAdd at c
  split at c
  · cases c
    cases (show v1 = .int _ from r1.2)
    cases (show v2 = .int _ from r2.2)
    exact .inl ⟨_, _, rfl, rfl, q.int⟩
  · rename_i s t
    cases (show v1 = .str _ from r1.2)
    cases (show v2 = .str _ from r2.2)
    by_cases h : s.length + t.length ≤ sizeLine
    · rw [if_pos h] at c
      cases c
      exact .inr (.inl ⟨_, _, rfl, rfl, h, q.str⟩)
    · rw [if_neg h] at c; cases c
  · rename_i xs ys
    by_cases h : xs.length + ys.length ≤ sizeLine
    · rw [if_pos h] at c
      cases c
      obtain ⟨_, a, vs, rfl, ha, ra⟩ := r1
      obtain ⟨_, b, us, rfl, hb, rb⟩ := r2
      refine .inr (.inr (.inl ⟨a, b, vs, us, rfl, rfl, e.sqT ha, e.sqT hb, by rw [ra.length, rb.length]; exact h, ?_⟩))
      refine ⟨fun e => ?_, fun _ e => ?_, fun _ _ p hp => Res.newT q (ra.app rb) hp⟩
      · subst e
        have : xs = [] := by cases xs with | nil => rfl | cons d r => obtain ⟨_, _, z, _⟩ := ra; cases z
        subst this
        exact Res.same q ⟨b, us, rfl, hb, rb⟩
      · subst e
        have : ys = [] := by cases ys with | nil => rfl | cons d r => obtain ⟨_, _, z, _⟩ := rb; cases z
        subst this
        rw [List.append_nil] at q
        exact Res.same q ⟨a, vs, rfl, ha, ra⟩
    · rw [if_neg h] at c; cases c
  · exact gen c
/-- two ints -/
def opII (C : Int → Int → Bool) (g : Int → Int → Dat) (x y : OT) : Option OT := match x, y with
  | .fz (.int i), .fz (.int j) => if C i j then some (.fz (g i j)) else none
  | _, _ => none
theorem opII_ok {C : Int → Int → Bool} {g : Int → Int → Dat} {x y o : OT} (h : opII C g x y = some o) : ∃ i j, x = .fz (.int i) ∧ y = .fz (.int j) ∧ C i j = true ∧ o = .fz (g i j) := by
  unfold opII at h
  split at h
  · rename_i i j
    by_cases c : C i j = true
    · rw [if_pos c] at h
      exact ⟨i, j, rfl, rfl, c, (Option.some.inj h).symm⟩
    · rw [if_neg c] at h; cases h
  · cases h
def gDat (g : Int → Int → V) (d : Int → Int → Dat) : Prop := ∀ K G i j, RepD K G (d i j) (g i j)
theorem ok_II {K : PySem.W.Frag} {C : Int → Int → Bool} {C' : Int → Int → Prop} {d : Int → Int → Dat} {g : Int → Int → V} (hg : gDat g d) (hc : ∀ i j, C i j = true → C' i j) : OpOk K (rI C' g) (opII C d) := fun G H o1 o2 v1 v2 f1 f2 o Q e r1 r2 c q => by
  obtain ⟨i, j, rfl, rfl, h, rfl⟩ := opII_ok c
  exact ⟨i, j, r1.2, r2.2, hc i j h, Res.same q (hg K G i j)⟩
theorem ok_II0 {K : PySem.W.Frag} {d : Int → Int → Dat} {g : Int → Int → V} (hg : gDat g d) : OpOk K (rI0 g) (opII (fun _ _ => true) d) := fun G H o1 o2 v1 v2 f1 f2 o Q e r1 r2 c q => by
  obtain ⟨i, j, rfl, rfl, h, rfl⟩ := opII_ok c
  exact ⟨i, j, r1.2, r2.2, Res.same q (hg K G i j)⟩
abbrev opSub : OT → OT → Option OT := opII (fun _ _ => true) fun i j => .int (i - j)
theorem ok_sub {K : PySem.W.Frag} : OpOk K (rI0 fun i j => .int (i - j)) opSub := ok_II0 fun _ _ _ _ => rfl
/-- ints of any size in the line -/
def cMul (i j : Int) : Bool := decide (i.natAbs < 9223372036854775808) || decide (j.natAbs < 9223372036854775808) || decide (i.natAbs.log2 + j.natAbs.log2 < 100000000)
theorem small_bits {i : Int} (h : i.natAbs < 9223372036854775808) : Builtin.Int.intBits i ≤ 64 := intBits_le_64 (by omega) (by omega)
theorem cMul_ok {i j : Int} (h : cMul i j = true) : IntMulOk i j := by
  unfold cMul at h
  simp only [Bool.or_eq_true, decide_eq_true_eq] at h
  rcases h with (h | h) | h
  · exact .of_left (small_bits h)
  · exact .of_right (small_bits h)
  · have b : ∀ x : Int, Builtin.Int.intBits x ≤ x.natAbs.log2 + 1 := fun x => by
      unfold Builtin.Int.intBits
      split <;> omega
    have h1 := b i
    have h2 := b j
    have e : bitsLine = 134217728 := by decide
    unfold IntMulOk
    intro z
    rw [Bool.and_eq_true] at z
    have z2 := z.2
    unfold Builtin.Int.intTooBig at z2
    have z3 := of_decide_eq_true z2
    rw [e] at z3
    omega
abbrev opMul : OT → OT → Option OT := opII cMul fun i j => .int (i * j)
theorem op_mulA {X : Cx} : OpR X (binaryOp .Mult) (rI IntMulOk fun i j => .int (i * j)) := opI fun _ _ _ _ _ _ _ hc q => PyProof.Rows.mul_int q hc
theorem ok_mul {K : PySem.W.Frag} : OpOk K (rI IntMulOk fun i j => .int (i * j)) opMul := ok_II (fun _ _ _ _ => rfl) fun i j h => cMul_ok h
abbrev opMod : OT → OT → Option OT := opII (fun _ j => decide (0 < j)) fun i j => .int (i % j)
theorem ok_mod {K : PySem.W.Frag} : OpOk K (rI (fun _ j => 0 < j) fun i j => .int (i % j)) opMod := ok_II (fun _ _ _ _ => rfl) fun _ _ h => of_decide_eq_true h
def cDiv (_ j : Int) : Bool := decide (j ≠ 0) && decide (j.natAbs.log2 < 9000)
abbrev opFdiv : OT → OT → Option OT := opII cDiv fun i j => .int (i.fdiv j)
theorem op_fdivA {X : Cx} : OpR X (binaryOp .FloorDiv) (rI (fun _ j => j ≠ 0 ∧ j.natAbs.log2 < 9000) fun i j => .int (i.fdiv j)) := opI fun _ _ _ _ _ _ _ hc q => PyProof.Rows.floordiv_int hc.1 q (.inl (PyProof.noPylong_of_log2 hc.2))
theorem ok_fdiv {K : PySem.W.Frag} : OpOk K (rI (fun _ j => j ≠ 0 ∧ j.natAbs.log2 < 9000) fun i j => .int (i.fdiv j)) opFdiv := ok_II (fun _ _ _ _ => rfl) fun _ _ h => by
  simp only [cDiv, Bool.and_eq_true, decide_eq_true_eq] at h
  exact h
def cPow (i j : Int) : Bool := decide (0 ≤ j) && decide (j ≤ 1000000) && decide (i.natAbs < 2 ^ 64)
abbrev opPow : OT → OT → Option OT := opII cPow fun i j => .int (i ^ j.toNat)
theorem ok_pow {K : PySem.W.Frag} : OpOk K (rI CPow fun i j => .int (i ^ j.toNat)) opPow := ok_II (fun _ _ _ _ => rfl) fun _ _ h => by
  simp only [cPow, Bool.and_eq_true, decide_eq_true_eq] at h
  exact ⟨h.1.1, h.1.2, h.2⟩
def opNeg : OT → Option OT
  | .fz (.int i) => some (.fz (.int (-i)))
  | _ => none
theorem ok_neg {K : PySem.W.Frag} : Op1Ok K (rU fun i => .int (-i)) opNeg := fun G H o1 v1 f1 o Q e r1 c q => by
  unfold opNeg at c
  split at c
  · cases c; exact ⟨_, r1.2, q.int⟩
  · cases c
abbrev opCmp (p : Int → Int → Bool) : OT → OT → Option OT := opII (fun _ _ => true) fun i j => .bl (p i j)
theorem ok_cmp {K : PySem.W.Frag} (p : Int → Int → Bool) : OpOk K (rI0 fun i j => .bl (p i j)) (opCmp p) := ok_II0 fun _ _ _ _ => rfl
abbrev opLt := opCmp fun i j => decide (i < j)
abbrev opLe := opCmp fun i j => decide (i ≤ j)
abbrev opGt := opCmp fun i j => decide (j < i)
abbrev opGe := opCmp fun i j => decide (j ≤ i)
mutual
def eqD : Dat → Dat → Bool
  | .non, .non => true
  | .bl a, .bl b => a == b
  | .bl a, .int j => (if a then 1 else 0) == j
  | .int i, .bl b => i == (if b then 1 else 0)
  | .int i, .int j => i == j
  | .str x, .str y => x == y
  | .lst xs, .lst ys => eqDs xs ys
  | .tup xs, .tup ys => eqDs xs ys
  | _, _ => false
def eqDs : List Dat → List Dat → Bool
  | [], [] => true
  | x :: xs, y :: ys => eqD x y && eqDs xs ys
  | _, _ => false
end
mutual
/-- as the library's data; no dicts within, not deeper than n -/
def pyD : Nat → Dat → Option PyData
  | _, .non => some .none
  | _, .bl b => some (.bool b)
  | _, .int i => some (.int i)
  | _, .str s => some (.str s)
  | n + 1, .tup xs => (pyDs n xs).map .tuple
  | n + 1, .lst xs => (pyDs n xs).map .list
  | _, _ => none
def pyDs : Nat → List Dat → Option (List PyData)
  | _, [] => some []
  | n, d :: r => match pyD n d, pyDs n r with
    | some x, some xs => some (x :: xs)
    | _, _ => none
end
mutual
/-- data that may be compared: no dicts within, at most n deep -/
def cmpOk : Nat → Dat → Bool
  | _, .non => true | _, .bl _ => true | _, .int _ => true | _, .str s => PyData.strOk s
  | n + 1, .tup xs => cmpOks n xs
  | n + 1, .lst xs => cmpOks n xs
  | _, _ => false
def cmpOks : Nat → List Dat → Bool
  | _, [] => true
  | n, d :: r => cmpOk n d && cmpOks n r
end
mutual
theorem cmp_py : ∀ (d : Dat) (n : Nat), cmpOk n d = true → ∃ p, pyD n d = some p ∧ p.canLay0 = true ∧ p.depth ≤ n
  | .non, n, _ => ⟨.none, by cases n <;> rfl, rfl, by cases n <;> simp [PyData.depth]⟩
  | .bl b, n, _ => ⟨.bool b, by cases n <;> rfl, rfl, by cases n <;> simp [PyData.depth]⟩
  | .int b, n, _ => ⟨.int b, by cases n <;> rfl, rfl, by cases n <;> simp [PyData.depth]⟩
  | .str b, n, h => ⟨.str b, by cases n <;> rfl, by cases n <;> simpa [cmpOk, PyData.canLay0] using h, by cases n <;> simp [PyData.depth]⟩
  | .tup xs, 0, h => by simp [cmpOk] at h
  | .lst xs, 0, h => by simp [cmpOk] at h
  | .tup xs, n + 1, h => by
    obtain ⟨ps, h1, h2, h3⟩ := cmp_pys xs n (by simpa [cmpOk] using h)
    exact ⟨.tuple ps, by simp [pyD, h1], by simpa [PyData.canLay0] using h2, by simp [PyData.depth]; omega⟩
  | .lst xs, n + 1, h => by
    obtain ⟨ps, h1, h2, h3⟩ := cmp_pys xs n (by simpa [cmpOk] using h)
    exact ⟨.list ps, by simp [pyD, h1], by simpa [PyData.canLay0] using h2, by simp [PyData.depth]; omega⟩
  | .dic _, n, h => by cases n <;> simp [cmpOk] at h
  | .kst _, n, h => by cases n <;> simp [cmpOk] at h
theorem cmp_pys : ∀ (ds : List Dat) (n : Nat), cmpOks n ds = true → ∃ ps, pyDs n ds = some ps ∧ PyData.canLayAll0 ps = true ∧ PyData.depthAll ps ≤ n
  | [], n, _ => ⟨[], by cases n <;> rfl, rfl, by simp [PyData.depthAll]⟩
  | d :: r, n, h => by
    have h : (cmpOk n d && cmpOks n r) = true := by cases n <;> simpa [cmpOks] using h
    rw [Bool.and_eq_true] at h
    obtain ⟨p, h1, h2, h3⟩ := cmp_py d n h.1
    obtain ⟨ps, g1, g2, g3⟩ := cmp_pys r n h.2
    exact ⟨p :: ps, by cases n <;> simp [pyDs, h1, g1], by simp [PyData.canLayAll0, h2, g2], by simp [PyData.depthAll]; omega⟩
end
section
variable {K : PySem.W.Frag} {G H : Hp}
mutual
theorem RepD.dp (e : Ex G H) : ∀ (d : Dat) (n : Nat) (v : V) (p : PyData), pyD n d = some p → RepD K G d v → Dp K H v p
  | .non, n, v, p, h, r => by
    have : p = .none := by cases n <;> (cases h; rfl)
    subst this
    cases (show v = .non from r)
    exact .non
  | .bl b, n, v, p, h, r => by
    have : p = .bool b := by cases n <;> (cases h; rfl)
    subst this
    cases (show v = .bl b from r)
    exact .bl b
  | .int b, n, v, p, h, r => by
    have : p = .int b := by cases n <;> (cases h; rfl)
    subst this
    cases (show v = .int b from r)
    exact .int b
  | .str b, n, v, p, h, r => by
    have : p = .str b := by cases n <;> (cases h; rfl)
    subst this
    cases (show v = .str b from r)
    exact .str b
  | .tup xs, 0, v, p, h, r => by cases h
  | .lst xs, 0, v, p, h, r => by cases h
  | .tup xs, n + 1, v, p, h, r => by
    obtain ⟨a, vs, rfl, q, r⟩ := r
    simp only [pyD, Option.map_eq_some_iff] at h
    obtain ⟨ps, h1, rfl⟩ := h
    exact .tup (e.sqT q) (RepDs.dp e xs n vs ps h1 r)
  | .lst xs, n + 1, v, p, h, r => by
    obtain ⟨a, vs, rfl, q, r⟩ := r
    simp only [pyD, Option.map_eq_some_iff] at h
    obtain ⟨ps, h1, rfl⟩ := h
    exact .lst (.inl (.inl (e a _ q))) (RepDs.dp e xs n vs ps h1 r)
  | .dic _, n, v, p, h, _ => by cases n <;> cases h
  | .kst _, n, v, p, h, _ => by cases n <;> cases h
theorem RepDs.dp (e : Ex G H) : ∀ (ds : List Dat) (n : Nat) (vs : List V) (ps : List PyData), pyDs n ds = some ps → RepDs K G ds vs → DpAll K H vs ps
  | [], n, vs, ps, h, r => by
    have : ps = [] := by cases n <;> (cases h; rfl)
    subst this
    rw [show vs = [] from r]
    exact .nil
  | d :: ds, n, vs, ps, h, r => by
    obtain ⟨v, r', rfl, q1, q2⟩ := r
    have h : (match pyD n d, pyDs n ds with | some x, some xs => some (x :: xs) | _, _ => none) = some ps := by cases n <;> exact h
    cases c1 : pyD n d with
    | none => rw [c1] at h; cases h
    | some x =>
      cases c2 : pyDs n ds with
      | none => rw [c1, c2] at h; cases h
      | some xs =>
        rw [c1, c2] at h
        cases h
        exact .cons (RepD.dp e d n v x c1 q1) (RepDs.dp e ds n r' xs c2 q2)
end
end
mutual
theorem eqD_py : ∀ (d e : Dat) (n m : Nat) (p q : PyData), pyD n d = some p → pyD m e = some q → PyData.eqv p q = eqD d e
  | .non, e, n, m, p, q, h1, h2 => by
    have : p = .none := by cases n <;> (cases h1; rfl)
    subst this
    cases e <;> cases m <;> simp [pyD] at h2 <;> first | (subst h2; simp [PyData.eqv, eqD]) | (obtain ⟨_, _, rfl⟩ := h2; simp [PyData.eqv, eqD])
  | .bl b, e, n, m, p, q, h1, h2 => by
    have : p = .bool b := by cases n <;> (cases h1; rfl)
    subst this
    cases e <;> cases m <;> simp [pyD] at h2 <;> first | (subst h2; simp [PyData.eqv, eqD]) | (obtain ⟨_, _, rfl⟩ := h2; simp [PyData.eqv, eqD])
  | .int b, e, n, m, p, q, h1, h2 => by
    have : p = .int b := by cases n <;> (cases h1; rfl)
    subst this
    cases e <;> cases m <;> simp [pyD] at h2 <;> first | (subst h2; simp [PyData.eqv, eqD]) | (obtain ⟨_, _, rfl⟩ := h2; simp [PyData.eqv, eqD])
  | .str b, e, n, m, p, q, h1, h2 => by
    have : p = .str b := by cases n <;> (cases h1; rfl)
    subst this
    cases e <;> cases m <;> simp [pyD] at h2 <;> first | (subst h2; simp [PyData.eqv, eqD]) | (obtain ⟨_, _, rfl⟩ := h2; simp [PyData.eqv, eqD])
  | .tup xs, e, 0, m, p, q, h1, h2 => by cases h1
  | .lst xs, e, 0, m, p, q, h1, h2 => by cases h1
  | .tup xs, e, n + 1, m, p, q, h1, h2 => by
    simp only [pyD, Option.map_eq_some_iff] at h1
    obtain ⟨ps, h1, rfl⟩ := h1
    cases e with
    | tup ys =>
      cases m with
      | zero => cases h2
      | succ m =>
        simp only [pyD, Option.map_eq_some_iff] at h2
        obtain ⟨qs, h2, rfl⟩ := h2
        simpa [PyData.eqv, eqD] using eqDs_py xs ys n m ps qs h1 h2
    | _ => cases m <;> simp [pyD] at h2 <;> first | (subst h2; simp [PyData.eqv, eqD]) | (obtain ⟨_, _, rfl⟩ := h2; simp [PyData.eqv, eqD])
  | .lst xs, e, n + 1, m, p, q, h1, h2 => by
    simp only [pyD, Option.map_eq_some_iff] at h1
    obtain ⟨ps, h1, rfl⟩ := h1
    cases e with
    | lst ys =>
      cases m with
      | zero => cases h2
      | succ m =>
        simp only [pyD, Option.map_eq_some_iff] at h2
        obtain ⟨qs, h2, rfl⟩ := h2
        simpa [PyData.eqv, eqD] using eqDs_py xs ys n m ps qs h1 h2
    | _ => cases m <;> simp [pyD] at h2 <;> first | (subst h2; simp [PyData.eqv, eqD]) | (obtain ⟨_, _, rfl⟩ := h2; simp [PyData.eqv, eqD])
  | .dic _, _, n, _, _, _, h, _ => by cases n <;> cases h
  | .kst _, _, n, _, _, _, h, _ => by cases n <;> cases h
theorem eqDs_py : ∀ (ds es : List Dat) (n m : Nat) (ps qs : List PyData), pyDs n ds = some ps → pyDs m es = some qs → PyData.eqvAll ps qs = eqDs ds es
  | [], es, n, m, ps, qs, h1, h2 => by
    have : ps = [] := by cases n <;> (cases h1; rfl)
    subst this
    cases es with
    | nil =>
      have : qs = [] := by cases m <;> (cases h2; rfl)
      subst this
      simp [PyData.eqvAll, eqDs]
    | cons e r =>
      have h2 : (match pyD m e, pyDs m r with | some x, some xs => some (x :: xs) | _, _ => none) = some qs := by cases m <;> exact h2
      split at h2
      · cases h2; simp [PyData.eqvAll, eqDs]
      · cases h2
  | d :: ds, es, n, m, ps, qs, h1, h2 => by
    have h1 : (match pyD n d, pyDs n ds with | some x, some xs => some (x :: xs) | _, _ => none) = some ps := by cases n <;> exact h1
    cases c1 : pyD n d with
    | none => rw [c1] at h1; cases h1
    | some x =>
      cases c2 : pyDs n ds with
      | none => rw [c1, c2] at h1; cases h1
      | some xs =>
        rw [c1, c2] at h1
        cases h1
        cases es with
        | nil =>
          have : qs = [] := by cases m <;> (cases h2; rfl)
          subst this
          simp [PyData.eqvAll, eqDs]
        | cons e r =>
          have h2 : (match pyD m e, pyDs m r with | some x, some xs => some (x :: xs) | _, _ => none) = some qs := by cases m <;> exact h2
          cases g1 : pyD m e with
          | none => rw [g1] at h2; cases h2
          | some y =>
            cases g2 : pyDs m r with
            | none => rw [g1, g2] at h2; cases h2
            | some ys =>
              rw [g1, g2] at h2
              cases h2
              simp only [PyData.eqvAll, eqDs, eqD_py d e n m x y c1 g1, eqDs_py ds r n m xs ys c2 g2]
end
/-- what stands there, as plain data -/
theorem RepO.dat {K : PySem.W.Frag} {G H : Hp} {o : OT} {v : V} {f : List Addr} (e : Ex G H) (r : RepO K G H o v f) : RepD K H (frz o) v := RepO.freeze e o v f (fun _ _ _ e => e) r
def eqO (x y : OT) : Option Bool := match x, y with
  | .fz (.str s), .fz (.str t) => some (decide (s = t))
  | x, y => if cmpOk 60 (frz x) && cmpOk 60 (frz y) then some (eqD (frz x) (frz y)) else none
def opEq (x y : OT) : Option OT := (eqO x y).map fun b => .fz (.bl b)
def opNe (x y : OT) : Option OT := (eqO x y).map fun b => .fz (.bl (!b))
def rEqA (K : PySem.W.Frag) : R2 := fun x y H Q => rEq x y H Q ∨ rEqD K x y H Q
def rNeA (K : PySem.W.Frag) : R2 := fun x y H Q => rNe x y H Q ∨ rNeD K x y H Q
theorem op_eqA {X : Cx} (hu : X.A.units + 64 < cLine) : OpR X (compareOp .Eq) (rEqA X.K) := op_eq.or (op_eqD hu)
theorem op_neA {X : Cx} (hu : X.A.units + 64 < cLine) : OpR X (compareOp .NotEq) (rNeA X.K) := op_ne.or (op_neD hu)
theorem eqO_dp {K : PySem.W.Frag} {G H : Hp} {o1 o2 : OT} {v1 v2 : V} {f1 f2 : List Addr} {b : Bool} (e : Ex G H) (r1 : RepO K G H o1 v1 f1) (r2 : RepO K G H o2 v2 f2) (c : eqO o1 o2 = some b) :
    (∃ s t, v1 = .str s ∧ v2 = .str t ∧ b = decide (s = t)) ∨ ∃ d1 d2, Dp K H v1 d1 ∧ Dp K H v2 d2 ∧ SeqAt.shaped d1 = true ∧ SeqAt.shaped d2 = true ∧ PyData.eqv d1 d2 = b := by
  unfold eqO at c
  split at c
  · cases c
    exact .inl ⟨_, _, r1.2, r2.2, rfl⟩
  · split at c
    · rename_i h
      cases c
      rw [Bool.and_eq_true] at h
      obtain ⟨p, h1, h2, h3⟩ := cmp_py _ _ h.1
      obtain ⟨q, g1, g2, g3⟩ := cmp_py _ _ h.2
      have sh : ∀ p : PyData, p.canLay0 = true → p.depth ≤ 60 → SeqAt.shaped p = true := fun p a b => by
        unfold SeqAt.shaped
        rw [a]
        simp only [Bool.true_and, decide_eq_true_eq]
        omega
      exact .inr ⟨p, q, RepD.dp (Ex.refl _) _ _ _ _ h1 (RepO.dat e r1), RepD.dp (Ex.refl _) _ _ _ _ g1 (RepO.dat e r2), sh p h2 h3, sh q g2 g3, eqD_py _ _ _ _ _ _ h1 g1⟩
    · cases c
theorem ok_eq {K : PySem.W.Frag} : OpOk K (rEqA K) opEq := fun G H o1 o2 v1 v2 f1 f2 o Q e r1 r2 c q => by
  unfold opEq at c
  cases h : eqO o1 o2 with
  | none => rw [h] at c; cases c
  | some b =>
    rw [h] at c
    cases c
    rcases eqO_dp e r1 r2 h with ⟨s, t, rfl, rfl, rfl⟩ | ⟨d1, d2, h1, h2, h3, h4, rfl⟩
    · refine .inl ⟨rfl, ?_⟩
      have : decide (V.str s = V.str t) = decide (s = t) := by
        by_cases h : s = t
        · subst h; simp
        · have : ¬ V.str s = V.str t := fun z => h (V.str.inj z)
          rw [decide_eq_false h, decide_eq_false this]
      rw [this]
      exact q.bl
    · exact .inr ⟨d1, d2, h1, h2, h3, h4, q.bl⟩
theorem ok_ne {K : PySem.W.Frag} : OpOk K (rNeA K) opNe := fun G H o1 o2 v1 v2 f1 f2 o Q e r1 r2 c q => by
  unfold opNe at c
  cases h : eqO o1 o2 with
  | none => rw [h] at c; cases c
  | some b =>
    rw [h] at c
    cases c
    rcases eqO_dp e r1 r2 h with ⟨s, t, rfl, rfl, rfl⟩ | ⟨d1, d2, h1, h2, h3, h4, rfl⟩
    · refine .inl ⟨rfl, ?_⟩
      have : decide (V.str s = V.str t) = decide (s = t) := by
        by_cases h : s = t
        · subst h; simp
        · have : ¬ V.str s = V.str t := fun z => h (V.str.inj z)
          rw [decide_eq_false h, decide_eq_false this]
      rw [this]
      exact q.bl
    · exact .inr ⟨d1, d2, h1, h2, h3, h4, q.bl⟩
end Lay
namespace Lay
open PySem PySem.Spec L2
def rIsB2 (neg : Bool) : R2 := fun x y H Q => (y = .non ∧ Q (.bl (if neg then !decide (x = .non) else decide (x = .non))) H) ∨ ∃ b, y = .bl b ∧ Q (.bl (if neg then !decide (x = .bl b) else decide (x = .bl b))) H
theorem RelV.bl_iff {x : V} {v : Value} {b : Bool} (r : RelV x v) : v = Value.bool b ↔ x = .bl b := by
  cases x with
  | non => cases r; exact ⟨(fun z => nomatch z), (fun z => nomatch z)⟩
  | bl c => cases (show v = Value.bool c from r); exact ⟨(fun z => by cases z; rfl), (fun z => by cases z; rfl)⟩
  | int _ => obtain ⟨t, rfl⟩ := r; exact ⟨(fun z => nomatch z), (fun z => nomatch z)⟩
  | str _ => obtain ⟨t, rfl⟩ := r; exact ⟨(fun z => nomatch z), (fun z => nomatch z)⟩
  | byt _ => obtain ⟨t, rfl⟩ := r; exact ⟨(fun z => nomatch z), (fun z => nomatch z)⟩
  | flt _ => obtain ⟨t, rfl⟩ := r; exact ⟨(fun z => nomatch z), (fun z => nomatch z)⟩
  | ref _ => cases r; exact ⟨(fun z => nomatch z), (fun z => nomatch z)⟩
  | ty _ => cases r; exact ⟨(fun z => nomatch z), (fun z => nomatch z)⟩
theorem is_bool_gen {M : Model} {A : Around} {E : Value → Shared → Prop} {s : Shared} {Q : Value → Shared → Prop} {x : V} {v : Value} {b : Bool} (r : RelV x v) (h : Q (.bool (v == .bool b)) s) : wpAny M A (compareOp .Is v (.bool b)) Q E s := by
  cases x with
  | non => cases r; exact wpAny_pure h
  | bl c => cases (show v = Value.bool c from r); exact wpAny_pure h
  | int _ => obtain ⟨t, rfl⟩ := r; exact wpAny_pure h
  | str _ => obtain ⟨t, rfl⟩ := r; exact wpAny_pure h
  | byt _ => obtain ⟨t, rfl⟩ := r; exact wpAny_pure h
  | flt _ => obtain ⟨t, rfl⟩ := r; exact wpAny_pure h
  | ref _ => cases r; exact wpAny_pure h
  | ty _ => cases r; exact wpAny_pure h
theorem isnot_bool_gen {M : Model} {A : Around} {E : Value → Shared → Prop} {s : Shared} {Q : Value → Shared → Prop} {x : V} {v : Value} {b : Bool} (r : RelV x v) (h : Q (.bool (!(v == .bool b))) s) : wpAny M A (compareOp .IsNot v (.bool b)) Q E s := by
  cases x with
  | non => cases r; exact wpAny_pure h
  | bl c => cases (show v = Value.bool c from r); exact wpAny_pure h
  | int _ => obtain ⟨t, rfl⟩ := r; exact wpAny_pure h
  | str _ => obtain ⟨t, rfl⟩ := r; exact wpAny_pure h
  | byt _ => obtain ⟨t, rfl⟩ := r; exact wpAny_pure h
  | flt _ => obtain ⟨t, rfl⟩ := r; exact wpAny_pure h
  | ref _ => cases r; exact wpAny_pure h
  | ty _ => cases r; exact wpAny_pure h
section
variable {X : Cx}
theorem op_isA : OpR X (compareOp .Is) (rIsB2 false) := by
  intro pins s σ H x y v u Q I rx ry h
  rcases h with ⟨rfl, q⟩ | ⟨b, rfl, q⟩
  · exact op_isN pins s σ H x .non v u Q I rx ry ⟨rfl, q⟩
  · cases (show u = Value.bool b from ry)
    refine is_bool_gen rx ⟨.bl _, H, I, ?_, q⟩
    show Value.bool _ = Value.bool _
    congr 1
    by_cases e : x = .bl b
    · rw [(RelV.bl_iff rx).mpr e, if_neg Bool.false_ne_true, decide_eq_true e]; simp
    · have : v ≠ Value.bool b := fun z => e ((RelV.bl_iff rx).mp z)
      rw [if_neg Bool.false_ne_true, decide_eq_false e]
      simpa using this
theorem op_isNotA : OpR X (compareOp .IsNot) (rIsB2 true) := by
  intro pins s σ H x y v u Q I rx ry h
  rcases h with ⟨rfl, q⟩ | ⟨b, rfl, q⟩
  · exact op_notN pins s σ H x .non v u Q I rx ry ⟨rfl, q⟩
  · cases (show u = Value.bool b from ry)
    refine isnot_bool_gen rx ⟨.bl _, H, I, ?_, q⟩
    show Value.bool _ = Value.bool _
    congr 1
    by_cases e : x = .bl b
    · rw [(RelV.bl_iff rx).mpr e, if_pos rfl, decide_eq_true e]; simp
    · have : v ≠ Value.bool b := fun z => e ((RelV.bl_iff rx).mp z)
      rw [if_pos rfl, decide_eq_false e]
      simpa using this
end
def isNonO : OT → Bool
  | .fz .non => true
  | _ => false
def isBlO (b : Bool) : OT → Bool
  | .fz (.bl c) => c == b
  | _ => false
def isO (x y : OT) : Option Bool := match y with
  | .fz .non => some (isNonO x)
  | .fz (.bl b) => some (isBlO b x)
  | _ => none
def opIs (neg : Bool) (x y : OT) : Option OT := (isO x y).map fun b => .fz (.bl (if neg then !b else b))
theorem isNon_ok {K : PySem.W.Frag} {G H : Hp} {o : OT} {v : V} {f : List Addr} (r : RepO K G H o v f) : decide (v = .non) = isNonO o := by
  cases o with
  | fz d =>
    cases d with
    | non => cases (show v = .non from r.2); rfl
    | bl b => cases (show v = .bl b from r.2); rfl
    | int b => cases (show v = .int b from r.2); rfl
    | str b => cases (show v = .str b from r.2); rfl
    | tup b => obtain ⟨_, a, vs, rfl, _⟩ := r; rfl
    | lst b => obtain ⟨_, a, vs, rfl, _⟩ := r; rfl
    | dic b => obtain ⟨_, a, vs, rfl, _⟩ := r; rfl
    | kst b => obtain ⟨_, a, rfl, _⟩ := r; rfl
  | lst os => obtain ⟨a, vs, _, rfl, _⟩ := r; rfl
  | dic os => obtain ⟨a, vs, _, rfl, _⟩ := r; rfl
theorem isBl_ok {K : PySem.W.Frag} {G H : Hp} {o : OT} {v : V} {f : List Addr} {b : Bool} (r : RepO K G H o v f) : decide (v = .bl b) = isBlO b o := by
  cases o with
  | fz d =>
    cases d with
    | non => cases (show v = .non from r.2); rfl
    | bl c => cases (show v = .bl c from r.2); cases b <;> cases c <;> rfl
    | int b => cases (show v = .int b from r.2); rfl
    | str b => cases (show v = .str b from r.2); rfl
    | tup b => obtain ⟨_, a, vs, rfl, _⟩ := r; rfl
    | lst b => obtain ⟨_, a, vs, rfl, _⟩ := r; rfl
    | dic b => obtain ⟨_, a, vs, rfl, _⟩ := r; rfl
    | kst b => obtain ⟨_, a, rfl, _⟩ := r; rfl
  | lst os => obtain ⟨a, vs, _, rfl, _⟩ := r; rfl
  | dic os => obtain ⟨a, vs, _, rfl, _⟩ := r; rfl
theorem ok_is {K : PySem.W.Frag} {neg : Bool} : OpOk K (rIsB2 neg) (opIs neg) := fun G H o1 o2 v1 v2 f1 f2 o Q e r1 r2 c q => by
  unfold opIs at c
  cases h : isO o1 o2 with
  | none => rw [h] at c; cases c
  | some k =>
    rw [h] at c
    cases c
    unfold isO at h
    split at h
    · cases h
      refine .inl ⟨r2.2, ?_⟩
      rw [isNon_ok r1]
      cases neg <;> exact q.bl
    · rename_i b
      cases h
      refine .inr ⟨b, r2.2, ?_⟩
      rw [isBl_ok r1]
      cases neg <;> exact q.bl
    · cases h
def opIx (x y : OT) : Option OT := match y with
  | .fz (.int i) => match x with
    | .fz (.tup xs) => (atI xs i).map .fz
    | .fz (.kst ns) => (atI ns i).map fun n => .fz (.int n)
    | .fz (.str s) => if s.length ≤ sizeLine then (atI s.cps.toList i).map fun c => .fz (.str ⟨#[c]⟩) else none
    | x => match asL x with
      | some xs => (atI xs i).map .fz
      | none => none
  | _ => none
theorem RepDs.atI {K : PySem.W.Frag} {G : Hp} {ds : List Dat} {vs : List V} (r : RepDs K G ds vs) {i : Int} {d : Dat} (h : L2.atI ds i = some d) : ∃ v, L2.atI vs i = some v ∧ RepD K G d v := by
  unfold L2.atI at h ⊢
  rw [r.length]
  cases e : ixN ds.length i with
  | none => rw [e] at h; cases h
  | some j =>
    rw [e] at h
    have h : ds[j]? = some d := h
    have hj : j < vs.length := by rw [r.length]; exact (List.getElem?_eq_some_iff.mp h).1
    obtain ⟨d', h1, h2⟩ := r.get (List.getElem?_eq_getElem hj)
    rw [h] at h1
    cases h1
    exact ⟨_, List.getElem?_eq_getElem hj, h2⟩
theorem ok_ix {K : PySem.W.Frag} : OpOk K (rIx K) opIx := fun G H o1 o2 v1 v2 f1 f2 o Q e r1 r2 c q => by
  unfold opIx at c
  split at c
  · rename_i i
    cases (show v2 = .int i from r2.2)
    split at c
    · rename_i xs
      obtain ⟨_, a, vs, rfl, ha, ra⟩ := r1
      cases h : L2.atI xs i with
      | none => rw [h] at c; cases c
      | some d =>
        rw [h] at c
        cases c
        obtain ⟨v, g1, g2⟩ := ra.atI h
        exact .inr (.inl ⟨a, vs, i, v, rfl, rfl, e.sqT ha, g1, Res.same q g2⟩)
    · rename_i ns
      obtain ⟨_, a, rfl, ha⟩ := r1
      cases h : L2.atI ns i with
      | none => rw [h] at c; cases c
      | some n =>
        rw [h] at c
        cases c
        refine .inl ⟨a, _, i, .int n, rfl, rfl, e.sqL ha, ?_, q.int⟩
        unfold L2.atI at h ⊢
        rw [List.length_map]
        cases e : ixN ns.length i with
        | none => rw [e] at h; cases h
        | some j =>
          rw [e] at h
          have h : ns[j]? = some n := h
          show (ns.map V.int)[j]? = _
          rw [List.getElem?_map, h]
          rfl
    · rename_i s
      cases (show v1 = .str s from r1.2)
      by_cases hz : s.length ≤ sizeLine
      · rw [if_pos hz] at c
        cases h : L2.atI s.cps.toList i with
        | none => rw [h] at c; cases c
        | some n =>
          rw [h] at c
          cases c
          exact .inr (.inr ⟨s, i, n, rfl, rfl, hz, h, q.str⟩)
      · rw [if_neg hz] at c; cases c
    · cases c1 : asL o1 with
      | none => rw [c1] at c; cases c
      | some xs =>
        rw [c1] at c
        simp only at c
        obtain ⟨a, vs, rfl, ha, ra⟩ := asL_ok e r1 c1
        cases h : L2.atI xs i with
        | none => rw [h] at c; cases c
        | some d =>
          rw [h] at c
          cases c
          obtain ⟨v, g1, g2⟩ := ra.atI h
          exact .inl ⟨a, vs, i, v, rfl, rfl, .inl (.inl ha), g1, Res.same q g2⟩
  · cases c
/-- x[i] where x owns its items: what is read must stand alone -/
def lenO : OT → Option Nat
  | .fz (.str s) => if s.length ≤ sizeLine then some s.length else none
  | .fz (.tup xs) => some xs.length
  | .fz (.lst xs) => some xs.length
  | .fz (.kst xs) => some xs.length
  | .lst os => some os.length
  | _ => none
def opLen : List OT → Option OT
  | [x] => (lenO x).map fun n => .fz (.int n)
  | _ => none
theorem lenO_ok {K : PySem.W.Frag} {G H : Hp} {o : OT} {v : V} {f : List Addr} {n : Nat} (e : Ex G H) (r : RepO K G H o v f) (h : lenO o = some n) : LenV K v H n := by
  cases o with
  | fz d =>
    cases d with
    | str s =>
      cases (show v = .str s from r.2)
      have h : (if s.length ≤ sizeLine then some s.length else none) = some n := h
      by_cases hz : s.length ≤ sizeLine
      · rw [if_pos hz] at h; cases h; exact ⟨hz, rfl⟩
      · rw [if_neg hz] at h; cases h
    | tup xs => obtain ⟨_, a, vs, rfl, q, r⟩ := r; cases h; exact .inr ⟨vs, e.sqT q, r.length.symm⟩
    | lst xs => obtain ⟨_, a, vs, rfl, q, r⟩ := r; cases h; exact .inl ⟨vs, .inl (.inl (e a _ q)), r.length.symm⟩
    | kst xs => obtain ⟨_, a, rfl, q⟩ := r; cases h; exact .inl ⟨_, e.sqL q, by rw [List.length_map]⟩
    | _ => cases h
  | lst os => obtain ⟨a, vs, _, rfl, _, q, r⟩ := r; cases h; exact .inl ⟨vs, .inl (.inl q), (RepOs.length r).symm⟩
  | dic os => cases h
theorem RepV.one {K : PySem.W.Frag} {G H : Hp} {o : OT} {vs : List V} (h : RepV K G H [o] vs) : ∃ v f, vs = [v] ∧ RepO K G H o v f := by
  obtain ⟨v, r', f, rfl, q, e⟩ := h
  cases (show r' = [] from e)
  exact ⟨v, f, rfl, q⟩
theorem RepV.two {K : PySem.W.Frag} {G H : Hp} {o o' : OT} {vs : List V} (h : RepV K G H [o, o'] vs) : ∃ v v' f f', vs = [v, v'] ∧ RepO K G H o v f ∧ RepO K G H o' v' f' := by
  obtain ⟨v, r', f, rfl, q, h⟩ := h
  obtain ⟨v', f', rfl, q'⟩ := h.one
  exact ⟨v, v', f, f', rfl, q, q'⟩
theorem ok_len {K : PySem.W.Frag} : CallOk K (fun xs H Q => ∃ x n, xs = [x] ∧ LenV K x H n ∧ Q (.int n) H) opLen := fun G H os vs o Q e r c q => by
  unfold opLen at c
  split at c
  · rename_i x
    obtain ⟨v, f, rfl, r1⟩ := r.one
    cases h : lenO x with
    | none => rw [h] at c; cases c
    | some n =>
      rw [h] at c
      cases c
      exact ⟨v, n, rfl, lenO_ok e r1 h, q.int⟩
  · cases c
def op1I (g : Int → Option Dat) : List OT → Option OT
  | [.fz (.int i)] => (g i).map .fz
  | _ => none
def opAbs : List OT → Option OT := op1I fun i => some (.int (if i < 0 then -i else i))
def opInt : List OT → Option OT
  | [.fz (.int i)] => some (.fz (.int i))
  | [.fz (.bl b)] => some (.fz (.int (if b then 1 else 0)))
  | _ => none
theorem ok_int {K : PySem.W.Frag} : CallOk K (fun xs H Q => (∃ i, xs = [.int i] ∧ Q (.int i) H) ∨ ∃ k, xs = [.bl k] ∧ Q (.int (if k then 1 else 0)) H) opInt := fun G H os vs o Q e r c q => by
  unfold opInt at c
  split at c
  · cases c
    obtain ⟨v, f, rfl, r1⟩ := r.one
    cases (show v = .int _ from r1.2)
    exact .inl ⟨_, rfl, q.int⟩
  · cases c
    obtain ⟨v, f, rfl, r1⟩ := r.one
    cases (show v = .bl _ from r1.2)
    exact .inr ⟨_, rfl, q.int⟩
  · cases c
/-- the truth values of a list -/
def blsD : List Dat → Option (List Bool)
  | [] => some []
  | .bl b :: r => match blsD r with
    | some bs => some (b :: bs)
    | none => none
  | _ :: _ => none
theorem bls_eq : ∀ {ds : List Dat} {bs : List Bool}, blsD ds = some bs → ds = bs.map .bl
  | [], bs, h => by cases h; rfl
  | d :: r, bs, h => by
    cases d with
    | bl b =>
      unfold blsD at h
      cases c : blsD r with
      | none => simp [c] at h
      | some bs' =>
        simp only [c, Option.some.injEq] at h
        subst h
        rw [List.map_cons, ← bls_eq c]
    | _ => cases h
theorem RepDs.bl {K : PySem.W.Frag} {G : Hp} : ∀ {bs : List Bool} {vs : List V}, RepDs K G (bs.map .bl) vs → vs = bs.map V.bl
  | [], _, h => h
  | b :: r, _, h => by
    obtain ⟨v, r', rfl, q1, q2⟩ := h
    cases (show v = .bl b from q1)
    rw [RepDs.bl q2]; rfl
/-- the intsD of a list -/
def intsD : List Dat → Option (List Int)
  | [] => some []
  | .int b :: r => match intsD r with
    | some bs => some (b :: bs)
    | none => none
  | _ :: _ => none
theorem ints_eq : ∀ {ds : List Dat} {bs : List Int}, intsD ds = some bs → ds = bs.map .int
  | [], bs, h => by cases h; rfl
  | d :: r, bs, h => by
    cases d with
    | int b =>
      unfold intsD at h
      cases c : intsD r with
      | none => simp [c] at h
      | some bs' =>
        simp only [c, Option.some.injEq] at h
        subst h
        rw [List.map_cons, ← ints_eq c]
    | _ => cases h
theorem RepDs.int {K : PySem.W.Frag} {G : Hp} : ∀ {bs : List Int} {vs : List V}, RepDs K G (bs.map .int) vs → vs = bs.map V.int
  | [], _, h => h
  | b :: r, _, h => by
    obtain ⟨v, r', rfl, q1, q2⟩ := h
    cases (show v = .int b from q1)
    rw [RepDs.int q2]; rfl
def strsD : List Dat → Option (List Str)
  | [] => some []
  | .str b :: r => match strsD r with
    | some bs => some (b :: bs)
    | none => none
  | _ :: _ => none
theorem strs_eq : ∀ {ds : List Dat} {bs : List Str}, strsD ds = some bs → ds = bs.map .str
  | [], bs, h => by cases h; rfl
  | d :: r, bs, h => by
    cases d with
    | str b =>
      unfold strsD at h
      cases c : strsD r with
      | none => simp [c] at h
      | some bs' =>
        simp only [c, Option.some.injEq] at h
        subst h
        rw [List.map_cons, ← strs_eq c]
    | _ => cases h
theorem RepDs.str {K : PySem.W.Frag} {G : Hp} : ∀ {bs : List Str} {vs : List V}, RepDs K G (bs.map .str) vs → vs = bs.map V.str
  | [], _, h => h
  | b :: r, _, h => by
    obtain ⟨v, r', rfl, q1, q2⟩ := h
    cases (show v = .str b from q1)
    rw [RepDs.str q2]; rfl
def opAll : List OT → Option OT
  | [x] => match (asL x).bind blsD with
    | some bs => some (.fz (.bl (bs.all id)))
    | none => none
  | _ => none
theorem bls_ok {K : PySem.W.Frag} {G H : Hp} {o : OT} {v : V} {f : List Addr} {bs : List Bool} (e : Ex G H) (r : RepO K G H o v f) (c : (asL o).bind blsD = some bs) : ∃ a, v = .ref a ∧ SqL K H a (bs.map V.bl) := by
  cases h : asL o with
  | none => rw [h] at c; cases c
  | some ds =>
    rw [h] at c
    obtain ⟨a, vs, rfl, ha, ra⟩ := asL_ok e r h
    rw [bls_eq c] at ra
    rw [RepDs.bl ra] at ha
    exact ⟨a, rfl, .inl (.inl ha)⟩
theorem ok_all {K : PySem.W.Frag} : CallOk K (rAll K) opAll := fun G H os vs o Q e r c q => by
  unfold opAll at c
  split at c
  · rename_i x
    obtain ⟨v, f, rfl, r1⟩ := r.one
    cases h : (asL x).bind blsD with
    | none => rw [h] at c; cases c
    | some bs =>
      rw [h] at c
      cases c
      obtain ⟨a, rfl, ha⟩ := bls_ok e r1 h
      exact ⟨a, bs, rfl, ha, q.bl⟩
  · cases c
theorem ints_ok {K : PySem.W.Frag} {G H : Hp} {o : OT} {v : V} {f : List Addr} {bs : List Int} (e : Ex G H) (r : RepO K G H o v f) (c : (asL o).bind intsD = some bs) : ∃ a, v = .ref a ∧ SqL K H a (bs.map V.int) := by
  cases h : asL o with
  | none => rw [h] at c; cases c
  | some ds =>
    rw [h] at c
    obtain ⟨a, vs, rfl, ha, ra⟩ := asL_ok e r h
    rw [ints_eq c] at ra
    rw [RepDs.int ra] at ha
    exact ⟨a, rfl, .inl (.inl ha)⟩
def opGcd : List OT → Option OT
  | [.fz (.int i), .fz (.int j)] => some (.fz (.int ((Nat.gcd i.natAbs j.natAbs : Nat) : Int)))
  | _ => none
/-- list(x), tuple(x) -/
def asSq (x : OT) : Option (List Dat) := match asT x with
  | some ds => some ds
  | none => asL x
def opList : List OT → Option OT
  | [x] => (asSq x).map fun ds => .lst (ds.map .fz)
  | _ => none
def opTuple : List OT → Option OT
  | [x] => (asSq x).map fun ds => .fz (.tup ds)
  | _ => none
theorem ok_list {K : PySem.W.Frag} : CallOk K (fun xs H Q => ∃ p ys, xs = [.ref p] ∧ (SqL K H p ys ∨ SqT K H p ys) ∧ ∀ l, H l = none → Q (.ref l) (upd H l (.lst ys))) opList := fun G H os vs o Q e r c q => by
  unfold opList at c
  split at c
  · rename_i x
    obtain ⟨v, f, rfl, r1⟩ := r.one
    unfold asSq at c
    cases h : asT x with
    | some ds =>
      rw [h] at c
      cases c
      obtain ⟨a, vs, rfl, ha, ra⟩ := asT_ok e r1 h
      exact ⟨a, vs, rfl, .inr ha, fun l hl => Res.newL q ra hl⟩
    | none =>
      rw [h] at c
      cases h2 : asL x with
      | none => rw [h2] at c; cases c
      | some ds =>
        rw [h2] at c
        cases c
        obtain ⟨a, vs, rfl, ha, ra⟩ := asL_ok e r1 h2
        exact ⟨a, vs, rfl, .inl (.inl (.inl ha)), fun l hl => Res.newL q ra hl⟩
  · cases c
theorem ok_tuple {K : PySem.W.Frag} : CallOk K (fun xs H Q => ∃ p ys, xs = [.ref p] ∧ ((SqL K H p ys ∧ ∀ l, H l = none → Q (.ref l) (upd H l (.tup ys))) ∨ (SqT K H p ys ∧ Q (.ref p) H))) opTuple := fun G H os vs o Q e r c q => by
  unfold opTuple at c
  split at c
  · rename_i x
    obtain ⟨v, f, rfl, r1⟩ := r.one
    unfold asSq at c
    cases h : asT x with
    | some ds =>
      rw [h] at c
      cases c
      obtain ⟨a, vs, rfl, ha, ra⟩ := asT_ok e r1 h
      refine ⟨a, vs, rfl, .inr ⟨ha, ?_⟩⟩
      cases x with
      | fz d =>
        cases d with
        | tup ds' => cases h; exact Res.same q r1.2
        | _ => cases h
      | _ => cases h
    | none =>
      rw [h] at c
      cases h2 : asL x with
      | none => rw [h2] at c; cases c
      | some ds =>
        rw [h2] at c
        cases c
        obtain ⟨a, vs, rfl, ha, ra⟩ := asL_ok e r1 h2
        exact ⟨a, vs, rfl, .inl ⟨.inl (.inl ha), fun l hl => Res.newT q ra hl⟩⟩
  · cases c
def isDicO : OT → Bool
  | .fz (.dic _) => true
  | .dic _ => true
  | _ => false
def tyNm : OT → String
  | .fz .non => "NoneType"
  | .fz (.bl _) => "bool"
  | .fz (.int _) => "int"
  | .fz (.str _) => "str"
  | .fz (.tup _) => "tuple"
  | .fz (.lst _) => "list"
  | .fz (.dic _) => "dict"
  | .fz (.kst _) => "list"
  | .lst _ => "list"
  | .dic _ => "dict"
theorem tyNm_ok {K : PySem.W.Frag} {G H : Hp} {o : OT} {v : V} {f : List Addr} (e : Ex G H) (r : RepO K G H o v f) (nd : isDicO o = false) : TyX K H v (.type (tyNm o)) := by
  cases o with
  | fz d =>
    cases d with
    | non => cases (show v = .non from r.2); exact .base .non
    | bl b => cases (show v = .bl b from r.2); exact .base (.bl b)
    | int b => cases (show v = .int b from r.2); exact .base (.int b)
    | str b => cases (show v = .str b from r.2); exact .base (.str b)
    | tup b =>
      obtain ⟨_, a, vs, rfl, q, _⟩ := r
      rcases e.sqT q with (q | ⟨ob, q⟩) | ⟨ob, its, n, hk, hc, _⟩
      · exact .base (.tup q)
      · exact .fTuple q
      · exact .kTuple hk hc
    | lst b => obtain ⟨_, a, vs, rfl, q, _⟩ := r; exact .base (.lst (e _ _ q))
    | dic b => cases nd
    | kst b =>
      obtain ⟨_, a, rfl, q⟩ := r
      rcases e.sqL q with (q | ⟨ob, q⟩) | ⟨ob, its, n, hk, hc, _⟩
      · exact .base (.lst q)
      · exact .base (.frz q)
      · exact .kList hk hc
  | lst os => obtain ⟨a, vs, _, rfl, _, q, _⟩ := r; exact .base (.lst q)
  | dic os => cases nd
def opIsi (T : String) (x : OT) : Option OT := if isDicO x then none else (kitB (tyNm x) T).map fun b => .fz (.bl b)
theorem ok_isi {K : PySem.W.Frag} {T : String} : Op1Ok K (fun x H Q => rIsi K [x, .ty T] H Q) (opIsi T) := fun G H o1 v1 f1 o Q e r c q => by
  unfold opIsi at c
  split at c
  · cases c
  rename_i nd
  have nd : isDicO o1 = false := by simpa using nd
  cases h : kitB (tyNm o1) T with
  | none => rw [h] at c; cases c
  | some b =>
    rw [h] at c
    cases c
    exact ⟨v1, .ty T, _, _, b, rfl, .ty T, tyNm_ok e r nd, kit_ty h, q.bl⟩
end Lay
namespace Lay
open PySem PySem.Spec L2
def xOrV (f g : M Arg) : M Arg := fun ρ => (f ρ).bind fun a ρ1 => match (look ρ1 a).bind truO with
  | some true => .ok a ρ1
  | some false => g ρ1
  | none => .bad
def xAndV (f g : M Arg) : M Arg := fun ρ => (f ρ).bind fun a ρ1 => match (look ρ1 a).bind truO with
  | some true => g ρ1
  | some false => .ok a ρ1
  | none => .bad
def xNotV (f : M Arg) : M Arg := x1 (fun x => (truO x).map fun b => .fz (.bl (!b))) f
theorem Aft.fr {Z : Par} {T : Addr → Prop} {P : Pins} {σ : St} {H H1 : Hp} {fs fs1 : Nat → List Addr} {Q : VK} {r : R Arg} (h : Aft Z T P σ H fs Q r) (f : Fr H (Own fs) H1 (Own fs1)) : Aft Z T P σ H1 fs1 Q r := by
  cases r with
  | ok a ρ' => exact fun v H' fs' l r f' => h v H' fs' l r (f.trans f')
  | ex x ρ' => exact onX.fr0 h f
  | bad => exact h
theorem tOr_op {Z : Par} {f g : M Arg} {σ : St} {H : Hp} {Q : VK} (h : tD Z (xOrV f g) σ H Q) : tOrT Z.K (tD Z f) (tD Z g) σ H Q := by
  obtain ⟨T, P, ρ, fs, rp, q⟩ := h
  refine ⟨T, P, ρ, fs, rp, ?_⟩
  unfold xOrV at q
  cases e1 : f ρ with
  | bad => rw [e1] at q; exact q
  | ex x ρ' => rw [e1] at q; exact q
  | ok a ρ1 =>
    rw [e1] at q
    simp only [R.bind] at q
    intro v H1 fs1 l1 r1 f1
    cases c1 : look ρ1 a with
    | none => simp only [c1, Option.bind] at q; exact q.elim
    | some o =>
      simp only [c1, Option.bind] at q
      obtain ⟨g1, s1, _⟩ := RpA.see r1.rp r1.ar c1
      cases c2 : truO o with
      | none => simp only [c2] at q; exact q.elim
      | some b =>
        simp only [c2] at q
        refine ⟨b, tru_of hide_le s1 c2, ?_⟩
        cases b with
        | true => exact q v H1 fs1 l1 r1 f1
        | false => exact ⟨T, P, ρ1, fs1, r1.rp.unl, Aft.fr q (f1.imp fun _ z => .inr z)⟩
theorem tAnd_op {Z : Par} {f g : M Arg} {σ : St} {H : Hp} {Q : VK} (h : tD Z (xAndV f g) σ H Q) : tAndT Z.K (tD Z f) (tD Z g) σ H Q := by
  obtain ⟨T, P, ρ, fs, rp, q⟩ := h
  refine ⟨T, P, ρ, fs, rp, ?_⟩
  unfold xAndV at q
  cases e1 : f ρ with
  | bad => rw [e1] at q; exact q
  | ex x ρ' => rw [e1] at q; exact q
  | ok a ρ1 =>
    rw [e1] at q
    simp only [R.bind] at q
    intro v H1 fs1 l1 r1 f1
    cases c1 : look ρ1 a with
    | none => simp only [c1, Option.bind] at q; exact q.elim
    | some o =>
      simp only [c1, Option.bind] at q
      obtain ⟨g1, s1, _⟩ := RpA.see r1.rp r1.ar c1
      cases c2 : truO o with
      | none => simp only [c2] at q; exact q.elim
      | some b =>
        simp only [c2] at q
        refine ⟨b, tru_of hide_le s1 c2, ?_⟩
        cases b with
        | false => exact q v H1 fs1 l1 r1 f1
        | true => exact ⟨T, P, ρ1, fs1, r1.rp.unl, Aft.fr q (f1.imp fun _ z => .inr z)⟩
section
variable {X : Cx} {W : WX} {pos : Pos} {a b : Expr} {rest : List Expr} {fa fb : M Arg}
theorem de_one {op : BoolOp} (h : DE X W a fa) : DE X W (.BoolOp op [a] pos) fa := pe_one h
theorem de_or (h : DE X W a fa) (h2 : DE X W (.BoolOp .Or (b :: rest) pos) fb) : DE X W (.BoolOp .Or (a :: b :: rest) pos) (xOrV fa fb) := pe_imp (pe_orT h h2) fun _ _ _ q => tOr_op (Z := zp X W) q
theorem de_and (h : DE X W a fa) (h2 : DE X W (.BoolOp .And (b :: rest) pos) fb) : DE X W (.BoolOp .And (a :: b :: rest) pos) (xAndV fa fb) := pe_imp (pe_andT h h2) fun _ _ _ q => tAnd_op (Z := zp X W) q
theorem de_not (h : DE X W a fa) : DE X W (.UnaryOp .Not a pos) (xNotV fa) := pe_imp (pe_notT h) fun σ H Q q => t1_op (Z := zp X W) (r := fun x H Q => ∃ k, TruV X.K x H k ∧ Q (.bl (!k)) H) (fun G H o1 v1 f1 o Q e r c q => by
  cases h : truO o1 with
  | none => rw [h] at c; cases c
  | some b =>
    rw [h] at c
    cases c
    exact ⟨b, tru_of e r h, q.bl⟩) q
end
/-- a op1 b op2 c -/
def xChain (op op' : OT → OT → Option OT) (f g h : M Arg) : M Arg := fun ρ => (f ρ).bind fun a ρ1 => (g ρ1).bind fun b ρ2 => match look ρ2 a, look ρ2 b with
  | some x, some y => match op x y with
    | some (.fz (.bl true)) => match y with
      | .fz d => (h ρ2).bind fun c ρ3 => match look ρ3 c with
        | some z => match op' (.fz d) z with
          | some o => .ok (.tmp o) ρ3
          | none => .bad
        | none => .bad
      | _ => .bad
    | some (.fz (.bl false)) => .ok (.tmp (.fz (.bl false))) ρ2
    | _ => .bad
  | _, _ => .bad
/-- a comparison that makes nothing: two values, its answer -/
def CmpOk (K : PySem.W.Frag) (r : R2) (op : OT → OT → Option OT) : Prop :=
  ∀ G H o1 o2 v1 v2 f1 f2 b Q, Ex G H → RepO K G H o1 v1 f1 → RepO K G H o2 v2 f2 → op o1 o2 = some (.fz (.bl b)) → Q (.bl b) H → r v1 v2 H Q
theorem tChain_op {Z : Par} {r r' : R2} {op op' : OT → OT → Option OT} (ho : CmpOk Z.K r op) (ho' : OpOk Z.K r' op') {f g h : M Arg} {σ : St} {H : Hp} {Q : VK} (hh : tD Z (xChain op op' f g h) σ H Q) : tChain r r' (tD Z f) (tD Z g) (tD Z h) σ H Q := by
  obtain ⟨T, P, ρ, fs, rp, q⟩ := hh
  refine ⟨T, P, ρ, fs, rp, ?_⟩
  unfold xChain at q
  cases e1 : f ρ with
  | bad => rw [e1] at q; exact q
  | ex x ρ' => rw [e1] at q; exact q
  | ok a ρ1 =>
    rw [e1] at q
    simp only [R.bind] at q
    intro v1 H1 fs1 l1 r1 f1
    refine ⟨Tl T l1, P, ρ1, fs1, r1.rp, ?_⟩
    cases e2 : g ρ1 with
    | bad => rw [e2] at q; exact q
    | ex x ρ' => rw [e2] at q; exact onX.fr q f1
    | ok b ρ2 =>
      rw [e2] at q
      simp only at q
      intro v2 H2 fs2 l2 r2 f2
      have a1 := AR.step r1.ar r1.rp.noair f2
      have ff : Fr H (Own fs) H2 (Own fs2) := fun b x e n => by
        obtain ⟨h1, n1⟩ := f1 b x e n
        obtain ⟨h2, n2⟩ := f2 b x h1 fun z => n1 (.inr z)
        exact ⟨h2, fun z => n2 (.inr z)⟩
      have rr : Rp Z.K T P ρ2 σ H2 fs2 := r2.rp.grow (fun _ _ e => e) fun a z => .inl (.inl (.inl z))
      cases c1 : look ρ2 a with
      | none => simp only [c1] at q; exact q.elim
      | some x =>
        cases c2 : look ρ2 b with
        | none => simp only [c1, c2] at q; exact q.elim
        | some y =>
          simp only [c1, c2] at q
          obtain ⟨g1, s1, _⟩ := RpA.see r2.rp a1 c1
          obtain ⟨g2, s2, _⟩ := RpA.see r2.rp r2.ar c2
          split at q
          · rename_i c3
            split at q
            · rename_i d
              refine ho _ H2 x (.fz d) v1 v2 g1 g2 true _ hide_le s1 s2 c3 ⟨true, rfl, ?_⟩
              rw [if_pos rfl]
              have q := Aft.fr q ff
              have gx : Ex (hide (Hd (Tl (Tl T l1) l2) fs2) H2) (hide (Hd T fs2) H2) := hide_ex fun a y hn e => ⟨fun z => hn (z.imp (fun z => .inl (.inl z)) id), e⟩
              refine ⟨T, P, ρ2, fs2, rr, ?_⟩
              cases e3 : h ρ2 with
              | bad => rw [e3] at q; exact q
              | ex x ρ' => rw [e3] at q; exact q
              | ok c ρ3 =>
                rw [e3] at q
                simp only [R.bind] at q
                intro v3 H3 fs3 l3 r3 f3
                cases c4 : look ρ3 c with
                | none => simp only [c4] at q; exact q.elim
                | some z =>
                  simp only [c4] at q
                  obtain ⟨g3, s3, _⟩ := RpA.see r3.rp r3.ar c4
                  cases c5 : op' (.fz d) z with
                  | none => simp only [c5] at q; exact q.elim
                  | some o =>
                    simp only [c5] at q
                    have sd : RepO Z.K (hide (Hd (Tl T l3) fs3) H3) H3 (.fz d) v2 [] := ⟨rfl, RepD.mono (gx.trans (hdfr (ρ := []) (ρ' := []) f3)) d v2 s2.2⟩
                    exact ho' _ H3 (.fz d) z v2 v3 [] g3 o Q hide_le sd s3 c5 (Rp.res r3.rp f3 q)
            · exact q.elim
          · rename_i c3
            refine ho _ H2 x y v1 v2 g1 g2 false _ hide_le s1 s2 c3 ⟨false, rfl, ?_⟩
            rw [if_neg Bool.false_ne_true]
            exact q _ H2 fs2 [] ⟨rr.tl0, .nil, (fun _ z => nomatch z), rfl, rfl⟩ (ff.imp fun x z => z.elim (fun z => nomatch z) id)
          · exact q.elim
theorem OpOk.cmp {K : PySem.W.Frag} {r : R2} {op : OT → OT → Option OT} (h : OpOk K r op) (hq : ∀ {G H o1 o2 v1 v2 f1 f2 b} {Q : VK}, Ex G H → RepO K G H o1 v1 f1 → RepO K G H o2 v2 f2 → op o1 o2 = some (.fz (.bl b)) → Q (.bl b) H → r v1 v2 H Q) : CmpOk K r op := fun G H o1 o2 v1 v2 f1 f2 b Q => hq
theorem cmp_II {K : PySem.W.Frag} (p : Int → Int → Bool) : CmpOk K (rI0 fun i j => .bl (p i j)) (opCmp p) := fun G H o1 o2 v1 v2 f1 f2 b Q e r1 r2 c q => by
  obtain ⟨i, j, rfl, rfl, h, e⟩ := opII_ok c
  cases e
  exact ⟨i, j, r1.2, r2.2, q⟩
section
variable {X : Cx} {W : WX} {pos : Pos} {a b c : Expr} {fa fb fc : M Arg} {r r' : R2} {op op' : OT → OT → Option OT}
theorem dt_chain {o o' : CmpOp} (ho : OpR X (compareOp o) r) (ho' : OpR X (compareOp o') r') (hk : CmpOk X.K r op) (hk' : OpOk X.K r' op') (ha : DE X W a fa) (hb : DE X W b fb) (hc : DE X W c fc)
    (hm : lastMarks [o, o'] [b, c] = false := by with_unfolding_all rfl) : DT X W (.Compare a [o, o'] [b, c] pos) (xT (xChain op op' fa fb fc)) := pt_imp (pt_chain ho ho' ha hb hc hm) fun σ H Q q => by
  have q := tTest_op (Z := zp X W) q
  exact tChain_op (Z := zp X W) hk hk' q
end
def asIx (ρ : Env) (a : Arg) : Option Int := (look ρ a).bind asI
/-- a part of a slice -/
def xPart (f : M Arg) : M (Option Int) := fun ρ => (f ρ).bind fun a ρ1 => match asIx ρ1 a with
  | some i => .ok (some i) ρ1
  | none => .bad
def xNoPart : M (Option Int) := fun ρ => .ok none ρ
def xSl (op : OT → Option Int → Option Int → Option OT) (f : M Arg) (lo hi : M (Option Int)) : M Arg := fun ρ => (f ρ).bind fun a ρ1 => (lo ρ1).bind fun l ρ2 => (hi ρ2).bind fun h ρ3 => match look ρ3 a with
  | some x => match op x l h with
    | some o => .ok (.tmp o) ρ3
    | none => .bad
  | none => .bad
theorem RepDs.drop {K : PySem.W.Frag} {G : Hp} : ∀ {ds : List Dat} {vs : List V} (n : Nat), RepDs K G ds vs → RepDs K G (ds.drop n) (vs.drop n)
  | _, _, 0, h => h
  | [], _, n + 1, h => by rw [show _ = [] from h]; rfl
  | d :: r, _, n + 1, h => by
    obtain ⟨v, r', rfl, q1, q2⟩ := h
    exact RepDs.drop n q2
theorem RepDs.take {K : PySem.W.Frag} {G : Hp} : ∀ {ds : List Dat} {vs : List V} (n : Nat), RepDs K G ds vs → RepDs K G (ds.take n) (vs.take n)
  | _, _, 0, h => rfl
  | [], _, n + 1, h => by rw [show _ = [] from h]; rfl
  | d :: r, _, n + 1, h => by
    obtain ⟨v, r', rfl, q1, q2⟩ := h
    exact ⟨v, _, rfl, q1, RepDs.take n q2⟩
end Lay
namespace Lay
open PySem PySem.Spec L2
def storeAll : List Nat → List OT → Env → SR
  | [], [], ρ => .nx ρ
  | i :: is, o :: os, ρ => RS (gNm i o ρ) fun _ ρ1 => storeAll is os ρ1
  | _, _, _ => .bad
def sPar (is : List Nat) (f : M (List Arg)) : SM := fun ρ => RS (f ρ) fun as ρ1 => match takes ρ1 as with
  | some (os, ρ2) => storeAll is os ρ2
  | none => .bad
def setAll : List Nat → List V → St → St
  | i :: is, v :: vs, σ => setAll is vs (σ.set i (some v))
  | _, _, σ => σ
theorem storeAll_ok {Z : Par} {D : Ends} : ∀ {is : List Nat} {os : List OT} {vs : List V} {l : List Addr} {T : Addr → Prop} {P : Pins} {ρ : Env} {σ : St} {H : Hp} {fs : Nat → List Addr}, Rp Z.K (Tl T l) P ρ σ H fs → l.Nodup → (∀ b ∈ l, ¬ T b) → RepOs Z.K (hide (Hd (Tl T l) fs) H) H os vs l →
    ∀ {H0 : Hp} {fs0 : Nat → List Addr}, Fr H0 (Own fs0) H (Ow l fs) → AftS Z T P H0 fs0 D (storeAll is os ρ) → is.length = vs.length ∧ D.nx (setAll is vs σ) H
  | [], [], vs, l, T, P, ρ, σ, H, fs, r, nd, nt, ro, H0, fs0, f, q => by
    obtain ⟨rfl, rfl⟩ := ro
    rw [Tl_nil] at r
    exact ⟨rfl, q σ H fs r (f.imp fun x z => .inr z)⟩
  | [], o :: os, vs, l, T, P, ρ, σ, H, fs, r, nd, nt, ro, H0, fs0, f, q => q.elim
  | i :: is, [], vs, l, T, P, ρ, σ, H, fs, r, nd, nt, ro, H0, fs0, f, q => q.elim
  | i :: is, o :: os, vs, l, T, P, ρ, σ, H, fs, r, nd, nt, ro, H0, fs0, f, q => by
    obtain ⟨v, r', l1, l2, rfl, rfl, q1, q2⟩ := ro
    have nda := List.nodup_append.mp nd
    have e12 : Tl (Tl T l2) l1 = Tl T (l1 ++ l2) := by
      funext b
      simp only [Tl, List.mem_append, eq_iff_iff]
      constructor
      · rintro ((z | z) | z) <;> simp [z]
      · rintro (z | z | z) <;> simp [z]
    rw [← e12] at r q1 q2
    have rA : RpA Z.K (Tl T l2) P ρ σ H fs (.tmp o) v l1 := ⟨r, nda.1, fun b hb z => by
      rcases z with z | z
      · exact nt b (List.mem_append_left _ hb) z
      · exact nda.2.2 b hb b z rfl, q1⟩
    unfold storeAll at q
    have go : (ρ[i]? = some .un ∨ ∃ o', ρ[i]? = some (.vl o')) → AftS Z T P H0 fs0 D (storeAll is os (ρ.set i (.vl o))) → (i :: is).length = (v :: r').length ∧ D.nx (setAll (i :: is) (v :: r') σ) H := fun hs q => by
      obtain ⟨h1, h2⟩ := rA.store hs
      have ex : Ex (hide (Hd (Tl (Tl T l2) l1) fs) H) (hide (Hd (Tl T l2) (fset fs i l1)) H) := hide_ex fun a x n e => ⟨fun z => n (by
        rcases z with z | z
        · exact .inl (.inl z)
        · rcases h2 a z with z | z
          · exact .inl (.inr z)
          · exact .inr z), e⟩
      obtain ⟨g1, g2⟩ := storeAll_ok h1 nda.2.1 (fun b hb => nt b (List.mem_append_right _ hb)) (RepOs.mono ex os r' l2 (fun _ _ _ e => e) q2) (H0 := H0) (fs0 := fs0) (f.imp fun x z => by
        rcases z with z | z
        · exact .inl (List.mem_append_right _ z)
        · rcases h2 x z with z | z
          · exact .inl (List.mem_append_left _ z)
          · exact .inr z) q
      exact ⟨by rw [List.length_cons, List.length_cons, g1], g2⟩
    unfold gNm at q
    cases es : ρ[i]? with
    | none => simp only [es, RS] at q; exact q.elim
    | some s =>
      cases s with
      | un => simp only [es, RS] at q; exact go (.inl es) q
      | vl o' => simp only [es, RS] at q; exact go (.inr ⟨o', es⟩) q
      | io o' => simp only [es, RS] at q; exact q.elim
      | lk o' => simp only [es, RS] at q; exact q.elim
def tParL (is : List Nat) (ta : TA) : TS := fun D σ H => ta σ H fun vs H1 => is.length = vs.length ∧ D.nx (setAll is vs σ) H1
theorem tPar_op {Z : Par} {is : List Nat} {f : M (List Arg)} {D : Ends} {σ : St} {H : Hp} (h : tS Z (sPar is f) D σ H) : tParL is (tDA Z f) D σ H := by
  obtain ⟨T, P, ρ, fs, rp, q⟩ := h
  refine ⟨T, P, ρ, fs, rp, ?_⟩
  unfold sPar at q
  cases e1 : f ρ with
  | bad => rw [e1] at q; exact q
  | ex x ρ' => rw [e1] at q; exact q
  | ok as ρ1 =>
    rw [e1] at q
    simp only [RS] at q
    intro vs H1 fs1 l1 r1 f1
    cases c1 : takes ρ1 as with
    | none => simp only [c1] at q; exact q.elim
    | some p =>
      obtain ⟨os, ρ2⟩ := p
      simp only [c1] at q
      obtain ⟨fs2, r2, s2, p2⟩ := takes_ok r1.rp r1.ar c1
      exact storeAll_ok r2 r1.nd r1.nt p2 (f1.imp fun x z => z.imp id (s2 x)) q
section
variable {X : Cx} {W : WX}
theorem ds_par2 {st : Stmt} {i j : Nat} {f : M (List Arg)} (h : PS X st (tPar i j (tDA (zp X W) f))) : DS X W st (sPar [i, j] f) := ps_imp h fun D σ H q => by
  obtain ⟨T, P, ρ, fs, rp, q⟩ := tPar_op (Z := zp X W) q
  refine ⟨T, P, ρ, fs, rp, ?_⟩
  cases e : f ρ with
  | bad => rw [e] at q; exact q
  | ex x ρ' => rw [e] at q; exact q
  | ok as ρ1 =>
    rw [e] at q
    intro vs H1 fs1 l1 r1 f1
    obtain ⟨hl, hd⟩ := q vs H1 fs1 l1 r1 f1
    match vs, hl with
    | [v, w], _ => exact ⟨v, w, rfl, hd⟩
end
def muAppend (x : OT) (os : List OT) : Option (OT × OT) := match x, os with
  | .lst xs, [o] => if xs.length < sizeLine then some (.lst (xs ++ [o]), .fz .non) else none
  | _, _ => none
theorem mu_append {K : PySem.W.Frag} : MutOk K rAppend muAppend := fun G H x v f os vs l x' o' Q e r1 r2 nd c q => by
  unfold muAppend at c
  split at c
  · rename_i xs o
    by_cases hz : xs.length < sizeLine
    · rw [if_pos hz] at c
      cases c
      obtain ⟨a, ws, g, rfl, rfl, ha, rx⟩ := r1
      obtain ⟨w, r', l1, l2, rfl, rfl, q1, q2⟩ := r2
      obtain ⟨rfl, rfl⟩ := q2
      rw [List.append_nil] at nd q
      have nda := List.nodup_append.mp nd
      have ndg := List.nodup_cons.mp nda.1
      refine ⟨a, ws, w, rfl, rfl, ha, by rw [RepOs.length rx]; exact hz, q .non _ (a :: (g ++ l1)) [] (fun b y h n => ?_) ?_ (fun b hb => ?_) fun G' ex nw => ⟨⟨a, ws ++ [w], g ++ l1, rfl, rfl, upd_same, ?_⟩, rfl, rfl⟩⟩
      · rw [upd_ne (fun z => n (by rw [z]; exact List.mem_cons_self))]; exact h
      · rw [List.append_nil]
        refine List.nodup_cons.mpr ⟨fun z => ?_, List.nodup_append.mpr ⟨ndg.2, nda.2.1, fun b hb c hc => nda.2.2 b (List.mem_cons_of_mem _ hb) c hc⟩⟩
        rcases List.mem_append.mp z with z | z
        · exact ndg.1 z
        · exact nda.2.2 a List.mem_cons_self a z rfl
      · rw [List.append_nil] at hb
        rcases List.mem_cons.mp hb with z | z
        · exact .inr (.inl (by rw [z]; exact List.mem_cons_self))
        · rcases List.mem_append.mp z with z | z
          · exact .inr (.inl (List.mem_cons_of_mem _ z))
          · exact .inr (.inr z)
      · refine RepOs.app (RepOs.mono ex xs ws g (fun b hb y h => ?_) rx) (RepO.mono ex o w l1 (fun b hb y h => ?_) q1)
        · rw [upd_ne (fun z => ndg.1 (by rw [← z]; exact hb))]; exact h
        · rw [upd_ne (fun z => nda.2.2 a List.mem_cons_self b hb z.symm)]; exact h
    · rw [if_neg hz] at c; cases c
  · cases c
/-- the footprints of a list's items, one by one -/
theorem RepOs.split {K : PySem.W.Frag} {G H H' : Hp} : ∀ {os : List OT} {vs : List V} {l : List Addr} {j : Nat}, RepOs K G H os vs l → j < os.length → (∀ b ∈ l, ∀ x, H b = some x → H' b = some x) → ∃ v f1 f f2, vs[j]? = some v ∧ l = f1 ++ f ++ f2 ∧ RepO K G H (os[j]?.getD (.fz .non)) v f ∧
    ∀ G', Ex G G' → ∀ {o w g}, RepO K G' H' o w g → RepOs K G' H' (os.set j o) (vs.set j w) (f1 ++ g ++ f2)
  | [], _, _, j, _, h, _ => absurd h (Nat.not_lt_zero j)
  | o0 :: r, _, _, 0, h, _, k => by
    obtain ⟨v, r', f1, f2, rfl, rfl, q1, q2⟩ := h
    exact ⟨v, [], f1, f2, rfl, rfl, q1, fun G' ex {o w g} h => ⟨w, r', g, f2, rfl, rfl, h, RepOs.mono ex r r' f2 (fun b hb => k b (List.mem_append_right _ hb)) q2⟩⟩
  | o0 :: r, _, _, j + 1, h, hj, k => by
    obtain ⟨v, r', g1, g2, rfl, rfl, q1, q2⟩ := h
    obtain ⟨w, f1, f, f2, h1, rfl, h3, h4⟩ := RepOs.split q2 (Nat.lt_of_succ_lt_succ hj) (fun b hb => k b (List.mem_append_right _ hb))
    refine ⟨w, g1 ++ f1, f, f2, by rw [List.getElem?_cons_succ]; exact h1, by simp only [List.append_assoc], h3, fun G' ex {o w g} h => ⟨v, _, g1, f1 ++ g ++ f2, rfl, by simp only [List.append_assoc], RepO.mono ex o0 v g1 (fun b hb => k b (List.mem_append_left _ hb)) q1, h4 G' ex h⟩⟩
def muSetL (x : OT) (os : List OT) : Option (OT × OT) := match x, os with
  | .lst xs, [.fz (.int k), o] => match ixN xs.length k with
    | some j => some (.lst (xs.set j o), .fz .non)
    | none => none
  | _, _ => none
theorem mu_setL {K : PySem.W.Frag} : MutOk K (fun x vs H Q => ∃ k w, vs = [k, w] ∧ rSetL x k w H fun H' => Q .non H') muSetL := fun G H x v f os vs l x' o' Q e r1 r2 nd c q => by
  unfold muSetL at c
  split at c
  · rename_i xs k o
    cases hx : ixN xs.length k with
    | none => rw [hx] at c; cases c
    | some j =>
      rw [hx] at c
      cases c
      obtain ⟨a, ws, g, rfl, rfl, ha, rx⟩ := r1
      obtain ⟨vk, r', l1, l2, rfl, rfl, qk, q2⟩ := r2
      obtain ⟨w, r'', l3, l4, rfl, rfl, q1, q2⟩ := q2
      obtain ⟨rfl, rfl⟩ := q2
      obtain ⟨rfl, qk⟩ := qk
      cases (show vk = .int k from qk)
      rw [List.append_nil, List.nil_append] at nd q
      have nda := List.nodup_append.mp nd
      have ndg := List.nodup_cons.mp nda.1
      have hlt : j < xs.length := (ixN_seq hx).2.1
      obtain ⟨u, f1, f, f2, h1, rfl, h3, h4⟩ := RepOs.split (H' := upd H a (.lst (ws.set j w))) rx hlt (fun b hb y h => by rw [upd_ne (fun z => ndg.1 (by rw [← z]; exact hb))]; exact h)
      have n3 := List.nodup_append.mp ndg.2
      have n4 := List.nodup_append.mp n3.1
      refine ⟨.int k, w, rfl, a, ws, k, j, rfl, rfl, ha, by rw [RepOs.length rx]; exact hx, q .non _ (a :: (f1 ++ l3 ++ f2)) [] (fun b y h n => ?_) ?_ (fun b hb => ?_) fun G' ex nw => ⟨⟨a, ws.set j w, f1 ++ l3 ++ f2, rfl, rfl, upd_same, ?_⟩, rfl, rfl⟩⟩
      · rw [upd_ne (fun z => n (by rw [z]; exact List.mem_cons_self))]; exact h
      · rw [List.append_nil]
        refine List.nodup_cons.mpr ⟨fun z => ?_, ?_⟩
        · rcases List.mem_append.mp z with z | z
          · rcases List.mem_append.mp z with z | z
            · exact ndg.1 (List.mem_append_left _ (List.mem_append_left _ z))
            · exact nda.2.2 a List.mem_cons_self a z rfl
          · exact ndg.1 (List.mem_append_right _ z)
        · refine List.nodup_append.mpr ⟨List.nodup_append.mpr ⟨n4.1, nda.2.1, fun b hb c hc => nda.2.2 b (List.mem_cons_of_mem _ (List.mem_append_left _ (List.mem_append_left _ hb))) c hc⟩, n3.2.1, fun b hb c hc => ?_⟩
          rcases List.mem_append.mp hb with hb | hb
          · exact n3.2.2 b (List.mem_append_left _ hb) c hc
          · exact fun e => nda.2.2 c (List.mem_cons_of_mem _ (List.mem_append_right _ hc)) b hb e.symm
      · rw [List.append_nil] at hb
        rcases List.mem_cons.mp hb with z | z
        · exact .inr (.inl (by rw [z]; exact List.mem_cons_self))
        · rcases List.mem_append.mp z with z | z
          · rcases List.mem_append.mp z with z | z
            · exact .inr (.inl (List.mem_cons_of_mem _ (List.mem_append_left _ (List.mem_append_left _ z))))
            · exact .inr (.inr z)
          · exact .inr (.inl (List.mem_cons_of_mem _ (List.mem_append_right _ z)))
      · have mo := RepO.mono (H' := upd H a (.lst (ws.set j w))) ex o w l3 (fun b hb y h => by rw [upd_ne (fun z => nda.2.2 a List.mem_cons_self b hb z.symm)]; exact h) q1
        exact h4 G' ex mo
  · cases c
/-- .. with what comes given away for good -/
def muF (op : OT → List OT → Option (OT × OT)) (x : OT) (os : List OT) : Option (OT × OT) := op x (os.map fun o => .fz (frz o))
theorem RepOs.frozen {K : PySem.W.Frag} {G G' H : Hp} (e : Ex G G') : ∀ (os : List OT) (vs : List V) (fp : List Addr), (∀ a ∈ fp, ∀ x, H a = some x → G' a = some x) → ∀ H', RepOs K G H os vs fp → RepOs K G' H' (os.map fun o => .fz (frz o)) vs []
  | [], _, _, _, _, h => ⟨h.1, rfl⟩
  | o :: r, _, _, k, H', h => by
    obtain ⟨v, r', f1, f2, rfl, rfl, q1, q2⟩ := h
    exact ⟨v, r', [], [], rfl, rfl, ⟨rfl, RepO.freeze e o v f1 (fun b hb => k b (List.mem_append_left _ hb)) q1⟩, RepOs.frozen e r r' f2 (fun b hb => k b (List.mem_append_right _ hb)) H' q2⟩
open Classical in
theorem MutOk.fz {K : PySem.W.Frag} {r : V → List V → Hp → VK → Prop} {op : OT → List OT → Option (OT × OT)} (h : MutOk K r op) : MutOk K r (muF op) := fun G H x v f os vs l x' o' Q e r1 r2 nd c q => by
  have nda := List.nodup_append.mp nd
  have exG : Ex G (fun a => if a ∈ l then H a else G a) := fun a y ha => by
    show (if a ∈ l then H a else G a) = some y
    split
    · exact e a y ha
    · exact ha
  refine h (fun a => if a ∈ l then H a else G a) H x v f (os.map fun o => .fz (frz o)) vs [] x' o' Q (fun a y ha => ?_) (RepO.mono exG x v f (fun _ _ _ e => e) r1) (RepOs.frozen exG os vs l (fun a ha y hy => by
    show (if a ∈ l then H a else G a) = some y
    rw [if_pos ha]; exact hy) H r2) (by rw [List.append_nil]; exact nda.1) c fun w H' f' l' hk hn hb hr => q w H' f' l' hk hn (fun b z => ?_) fun G' ex nw => hr G' (fun a y ha => ?_) fun b y hb => nw b y (by
      rcases hb with z | z | z
      · exact .inl z
      · exact .inr (.inl z)
      · cases z)
  · have ha : (if a ∈ l then H a else G a) = some y := ha
    split at ha
    · exact ha
    · exact e a y ha
  · rcases hb b z with z | z | z
    · exact .inl z
    · exact .inr (.inl z)
    · cases z
  · have ha : (if a ∈ l then H a else G a) = some y := ha
    split at ha
    · rename_i hl
      have nf : a ∉ f := fun z => nda.2.2 a z a hl rfl
      have no : a ∉ f' ++ l' := fun z => by
        rcases hb a z with z | z | z
        · rw [ha] at z; cases z
        · exact nf z
        · cases z
      exact nw a y (.inr (.inr hl)) (hk a y ha nf) (fun z => no (List.mem_append_left _ z)) (fun z => no (List.mem_append_right _ z))
    · exact ex a y ha
/-- a list display whose items are given away for good -/
def xLstF (f : M (List Arg)) : M Arg := fun ρ => (f ρ).bind fun as ρ1 => match takes ρ1 as with
  | some (os, ρ2) => if os.length ≤ sizeLine then .ok (.tmp (.lst (os.map fun o => .fz (frz o)))) ρ2 else .bad
  | none => .bad
theorem tLstF_op {Z : Par} {f : M (List Arg)} {σ : St} {H : Hp} {Q : VK} (h : tD Z (xLstF f) σ H Q) : tLst (tDA Z f) σ H Q := by
  obtain ⟨T, P, ρ, fs, rp, q⟩ := h
  refine ⟨T, P, ρ, fs, rp, ?_⟩
  unfold xLstF at q
  cases e1 : f ρ with
  | bad => rw [e1] at q; exact q
  | ex x ρ' => rw [e1] at q; exact q
  | ok as ρ1 =>
    rw [e1] at q
    intro vs H1 fs1 l1 r1 f1
    simp only [R.bind] at q
    cases c1 : takes ρ1 as with
    | none => simp only [c1] at q; exact q.elim
    | some p =>
      obtain ⟨os, ρ2⟩ := p
      simp only [c1] at q
      obtain ⟨fs2, r2, s2, p2⟩ := takes_ok r1.rp r1.ar c1
      by_cases hz : os.length ≤ sizeLine
      · rw [if_pos hz] at q
        refine ⟨by rw [RepOs.length p2]; exact hz, fun p hp => ?_⟩
        have ff : Fr H (Own fs) H1 (Ow l1 fs2) := f1.imp fun x z => z.imp id (s2 x)
        have old : ∀ a o, H1 a = some o → upd H1 p (.lst vs) a = some o := fun a o e => by rw [upd_ne (ne_of_none e hp)]; exact e
        have np : ∀ b ∈ l1, b ≠ p := fun b z y => by
          subst y
          rcases RepOs.own os vs l1 p2 b z with ⟨x, e⟩ | ⟨x, e⟩ | ⟨x, e⟩ | ⟨x, e⟩ <;> (rw [hp] at e; cases e)
        refine Rp.resL (o := .lst (os.map fun o => .fz (frz o))) r2 r1.nt ff q (.ref p) _ [p] old (List.nodup_cons.mpr ⟨List.not_mem_nil, .nil⟩) (fun b z => (List.mem_cons.mp z).elim (fun z => .inl (by rw [z]; exact hp)) (fun z => nomatch z)) fun G' ex nw => ⟨p, vs, [], rfl, rfl, upd_same, ?_⟩
        exact RepOs.frozen ex os vs l1 (fun a ha x e => nw a x (.inr ha) (old a x e) (fun z => np a ha (List.mem_singleton.mp z))) _ p2
      · rw [if_neg hz] at q; exact q.elim
theorem de_lstF {X : Cx} {W : WX} {pos : Pos} {es : List Expr} {fs : M (List Arg)} (h : DA X W es fs) : DE X W (.List es pos) (xLstF fs) := pe_imp (pe_lst h) fun _ _ _ q => tLstF_op (Z := zp X W) q
end Lay
namespace Lay
open PySem PySem.Spec L2
section
variable {X : Cx} {W : WX} {pos p p1 p2 : Pos} {a : Expr} {fa : M Arg} {T : String} {t : Str}
theorem de_isi (hg : Gl X "isinstance") (hm : X.mg "isinstance" = none) (hv : bootBuiltins "isinstance" = some (.builtin "isinstance")) (ha : DE X W a fa) (tg : Gl X t) (tm : X.mg t = none) (tv : bootBuiltins t = some (.type T)) (hn : t ≠ "__name__" := by decide) (hd : (t == ("__debug__" : Str)) = false := by decide)
    (h1 : starEach [a, .Name t p2] X.env = (false, eval a X.env) :: starEach [.Name t p2] X.env := by rfl) (h2 : starEach [.Name t p2] X.env = (false, eval (.Name t p2) X.env) :: starEach [] X.env := by rfl) (hpl : (backTo pos (starEach [.Name t p2] X.env)).any (·.1) = false := by rfl) :
    DE X W (.Call (.Name "isinstance" p) [a, .Name t p2] [] pos) (x1 (opIsi T) fa) :=
  pe_imp (pe_callB call_isi hg hm hv (pa_cons ha (pa_cons (pe_bltn (v := .ty T) tg tm tv rfl hn hd) pa_nil h2) h1) (by decide) (by decide) h1 hpl) fun σ H Q q => by
    exact t1_op (Z := zp X W) ok_isi q
end
def opJoin (x : OT) (os : List OT) : Option OT := match x, os with
  | .fz (.str s), [o] => match (asSq o).bind strsD with
    | some ys => if (ys.map (·.length)).sum + ys.length * s.length ≤ 16777216 then some (.fz (.str (Txt.join s ys))) else none
    | none => none
  | _, _ => none
theorem asSq_ok {K : PySem.W.Frag} {G H : Hp} {o : OT} {v : V} {f : List Addr} {ds : List Dat} (e : Ex G H) (h : RepO K G H o v f) (c : asSq o = some ds) : ∃ a vs, v = .ref a ∧ (SqL K H a vs ∨ SqT K H a vs) ∧ RepDs K G ds vs := by
  unfold asSq at c
  cases c1 : asT o with
  | some xs =>
    rw [c1] at c
    cases c
    obtain ⟨a, vs, h1, h2, h3⟩ := asT_ok e h c1
    exact ⟨a, vs, h1, .inr h2, h3⟩
  | none =>
    rw [c1] at c
    obtain ⟨a, vs, h1, h2, h3⟩ := asL_ok e h c
    exact ⟨a, vs, h1, .inl (.inl (.inl h2)), h3⟩
theorem ok_join {K : PySem.W.Frag} : MethOk K "str" (fun x xs H Q => ∃ a p, ∃ ys : List Str, x = .str a ∧ xs = [.ref p] ∧ (SqL K H p (ys.map V.str) ∨ SqT K H p (ys.map V.str)) ∧
    (ys.map (·.length)).sum + ys.length * a.length ≤ 16777216 ∧ Q (.str (Txt.join a ys)) H) opJoin := fun G H x os v vs f o Q e r1 r2 c q => by
  unfold opJoin at c
  split at c
  · rename_i s o1
    cases c1 : (asSq o1).bind strsD with
    | none => rw [c1] at c; cases c
    | some ys =>
      rw [c1] at c
      simp only at c
      by_cases hz : (ys.map (·.length)).sum + ys.length * s.length ≤ 16777216
      · rw [if_pos hz] at c
        cases c
        obtain ⟨w, g, rfl, rw1⟩ := RepV.one r2
        cases c2 : asSq o1 with
        | none => rw [c2] at c1; cases c1
        | some ds =>
          rw [c2] at c1
          obtain ⟨p, us, rfl, hs, rd⟩ := asSq_ok e rw1 c2
          rw [strs_eq c1] at rd
          rw [RepDs.str rd] at hs
          exact ⟨s, p, ys, r1.2, rfl, hs, hz, q.str⟩
      · rw [if_neg hz] at c; cases c
  · cases c
def xJs : List (M Arg) → Str → M Arg
  | [], acc => fun ρ => .ok (.tmp (.fz (.str acc))) ρ
  | f :: r, acc => fun ρ => (f ρ).bind fun a ρ1 => match look ρ1 a with
    | some (.fz (.str y)) => if acc.length + y.length ≤ sizeLine then xJs r (acc ++ y) ρ1 else .bad
    | _ => .bad
def xFz (f : M Arg) : M Arg := fun ρ => match f ρ with
  | .ok (.tmp (.lst os)) ρ1 => .ok (.tmp (.lst (os.map fun o => .fz (frz o)))) ρ1
  | r => r
theorem xFz_op {Z : Par} {f : M Arg} {σ : St} {H : Hp} {Q : VK} (h : tD Z (xFz f) σ H Q) : tD Z f σ H Q := by
  obtain ⟨T, P, ρ, fs, rp, q⟩ := h
  refine ⟨T, P, ρ, fs, rp, ?_⟩
  unfold xFz at q
  cases e1 : f ρ with
  | bad => rw [e1] at q; exact q
  | ex x ρ' => rw [e1] at q; exact q
  | ok a ρ1 =>
    rw [e1] at q
    cases a with
    | slot i => exact q
    | tmp o =>
      cases o with
      | fz d => exact q
      | dic d => exact q
      | lst os =>
        intro v H1 fs1 l1 r1 f1
        obtain ⟨a, vs, g, rfl, rfl, ha, ro⟩ := (show RepO Z.K _ H1 (.lst os) v l1 from r1.ar)
        have ex : Ex (hide (Hd (Tl T (a :: g)) fs1) H1) (hide (Hd (Tl T [a]) fs1) H1) := hide_ex fun b x n e => ⟨fun z => n (by
          rcases z with (z | z) | z
          · exact .inl (.inl z)
          · exact .inl (.inr (by rw [List.mem_singleton.mp z]; exact List.mem_cons_self))
          · exact .inr z), e⟩
        refine q (.ref a) H1 fs1 [a] ⟨r1.rp.grow (fun _ _ e => e) fun b z => .inl (z.imp id fun z => by rw [List.mem_singleton.mp z]; exact List.mem_cons_self), List.nodup_cons.mpr ⟨List.not_mem_nil, .nil⟩, fun b z => r1.nt b (by rw [List.mem_singleton.mp z]; exact List.mem_cons_self), a, vs, [], rfl, rfl, ha, ?_⟩ (f1.imp fun x z => z.imp (fun z => by rw [List.mem_singleton.mp z]; exact List.mem_cons_self) id)
        refine RepOs.frozen ex os vs g (fun b hb x e => ?_) _ ro
        refine (hide_no ?_).trans e
        rintro ((z | z) | z)
        · exact r1.nt b (List.mem_cons_of_mem _ hb) z
        · rw [List.mem_singleton.mp z] at hb
          exact (List.nodup_cons.mp r1.nd).1 hb
        · exact r1.rp.tf b z (.inr (List.mem_cons_of_mem _ hb))
theorem de_fz {X : Cx} {W : WX} {e : Expr} {f : M Arg} (h : DE X W e f) : DE X W e (xFz f) := pe_imp h fun _ _ _ q => xFz_op (Z := zp X W) q
end Lay
namespace Lay
open PySem PySem.Spec L2
theorem bt_isinstance : bootBuiltins "isinstance" = some (.builtin "isinstance") := by decide +kernel
theorem bt_len : bootBuiltins "len" = some (.builtin "len") := by decide +kernel
theorem bt_all : bootBuiltins "all" = some (.builtin "all") := by decide +kernel
theorem bt_int : bootBuiltins "int" = some (.type "int") := by decide +kernel
theorem bt_bool : bootBuiltins "bool" = some (.type "bool") := by decide +kernel
theorem bt_str : bootBuiltins "str" = some (.type "str") := by decide +kernel
theorem bt_tuple : bootBuiltins "tuple" = some (.type "tuple") := by decide +kernel
theorem bt_list : bootBuiltins "list" = some (.type "list") := by decide +kernel
section
variable {X : Cx} {W : WX} {elt tg iter : Expr} {ifs : List Expr} {scope : Scope} {pos : Pos} {it : IM} {g : TM} {t : M Bool} {e : M Arg} {S : List Nat} {own : List (Str × Nat)}
theorem de_lcV {vs : List Nat} (own : List (Str × Nat)) (hc : X.calm = true) (hN : X.N.Nodup) (ok : BlkOk X.N X.env.scope scope own) (hv : own.map (·.2) = vs) (hS : ∀ j ∈ S, j ∈ vs) (hi : DI X W tg iter it)
    (hg : ∀ (s : Shared) (H : Hp) (C : Addr) (cl : List (Str × Addr)) (fp : List Addr), DG (X.blk s H scope (compEnvC scope cl C X.env) fp) W0 tg S g)
    (ht : ∀ (s : Shared) (H : Hp) (C : Addr) (cl : List (Str × Addr)) (fp : List Addr), PTs (X.blk s H scope (compEnvC scope cl C X.env) fp) ifs (tDT (zp X W0) t))
    (he : ∀ (s : Shared) (H : Hp) (C : Addr) (cl : List (Str × Addr)) (fp : List Addr), DE (X.blk s H scope (compEnvC scope cl C X.env) fp) W0 elt e) (hs : ∀ x, foldedSetIterable iter X.env x = pure x := by intro _; rfl) :
    DE X W (.ListComp elt [⟨tg, iter, ifs, 0⟩] scope pos) (xLc vs it g t e) := by
  subst hv
  exact de_lc hc hN hi ok hS hg ht he hs
theorem ds_setLcF {i : Nat} {y : Str} {py spos : Pos} (hc : X.calm = true) (hN : X.N.Nodup) (hy : X.N[i]? = some y) (hyl : X.env.scope.names.lookup y = some .local)
    (hsw : swapsWith (.ListComp elt [⟨tg, iter, ifs, 0⟩] scope pos) (some (.Name y py)) spos.line X.env = pure true) (hi : DI X W tg iter it) (ok : BlkOk X.N X.env.scope scope own) (hS : ∀ j ∈ S, j ∈ own.map (·.2))
    (hg : ∀ (s : Shared) (H : Hp) (C : Addr) (cl : List (Str × Addr)) (fp : List Addr), DG (X.blk s H scope (compEnvC scope cl C X.env) fp) W0 tg S g)
    (ht : ∀ (s : Shared) (H : Hp) (C : Addr) (cl : List (Str × Addr)) (fp : List Addr), PTs (X.blk s H scope (compEnvC scope cl C X.env) fp) ifs (tDT (zp X W0) t))
    (he : ∀ (s : Shared) (H : Hp) (C : Addr) (cl : List (Str × Addr)) (fp : List Addr), DE (X.blk s H scope (compEnvC scope cl C X.env) fp) W0 elt e) (hs : ∀ x, foldedSetIterable iter X.env x = pure x := by intro _; rfl) :
    DS X W (.Assign [.Name y py] (.ListComp elt [⟨tg, iter, ifs, 0⟩] scope pos) spos) (sAsg (xFz (xLc (own.map (·.2)) it g t e)) (gNm i)) := by
  refine ps_imp (ps_setLc (g := gD (zp X W0) S g) (tt := tDT (zp X W0) t) (te := tD (zp X W0) e) hc hN hy hyl hsw hi ok hg ht he hs) fun D σ H q => ?_
  have q := tAsg_op (Z := zp X W) (S := [i]) q
  have q2 : tD (zp X W) (xFz (xLc (own.map (·.2)) it g t e)) σ H (fun x H1 => gName i x σ H1 D.nx) := by
    obtain ⟨T, P, ρ, fs, r, q⟩ := q
    refine ⟨T, P, ρ, fs, r, ?_⟩
    cases e1 : xFz (xLc (own.map (·.2)) it g t e) ρ with
    | bad => rw [e1] at q; exact q
    | ex x ρ' => rw [e1] at q; exact q
    | ok a ρ1 => rw [e1] at q; exact fun v H1 fs1 l1 r1 f1 => gNm_name (q v H1 fs1 l1 r1 f1)
  exact tLc_op (Z := zp X W) (W0 := W0) hS (xFz_op q2)
theorem ds_setLcV {vs : List Nat} {i : Nat} {y : Str} {py spos : Pos} (own : List (Str × Nat)) (hc : X.calm = true) (hN : X.N.Nodup) (hy : X.N[i]? = some y) (hyl : X.env.scope.names.lookup y = some .local)
    (hsw : swapsWith (.ListComp elt [⟨tg, iter, ifs, 0⟩] scope pos) (some (.Name y py)) spos.line X.env = pure true) (ok : BlkOk X.N X.env.scope scope own) (hv : own.map (·.2) = vs) (hS : ∀ j ∈ S, j ∈ vs) (hi : DI X W tg iter it)
    (hg : ∀ (s : Shared) (H : Hp) (C : Addr) (cl : List (Str × Addr)) (fp : List Addr), DG (X.blk s H scope (compEnvC scope cl C X.env) fp) W0 tg S g)
    (ht : ∀ (s : Shared) (H : Hp) (C : Addr) (cl : List (Str × Addr)) (fp : List Addr), PTs (X.blk s H scope (compEnvC scope cl C X.env) fp) ifs (tDT (zp X W0) t))
    (he : ∀ (s : Shared) (H : Hp) (C : Addr) (cl : List (Str × Addr)) (fp : List Addr), DE (X.blk s H scope (compEnvC scope cl C X.env) fp) W0 elt e) (hs : ∀ x, foldedSetIterable iter X.env x = pure x := by intro _; rfl) :
    DS X W (.Assign [.Name y py] (.ListComp elt [⟨tg, iter, ifs, 0⟩] scope pos) spos) (sAsg (xFz (xLc vs it g t e)) (gNm i)) := by
  subst hv
  exact ds_setLcF hc hN hy hyl hsw hi ok hS hg ht he hs
end
section
variable {P : Program} {w : World} {K : PySem.W.Frag} {mg : Str → Option Value} {base : Heap} {x : Str} {f : Addr} {fd : FuncData}
theorem FnD.none {st : Stmt} {N ps : List Str} {k n : Nat} {io : Option Nat} (F : Fun K x x st f fd) (S : FnScope N ps (defScope st)) (mf : mg x = some (.ref f)) (b : Binds K fd ps []) (hl : ps.length = n) : FnD P w K mg base x k io n (fun _ => .bad) := by
  have no : ∀ vs H Q E, ¬ spF K mg io n (fun _ => .bad) vs H Q E := fun vs H Q E h => by
    obtain ⟨_, _, _, _, _, _, _, _, z⟩ := h
    exact z
  exact ⟨f, fd, ps, ⟨fun vs H Q E h => absurd h (no vs H Q E), fun A outer s H args us vs Q E _ _ _ _ h => absurd h (no vs H Q E)⟩, mf, F.kp, b, hl⟩
theorem FnD.mono {j k n : Nat} {io : Option Nat} {F : FD} (h : j ≤ k) (d : FnD P w K mg base x j io n F) : FnD P w K mg base x k io n F := by
  obtain ⟨f, fd, ps, a, b⟩ := d.ex
  exact ⟨f, fd, ps, a.mono h, b⟩
end
end Lay
namespace Lay
open PySem PySem.Spec L2
/-- for every script the run function answers True -/
def LawOk (F : FD) : Prop := ∀ ns : List Int, ns.length ≤ 63 → (∀ z ∈ ns, Builtin.Int.intBits z ≤ 1048576) → ∃ out, F [.fz (.kst ns)] = .ok (.fz (.bl true)) out
def spL (K : PySem.W.Frag) : Sp := fun vs H Q E => ∃ (a : Addr) (ns : List Int), vs = [.ref a] ∧ SqL K H a (ns.map V.int) ∧ ns.length ≤ 63 ∧ (∀ z ∈ ns, Builtin.Int.intBits z ≤ 1048576) ∧ ∀ H', Q (.bl true) H'
theorem hide_F {H : Hp} {fs : Nat → List Addr} (h : ∀ i, fs i = []) : hide (Hd (fun _ => False) fs) H = H := by
  funext a
  refine hide_no ?_
  rintro (z | ⟨i, z⟩)
  · exact z
  · rw [h i] at z; cases z
theorem fn_lawL {P : Program} {w : World} {K : PySem.W.Frag} {mg : Str → Option Value} {base : Heap} {k : Nat} {f : Addr} {fd : FuncData} {F : FD} {x : Str} (hF : LawOk F) (h : FnOk P w K mg base (L2.CX P w) k f fd [x] (spF K mg none 1 F)) :
    FnOk P w K mg base (L2.CX P w) k f fd [x] (spL K) := h.imp fun vs H Q E q => by
  obtain ⟨a, ns, rfl, hS, h63, hb, q⟩ := q
  obtain ⟨out, hF⟩ := hF ns h63 hb
  refine ⟨fun _ => False, fun _ => none, fun _ => [], [.fz (.kst ns)], rfl, rfl, fun i => by simp, ?_, ?_⟩
  · refine ⟨fun i s e => ?_, fun _ _ => rfl, fun _ => .nil, (fun i j a z => nomatch z), (fun a z => by obtain ⟨i, z⟩ := z; cases z), (fun a z => z.elim), fun i p e => nomatch e⟩
    rw [hide_F (fun _ => rfl)]
    cases i with
    | zero =>
      have e : some (Sl.vl (.fz (.kst ns))) = some s := e
      cases e
      exact ⟨_, rfl, .ref a, rfl, rfl, rfl, a, rfl, hS⟩
    | succ i =>
      have e : ([] : Env)[i]? = some s := e
      simp at e
  · rw [hF]
    intro v H' fs' l r fr
    cases (show v = .bl true from r.ar.2)
    exact q H'
theorem law_walk {l : PySem.W.OpenLaw} {k : Nat} {q : Program} {loose : List Str} {XP : (Str → Option Value) → Heap → Prop} {YP : World → Heap → Prop} {d : DefRec} {K : Params → PySem.W.Frag} {F : FD} (hF : LawOk F)
    (hn : l.most = some 63) (hdf : d.params.defaults = []) (hr : Room k callerA)
    (hY : ∀ (w : World) (h : Heap), YP w h → (K w.params).In h)
    (G : ∀ (w : World) (mg : Str → Option Value) (fa : Addr) (h : Heap), (K w.params).In h → h.Ns mainGlobals mg → mg d.name = some (.ref fa) →
      ∃ fd : FuncData, (∀ (s : Shared) (u : Value), BindsTo s fd ⟨[u], []⟩ [("script", u)]) ∧
        ∀ base : Heap, (K w.params).In base → base.Ns mainGlobals mg → FnOk l.prog w (K w.params) mg base (L2.CX l.prog w) k fa fd ["script"] (spF (K w.params) mg none 1 F)) :
    PySem.W.WalkO q loose XP YP l.row.toRowW d [] (fun f vs => PySem.call f vs) :=
  walk_ofB (n := 63) (k := k) (x := "script") (CX := fun w => L2.CX l.prog w) (sp := fun w => spL (K w.params)) hn (by decide) hdf hr hY
    (fun w mg fa h h1 h2 h3 => by
      obtain ⟨fd, b, g⟩ := G w mg fa h h1 h2 h3
      exact ⟨fd, b, fun base k1 k2 => fn_lawL hF (g base k1 k2)⟩)
    (fun w H a ns hl hb hO hS => ⟨a, ns, rfl, hS, hl, hb, fun _ => rfl⟩)
    fun w H s e s' h => by
      obtain ⟨_, _, _, _, _, _, _, _, _, _, _, _, z⟩ := h
      exact z
end Lay
namespace Lay
open PySem PySem.Spec L2
@[irreducible] def Wp {α : Type} (f : M α) (ρ : Env) (Q : α → Env → Prop) (E : Exn → Env → Prop) : Prop := match f ρ with
  | .ok a ρ' => Q a ρ'
  | .ex x ρ' => E x ρ'
  | .bad => False
structure En where
  nx : Env → Prop
  bk : Env → Prop := fun _ => False
  ct : Env → Prop := fun _ => False
  rt : OT → Env → Prop
  ex : Exn → Env → Prop := fun _ _ => False
@[irreducible] def Ws (g : SM) (ρ : Env) (D : En) : Prop := match g ρ with
  | .nx ρ' => D.nx ρ'
  | .bk ρ' => D.bk ρ'
  | .ct ρ' => D.ct ρ'
  | .rt o ρ' => D.rt o ρ'
  | .ex x ρ' => D.ex x ρ'
  | .bad => False
@[irreducible] def Wf (F : FD) (os : List OT) (Q : OT → OT → Prop) (E : Exn → OT → Prop) : Prop := match F os with
  | .ok r out => Q r out
  | .ex x out => E x out
  | .bad => False
@[irreducible] def Wo {α : Type} (o : Option α) (k : α → Prop) : Prop := match o with
  | some x => k x
  | none => False
/-- both ways of a test -/
@[irreducible] def Br (b : Bool) (A B : Prop) : Prop := if b then A else B
theorem wo {α : Type} {o : Option α} {x : α} {k : α → Prop} (h : o = some x) (q : k x) : Wo o k := by
  with_unfolding_all
    subst h; exact q
theorem br_true {A B : Prop} (h : A) : Br true A B := by
  with_unfolding_all
    exact (h)
theorem br_false {A B : Prop} (h : B) : Br false A B := by
  with_unfolding_all
    exact (h)
theorem br_dec {p : Prop} [Decidable p] {A B : Prop} (h1 : p → A) (h2 : ¬ p → B) : Br (decide p) A B := by
  with_unfolding_all
    unfold Br
    by_cases h : p
    · rw [if_pos (decide_eq_true h)]; exact h1 h
    · rw [if_neg (by simp [h])]; exact h2 h
theorem br_not {b : Bool} {A B : Prop} (h : Br b B A) : Br (!b) A B := by
  with_unfolding_all
    cases b <;> exact h
theorem br {b : Bool} {A B : Prop} (h1 : b = true → A) (h2 : b = false → B) : Br b A B := by
  with_unfolding_all
    cases b
    · exact h2 rfl
    · exact h1 rfl
section
variable {α β : Type} {ρ : Env} {E : Exn → Env → Prop}
theorem Wp.bind {f : M α} {k : α → Env → R β} {Q : β → Env → Prop} (h : Wp f ρ (fun a ρ1 => Wp (k a) ρ1 Q E) E) : Wp (fun ρ => (f ρ).bind k) ρ Q E := by
  with_unfolding_all
    unfold Wp at *
    cases e : f ρ with
    | bad => rw [e] at h; exact h.elim
    | ex x ρ' => simp only [e, R.bind] at h ⊢; exact h
    | ok a ρ1 => simp only [e, R.bind] at h ⊢; exact h
theorem Wp.mono {f : M α} {Q Q' : α → Env → Prop} {E' : Exn → Env → Prop} (h : Wp f ρ Q E) (hq : ∀ a ρ', Q a ρ' → Q' a ρ') (he : ∀ x ρ', E x ρ' → E' x ρ') : Wp f ρ Q' E' := by
  with_unfolding_all
    unfold Wp at *
    cases e : f ρ with
    | bad => rw [e] at h; exact h.elim
    | ex x ρ' => rw [e] at h; exact he _ _ h
    | ok a ρ1 => rw [e] at h; exact hq _ _ h
theorem w_var {i : Nat} {Q : Arg → Env → Prop} {o : OT} (h : slv ρ[i]? = some o) (q : Q (.slot i) ρ) : Wp (xVar i) ρ Q E := by
  with_unfolding_all
    unfold Wp xVar; rw [h]; exact q
theorem w_D {d : Dat} {Q : Arg → Env → Prop} (q : Q (.tmp (.fz d)) ρ) : Wp (xD d) ρ Q E := by
  with_unfolding_all
    exact (q)
theorem w_x2 {op : OT → OT → Option OT} {f g : M Arg} {Q : Arg → Env → Prop} (h : Wp f ρ (fun a ρ1 => Wp g ρ1 (fun b ρ2 => Wo (look ρ2 a) fun x => Wo (look ρ2 b) fun y => Wo (op x y) fun o => Q (.tmp o) ρ2) E) E) : Wp (x2 op f g) ρ Q E := by
  with_unfolding_all
    refine Wp.bind (Wp.mono h (fun a ρ1 h => Wp.bind (Wp.mono h (fun b ρ2 h => ?_) fun _ _ z => z)) fun _ _ z => z)
    unfold Wp
    cases e1 : look ρ2 a with
    | none => rw [e1] at h; exact h.elim
    | some x => cases e2 : look ρ2 b with
      | none => rw [e1, e2] at h; exact h.elim
      | some y => cases e3 : op x y with
        | none => simp only [Wo, e1, e2, e3] at h
        | some o => simp only [Wo, e1, e2, e3] at h ⊢; exact h
theorem w_x1 {op : OT → Option OT} {f : M Arg} {Q : Arg → Env → Prop} (h : Wp f ρ (fun a ρ1 => Wo (look ρ1 a) fun x => Wo (op x) fun o => Q (.tmp o) ρ1) E) : Wp (x1 op f) ρ Q E := by
  with_unfolding_all
    refine Wp.bind (Wp.mono h (fun a ρ1 h => ?_) fun _ _ z => z)
    unfold Wp
    cases e1 : look ρ1 a with
    | none => rw [e1] at h; exact h.elim
    | some x => cases e3 : op x with
        | none => simp only [Wo, e1, e3] at h
        | some o => simp only [Wo, e1, e3] at h ⊢; exact h
theorem w_notV {f : M Arg} {Q : Arg → Env → Prop} (h : Wp f ρ (fun a ρ1 => Wo (look ρ1 a) fun x => Wo (truO x) fun b => Q (.tmp (.fz (.bl (!b)))) ρ1) E) : Wp (xNotV f) ρ Q E := by
  with_unfolding_all
    refine w_x1 (Wp.mono h (fun a ρ1 h => ?_) fun _ _ z => z)
    cases e1 : look ρ1 a with
    | none => rw [e1] at h; exact h.elim
    | some x => cases e3 : truO x with
        | none => simp only [Wo, e1, e3] at h
        | some o => simp only [Wo, e1, e3, Option.map] at h ⊢; exact h
theorem w_Nil {Q : List Arg → Env → Prop} (q : Q [] ρ) : Wp xNil ρ Q E := by
  with_unfolding_all
    exact (q)
theorem w_Cons {f : M Arg} {g : M (List Arg)} {Q : List Arg → Env → Prop} (h : Wp f ρ (fun a ρ1 => Wp g ρ1 (fun r ρ2 => Q (a :: r) ρ2) E) E) : Wp (xCons f g) ρ Q E := by
  with_unfolding_all
    exact (Wp.bind (Wp.mono h (fun a ρ1 h => Wp.bind (Wp.mono h (fun b ρ2 h => h) fun _ _ z => z)) fun _ _ z => z))
theorem w_N {op : List OT → Option OT} {f : M (List Arg)} {Q : Arg → Env → Prop} (h : Wp f ρ (fun as ρ1 => Wo (looks ρ1 as) fun xs => Wo (op xs) fun o => Q (.tmp o) ρ1) E) : Wp (xN op f) ρ Q E := by
  with_unfolding_all
    refine Wp.bind (Wp.mono h (fun a ρ1 h => ?_) fun _ _ z => z)
    unfold Wp
    cases e1 : looks ρ1 a with
    | none => rw [e1] at h; exact h.elim
    | some x => cases e3 : op x with
        | none => simp only [Wo, e1, e3] at h
        | some o => simp only [Wo, e1, e3] at h ⊢; exact h
theorem w_M {op : OT → List OT → Option OT} {f : M Arg} {g : M (List Arg)} {Q : Arg → Env → Prop} (h : Wp f ρ (fun a ρ1 => Wp g ρ1 (fun as ρ2 => Wo (look ρ2 a) fun x => Wo (looks ρ2 as) fun xs => Wo (op x xs) fun o => Q (.tmp o) ρ2) E) E) : Wp (xM op f g) ρ Q E := by
  with_unfolding_all
    refine Wp.bind (Wp.mono h (fun a ρ1 h => Wp.bind (Wp.mono h (fun b ρ2 h => ?_) fun _ _ z => z)) fun _ _ z => z)
    unfold Wp
    cases e1 : look ρ2 a with
    | none => rw [e1] at h; exact h.elim
    | some x => cases e2 : looks ρ2 b with
      | none => rw [e1, e2] at h; exact h.elim
      | some y => cases e3 : op x y with
        | none => simp only [Wo, e1, e2, e3] at h
        | some o => simp only [Wo, e1, e2, e3] at h ⊢; exact h
theorem w_Ty {T : String} {f : M Arg} {Q : Arg → Env → Prop} (h : Wp f ρ (fun a ρ1 => Wo (look ρ1 a) fun x => tyO T x = true ∧ Q a ρ1) E) : Wp (xTy T f) ρ Q E := by
  with_unfolding_all
    refine Wp.bind (Wp.mono h (fun a ρ1 h => ?_) fun _ _ z => z)
    unfold Wp
    cases e1 : look ρ1 a with
    | none => rw [e1] at h; exact h.elim
    | some x =>
      simp only [Wo, e1] at h ⊢
      rw [if_pos h.1]; exact h.2
theorem w_Tup {f : M (List Arg)} {Q : Arg → Env → Prop} (h : Wp f ρ (fun as ρ1 => Wo (takes ρ1 as) fun p => p.1.length ≤ sizeLine ∧ Q (.tmp (.fz (.tup (frzs p.1)))) p.2) E) : Wp (xTup f) ρ Q E := by
  with_unfolding_all
    refine Wp.bind (Wp.mono h (fun a ρ1 h => ?_) fun _ _ z => z)
    unfold Wp
    cases e1 : takes ρ1 a with
    | none => rw [e1] at h; exact h.elim
    | some p =>
      simp only [Wo, e1] at h ⊢
      rw [if_pos h.1]; exact h.2
theorem w_LstF {f : M (List Arg)} {Q : Arg → Env → Prop} (h : Wp f ρ (fun as ρ1 => Wo (takes ρ1 as) fun p => p.1.length ≤ sizeLine ∧ Q (.tmp (.lst (p.1.map fun o => .fz (frz o)))) p.2) E) : Wp (xLstF f) ρ Q E := by
  with_unfolding_all
    refine Wp.bind (Wp.mono h (fun a ρ1 h => ?_) fun _ _ z => z)
    unfold Wp
    cases e1 : takes ρ1 a with
    | none => rw [e1] at h; exact h.elim
    | some p =>
      simp only [Wo, e1] at h ⊢
      rw [if_pos h.1]; exact h.2
def fzI : Arg → Arg
  | .tmp (.lst os) => .tmp (.lst (os.map fun o => .fz (frz o)))
  | a => a
theorem w_Fz {f : M Arg} {Q : Arg → Env → Prop} (h : Wp f ρ (fun a ρ1 => Q (fzI a) ρ1) E) : Wp (xFz f) ρ Q E := by
  with_unfolding_all
    unfold Wp xFz at *
    cases e : f ρ with
    | bad => rw [e] at h; exact h.elim
    | ex x ρ' => rw [e] at h; exact h
    | ok a ρ1 =>
      rw [e] at h
      cases a with
      | slot i => exact h
      | tmp o => cases o <;> exact h
def asB : OT → Option Bool
  | .fz (.bl b) => some b
  | _ => none
theorem w_T {f : M Arg} {Q : Bool → Env → Prop} (h : Wp f ρ (fun a ρ1 => Wo (look ρ1 a) fun x => Wo (asB x) fun b => Q b ρ1) E) : Wp (xT f) ρ Q E := by
  with_unfolding_all
    refine Wp.bind (Wp.mono h (fun a ρ1 h => ?_) fun _ _ z => z)
    unfold Wp
    cases e1 : look ρ1 a with
    | none => rw [e1] at h; exact h.elim
    | some o =>
      simp only [Wo, e1] at h ⊢
      cases o with
      | fz d => cases d <;> first | exact h | exact h.elim
      | _ => exact h.elim
theorem w_Tru {f : M Arg} {Q : Bool → Env → Prop} (h : Wp f ρ (fun a ρ1 => Wo (look ρ1 a) fun x => Wo (truO x) fun b => Q b ρ1) E) : Wp (xTru f) ρ Q E := by
  with_unfolding_all
    refine Wp.bind (Wp.mono h (fun a ρ1 h => ?_) fun _ _ z => z)
    unfold Wp
    cases e1 : look ρ1 a with
    | none => rw [e1] at h; exact h.elim
    | some x => cases e3 : truO x with
        | none => simp only [Wo, e1, e3] at h
        | some o => simp only [Wo, e1, e3, Option.bind] at h ⊢; exact h
theorem w_And {f g : M Bool} {Q : Bool → Env → Prop} (h : Wp f ρ (fun b ρ1 => Br b (Wp g ρ1 Q E) (Q false ρ1)) E) : Wp (xAnd f g) ρ Q E := by
  with_unfolding_all
    exact (Wp.bind (Wp.mono h (fun b ρ1 h => by cases b <;> exact h) fun _ _ z => z))
theorem w_Or {f g : M Bool} {Q : Bool → Env → Prop} (h : Wp f ρ (fun b ρ1 => Br b (Q true ρ1) (Wp g ρ1 Q E)) E) : Wp (xOr f g) ρ Q E := by
  with_unfolding_all
    exact (Wp.bind (Wp.mono h (fun b ρ1 h => by cases b <;> exact h) fun _ _ z => z))
theorem w_Not {f : M Bool} {Q : Bool → Env → Prop} (h : Wp f ρ (fun b ρ1 => Q (!b) ρ1) E) : Wp (xNot f) ρ Q E := by
  with_unfolding_all
    exact (Wp.bind (Wp.mono h (fun b ρ1 h => h) fun _ _ z => z))
theorem w_If {t : M Bool} {f g : M α} {Q : α → Env → Prop} (h : Wp t ρ (fun b ρ1 => Br b (Wp f ρ1 Q E) (Wp g ρ1 Q E)) E) : Wp (xIf t f g) ρ Q E := by
  with_unfolding_all
    exact (Wp.bind (Wp.mono h (fun b ρ1 h => by cases b <;> exact h) fun _ _ z => z))
theorem w_OrV {f g : M Arg} {Q : Arg → Env → Prop} (h : Wp f ρ (fun a ρ1 => Wo (look ρ1 a) fun x => Wo (truO x) fun b => Br b (Q a ρ1) (Wp g ρ1 Q E)) E) : Wp (xOrV f g) ρ Q E := by
  with_unfolding_all
    refine Wp.bind (Wp.mono h (fun a ρ1 h => ?_) fun _ _ z => z)
    unfold Wp
    cases e1 : look ρ1 a with
    | none => rw [e1] at h; exact h.elim
    | some x => cases e3 : truO x with
        | none => simp only [Wo, e1, e3] at h
        | some b => cases b <;> (simp only [Wo, e1, e3, Option.bind] at h ⊢; exact h)
theorem w_AndV {f g : M Arg} {Q : Arg → Env → Prop} (h : Wp f ρ (fun a ρ1 => Wo (look ρ1 a) fun x => Wo (truO x) fun b => Br b (Wp g ρ1 Q E) (Q a ρ1)) E) : Wp (xAndV f g) ρ Q E := by
  with_unfolding_all
    refine Wp.bind (Wp.mono h (fun a ρ1 h => ?_) fun _ _ z => z)
    unfold Wp
    cases e1 : look ρ1 a with
    | none => rw [e1] at h; exact h.elim
    | some x => cases e3 : truO x with
        | none => simp only [Wo, e1, e3] at h
        | some b => cases b <;> (simp only [Wo, e1, e3, Option.bind] at h ⊢; exact h)
theorem w_Js_nil {acc : Str} {Q : Arg → Env → Prop} (q : Q (.tmp (.fz (.str acc))) ρ) : Wp (xJs [] acc) ρ Q E := by
  with_unfolding_all
    exact (q)
theorem w_Js_cons {f : M Arg} {r : List (M Arg)} {acc : Str} {Q : Arg → Env → Prop} (h : Wp f ρ (fun a ρ1 => Wo (look ρ1 a) fun x => Wo (asS x) fun y => acc.length + y.length ≤ sizeLine ∧ Wp (xJs r (acc ++ y)) ρ1 Q E) E) : Wp (xJs (f :: r) acc) ρ Q E := by
  with_unfolding_all
    have e : xJs (f :: r) acc = fun ρ => (f ρ).bind fun a ρ1 => match look ρ1 a with
      | some (.fz (.str y)) => if acc.length + y.length ≤ sizeLine then xJs r (acc ++ y) ρ1 else .bad
      | _ => .bad := rfl
    rw [e]
    refine Wp.bind (Wp.mono h (fun a ρ1 h => ?_) fun _ _ z => z)
    unfold Wp
    cases e1 : look ρ1 a with
    | none => rw [e1] at h; exact h.elim
    | some o =>
      simp only [Wo, e1] at h ⊢
      cases o with
      | fz d =>
        cases d with
        | str y =>
          obtain ⟨h1, h2⟩ := (show acc.length + y.length ≤ sizeLine ∧ Wp (xJs r (acc ++ y)) ρ1 Q E from h)
          simp only
          rw [if_pos h1]
          exact h2
        | _ => exact h.elim
      | _ => exact h.elim
/-- a call -/
def backW (ρ : Env) (io : Option Nat) (as : List Arg) (r out : OT) : Option Env := backA ρ io as (solidO r && solidO out) out
theorem w_Call {n : Nat} {io : Option Nat} {F : FD} {fa : M (List Arg)} {Q : Arg → Env → Prop} (h : Wp fa ρ (fun as ρ1 => (as.length = n ∧ okIo ρ1 io as = true) ∧ Wo (passFrom ρ1 io 0 as) fun os =>
    Wf F os (fun r out => Wo (backW ρ1 io as r out) fun ρ2 => Q (.tmp r) ρ2) fun x out => Wo (backA ρ1 io as false out) fun ρ2 => E x ρ2) E) : Wp (xCallN n io F fa) ρ Q E := by
  with_unfolding_all
    refine Wp.bind (Wp.mono h (fun as ρ1 h => ?_) fun _ _ z => z)
    unfold Wp
    simp only [if_pos h.1]
    have h := h.2
    cases e1 : passFrom ρ1 io 0 as with
    | none => rw [e1] at h; exact h.elim
    | some os =>
      simp only [Wo, e1, Wf, backW] at h ⊢
      cases e2 : F os with
      | bad => rw [e2] at h; exact h
      | ok r out =>
        simp only [Wo, e2] at h ⊢
        cases e3 : backA ρ1 io as (solidO r && solidO out) out with
        | none => rw [e3] at h; exact h
        | some ρ2 => rw [e3] at h; exact h
      | ex x out =>
        simp only [Wo, e2] at h ⊢
        cases e3 : backA ρ1 io as false out with
        | none => rw [e3] at h; exact h
        | some ρ2 => rw [e3] at h; exact h
theorem w_Mut {T : String} {i : Nat} {op : OT → List OT → Option (OT × OT)} {g : M (List Arg)} {Q : Arg → Env → Prop} (h : Wo (slv ρ[i]?) fun x0 => tyO T x0 = true ∧ Wp g ρ (fun as ρ1 => Wo (takes ρ1 as) fun p => Wo (slv p.2[i]?) fun x => Wo (op x p.1) fun y => Wo (putS p.2 i y.1) fun ρ3 => Q (.tmp y.2) ρ3) E) : Wp (xMut T i op g) ρ Q E := by
  with_unfolding_all
    unfold xMut
    cases e0 : slv ρ[i]? with
    | none => rw [e0] at h; exact h.elim
    | some x0 =>
      rw [e0] at h
      obtain ⟨h1, h⟩ := (show tyO T x0 = true ∧ _ from h)
      have key : Wp (fun ρ => (g ρ).bind fun as ρ1 => match takes ρ1 as with
        | none => R.bad
        | some (os, ρ2) => match slv ρ2[i]? with
          | none => .bad
          | some x => match op x os with
            | none => .bad
            | some (x', o') => match putS ρ2 i x' with
              | none => .bad
              | some ρ3 => .ok (Arg.tmp o') ρ3) ρ Q E := by
        refine Wp.bind (Wp.mono h (fun as ρ1 h => ?_) fun _ _ z => z)
        unfold Wp
        cases e1 : takes ρ1 as with
        | none => rw [e1] at h; exact h.elim
        | some p =>
          obtain ⟨os, ρ2⟩ := p
          simp only [Wo, e1] at h ⊢
          cases e2 : slv ρ2[i]? with
          | none => rw [e2] at h; exact h.elim
          | some x =>
            simp only [Wo, e2] at h ⊢
            cases e3 : op x os with
            | none => rw [e3] at h; exact h.elim
            | some y =>
              obtain ⟨x', o'⟩ := y
              simp only [Wo, e3] at h ⊢
              cases e4 : putS ρ2 i x' with
              | none => rw [e4] at h; exact h.elim
              | some ρ3 => simp only [Wo, e4] at h ⊢; exact h
      unfold Wp at key ⊢
      simp only [e0]
      rw [if_pos h1]
      exact key
theorem w_Yes {Q : Bool → Env → Prop} (q : Q true ρ) : Wp xYes ρ Q E := by
  with_unfolding_all
    exact (q)
theorem w_gNm {i : Nat} {o : OT} {Q : Unit → Env → Prop} (h : (match ρ[i]? with | some .un => true | some (.vl _) => true | _ => false) = true) (q : Q () (ρ.set i (.vl o))) : Wp (gNm i o) ρ Q E := by
  with_unfolding_all
    unfold Wp gNm
    cases e : ρ[i]? with
    | none => rw [e] at h; cases h
    | some s => cases s <;> rw [e] at h <;> first | exact q | cases h
theorem w_gIx {i : Nat} {fk : M Arg} {op : OT → List OT → Option (OT × OT)} {o : OT} {Q : Unit → Env → Prop} (h : Wo (slv ρ[i]?) fun _ => Wp fk ρ (fun a ρ1 => Wo (look ρ1 a) fun k => Wo (slv ρ1[i]?) fun x => ∃ d, k = .fz d ∧ Wo (op x [.fz d, o]) fun y => Wo (putS ρ1 i y.1) fun ρ2 => Q () ρ2) E) : Wp (gIx i fk op o) ρ Q E := by
  with_unfolding_all
    unfold gIx
    cases e0 : slv ρ[i]? with
    | none => rw [e0] at h; exact h.elim
    | some x0 =>
      rw [e0] at h
      have h : Wp fk ρ _ E := h
      have key : Wp (fun ρ => (fk ρ).bind fun a ρ1 => match look ρ1 a with
        | some (.fz k) => match slv ρ1[i]? with
          | none => R.bad
          | some x => match op x [.fz k, o] with
            | none => .bad
            | some (x', _) => match putS ρ1 i x' with
              | none => .bad
              | some ρ2 => .ok () ρ2
        | _ => .bad) ρ Q E := by
        refine Wp.bind (Wp.mono h (fun a ρ1 h => ?_) fun _ _ z => z)
        unfold Wp
        cases e1 : look ρ1 a with
        | none => rw [e1] at h; exact h.elim
        | some k =>
          simp only [Wo, e1] at h ⊢
          cases e2 : slv ρ1[i]? with
          | none => rw [e2] at h; exact h.elim
          | some x =>
            simp only [Wo, e2] at h ⊢
            obtain ⟨d, rfl, h⟩ := h
            simp only
            cases e3 : op x [.fz d, o] with
            | none => rw [e3] at h; exact h.elim
            | some y =>
              obtain ⟨x', o'⟩ := y
              simp only [Wo, e3] at h ⊢
              cases e4 : putS ρ1 i x' with
              | none => rw [e4] at h; exact h.elim
              | some ρ2 => simp only [Wo, e4] at h ⊢; exact h
      unfold Wp at key ⊢
      simp only [e0]
      exact key
theorem w_gS_nil {Q : Unit → Env → Prop} (q : Q () ρ) : Wp (gSeq [] []) ρ Q E := by
  with_unfolding_all
    exact (q)
theorem w_gS_cons {g : TM} {gs : List TM} {o : OT} {os : List OT} {Q : Unit → Env → Prop} (h : Wp (g o) ρ (fun _ ρ1 => Wp (gSeq gs os) ρ1 Q E) E) : Wp (gSeq (g :: gs) (o :: os)) ρ Q E := by
  with_unfolding_all
    exact (Wp.bind (f := g o) (k := fun _ ρ1 => gSeq gs os ρ1) h)
theorem w_gTu {gs : List TM} {ds : List Dat} {Q : Unit → Env → Prop} (hl : ds.length = gs.length) (h : Wp (gSeq gs (ds.map .fz)) ρ Q E) : Wp (gTu gs (.fz (.tup ds))) ρ Q E := by
  with_unfolding_all
    unfold Wp gTu
    simp only
    rw [if_pos hl]
    exact h
theorem w_Sq {f : M Arg} {Q : List Dat × List Nat → Env → Prop} (h : Wp f ρ (fun a ρ1 => Wo (itemsOf ρ1 a) fun p => Q (p.1, p.2.1) p.2.2) E) : Wp (iSeq f) ρ Q E := by
  with_unfolding_all
    exact (Wp.bind (Wp.mono h (fun a ρ1 h => by
        unfold Wp
        cases e : itemsOf ρ1 a with
        | none => rw [e] at h; exact h.elim
        | some p => simp only [e, Wo] at h ⊢; exact h) fun _ _ z => z))
def as1I : List OT → Option Int
  | [.fz (.int i)] => some i
  | _ => none
def as2I : List OT → Option (Int × Int)
  | [.fz (.int i), .fz (.int j)] => some (i, j)
  | _ => none
/-- a range's end that is small enough -/
def RgOk (j : Int) : Prop := -4611686018427387904 ≤ j ∧ j < 4611686018427387904
theorem RgOk.ok {j : Int} (h : RgOk j) : rngOk j = true := by
  obtain ⟨h1, h2⟩ := h
  unfold rngOk
  rw [decide_eq_true (show -(2 ^ 62) ≤ j by omega), decide_eq_true (show j < 2 ^ 62 by omega)]; rfl
theorem w_Rg1 {f : M (List Arg)} {Q : List Dat × List Nat → Env → Prop} (h : Wp f ρ (fun as ρ1 => Wo (looks ρ1 as) fun xs => Wo (as1I xs) fun j => RgOk j ∧ Q (rngL 0 j.toNat, []) ρ1) E) : Wp (iRg1 f) ρ Q E := by
  with_unfolding_all
    exact (Wp.bind (Wp.mono h (fun as ρ1 h => by
        unfold Wp
        cases e : looks ρ1 as with
        | none => rw [e] at h; exact h.elim
        | some xs =>
          simp only [e, Wo] at h ⊢
          cases hi : as1I xs with
          | none => rw [hi] at h; exact h.elim
          | some i =>
            rw [hi] at h
            have h : RgOk i ∧ Q (rngL 0 i.toNat, []) ρ1 := h
            unfold as1I at hi
            split at hi
            · cases hi; simp only [if_pos h.1.ok]; exact h.2
            · cases hi) fun _ _ z => z))
theorem w_Rg2 {f : M (List Arg)} {Q : List Dat × List Nat → Env → Prop} (h : Wp f ρ (fun as ρ1 => Wo (looks ρ1 as) fun xs => Wo (as2I xs) fun p => (RgOk p.1 ∧ RgOk p.2) ∧ Q (rngL p.1 (p.2 - p.1).toNat, []) ρ1) E) : Wp (iRg2 f) ρ Q E := by
  with_unfolding_all
    exact (Wp.bind (Wp.mono h (fun as ρ1 h => by
        unfold Wp
        cases e : looks ρ1 as with
        | none => rw [e] at h; exact h.elim
        | some xs =>
          simp only [e, Wo] at h ⊢
          cases hi : as2I xs with
          | none => rw [hi] at h; exact h.elim
          | some p =>
            rw [hi] at h
            have h : (RgOk p.1 ∧ RgOk p.2) ∧ Q (rngL p.1 (p.2 - p.1).toNat, []) ρ1 := h
            unfold as2I at hi
            split at hi
            · cases hi; simp only [h.1.1.ok, h.1.2.ok, Bool.and_self, if_true]; exact h.2
            · cases hi) fun _ _ z => z))
def noX : Exn → Env → Prop := fun _ _ => False
theorem lcL_w {own : List Nat} {g : TM} {t : M Bool} {e : M Arg} (I : Nat → List OT → Env → Prop) {ds0 : List Dat} (step : ∀ k d os ρ, ds0[k]? = some d → I k os ρ → Wp (g (.fz d)) ρ (fun _ ρ1 => Wp t ρ1 (fun b ρ2 => Br b
    (Wp e ρ2 (fun a ρ3 => Wo (take1 ρ3 a) fun p => I (k + 1) (os ++ [p.1]) (wipeE own p.2)) noX) (I (k + 1) os (wipeE own ρ2))) noX) noX) :
    ∀ (ds : List Dat) (k : Nat) (os : List OT) (ρ : Env), ds = ds0.drop k → I k os ρ → ∃ os' ρ', lcL own g t e ds ρ = .ok os' ρ' ∧ I (k + ds.length) (os ++ os') ρ'
  | [], k, os, ρ, _, hI => ⟨[], ρ, rfl, by simpa using hI⟩
  | d :: r, k, os, ρ, hd, hI => by
    with_unfolding_all
      have hk : ds0[k]? = some d := by
        have := congrArg (fun l => l[0]?) hd
        simpa using this.symm
      have hr : r = ds0.drop (k + 1) := by
        have := congrArg List.tail hd
        simpa using this
      have st := step k d os ρ hk hI
      unfold Wp at st
      unfold lcL
      cases e1 : g (.fz d) ρ with
      | bad => rw [e1] at st; exact st.elim
      | ex x ρ' => rw [e1] at st; exact st.elim
      | ok u ρ1 =>
        simp only [e1] at st ⊢
        cases e2 : t ρ1 with
        | bad => rw [e2] at st; exact st.elim
        | ex x ρ' => rw [e2] at st; exact st.elim
        | ok b ρ2 =>
          simp only [e2] at st ⊢
          cases b with
          | false =>
            have st : I (k + 1) os (wipeE own ρ2) := st
            obtain ⟨os', ρ', h1, h2⟩ := lcL_w I step r (k + 1) os _ hr st
            refine ⟨os', ρ', h1, ?_⟩
            rw [List.length_cons, show k + (r.length + 1) = k + 1 + r.length by omega]
            exact h2
          | true =>
            replace st : Wp e ρ2 (fun a ρ3 => Wo (take1 ρ3 a) fun p => I (k + 1) (os ++ [p.1]) (wipeE own p.2)) noX := st
            unfold Wp at st
            cases e3 : e ρ2 with
            | bad => rw [e3] at st; exact st.elim
            | ex x ρ' => rw [e3] at st; exact st.elim
            | ok a ρ3 =>
              simp only [e3] at st ⊢
              cases e4 : take1 ρ3 a with
              | none => rw [e4] at st; exact st.elim
              | some p =>
                obtain ⟨o, ρ4⟩ := p
                simp only [e4, Wo] at st ⊢
                obtain ⟨os', ρ', h1, h2⟩ := lcL_w I step r (k + 1) (os ++ [o]) _ hr st
                refine ⟨o :: os', ρ', by rw [h1], ?_⟩
                rw [List.length_cons, show k + (r.length + 1) = k + 1 + r.length by omega]
                simpa using h2
theorem w_Lc {own : List Nat} {it : IM} {g : TM} {t : M Bool} {e : M Arg} {Q : Arg → Env → Prop} (h : Wp it ρ (fun p ρ1 => Wo (lockE p.2 ρ1) fun q => (p.1.length ≤ sizeLine ∧ (∀ i ∈ p.2, i ∉ own)) ∧
    ∃ I : Nat → List OT → Env → Prop, I 0 [] (wipeE own q.1) ∧ (∀ k d os ρ, p.1[k]? = some d → I k os ρ → Wp (g (.fz d)) ρ (fun _ ρ1 => Wp t ρ1 (fun b ρ2 => Br b
      (Wp e ρ2 (fun a ρ3 => Wo (take1 ρ3 a) fun p => I (k + 1) (os ++ [p.1]) (wipeE own p.2)) noX) (I (k + 1) os (wipeE own ρ2))) noX) noX) ∧
      ∀ os ρ3, I p.1.length os ρ3 → ρ3.length = q.1.length ∧ Wo (unlE q.2 (restE q.1 own ρ3)) fun ρ4 => Q (.tmp (.lst os)) ρ4) E) : Wp (xLc own it g t e) ρ Q E := by
  with_unfolding_all
    refine Wp.bind (Wp.mono h (fun p ρ1 h => ?_) fun _ _ z => z)
    unfold Wp
    cases e1 : lockE p.2 ρ1 with
    | none => rw [e1] at h; exact h.elim
    | some q =>
      obtain ⟨ρ2, us⟩ := q
      simp only [e1, Wo] at h ⊢
      obtain ⟨h1, I, h2, h3, h4⟩ := h
      rw [if_pos h1]
      obtain ⟨os, ρ3, g1, g2⟩ := lcL_w I h3 p.1 0 [] _ rfl h2
      rw [g1]
      rw [Nat.zero_add, List.nil_append] at g2
      obtain ⟨k1, k2⟩ := h4 os ρ3 g2
      simp only
      rw [if_pos k1]
      cases e2 : unlE us (restE ρ2 own ρ3) with
      | none => rw [e2] at k2; exact k2.elim
      | some ρ4 => simp only [e2] at k2 ⊢; exact k2
/-- .. whose items change nothing: res tells what comes of each -/
theorem w_LcP {own : List Nat} {it : IM} {g : TM} {t : M Bool} {e : M Arg} {Q : Arg → Env → Prop} (h : Wp it ρ (fun p ρ1 => Wo (lockE p.2 ρ1) fun q => (p.1.length ≤ sizeLine ∧ (∀ i ∈ p.2, i ∉ own)) ∧
    ∃ res : Dat → Option OT, (∀ d ∈ p.1, Wp (g (.fz d)) (wipeE own q.1) (fun _ ρ1 => Wp t ρ1 (fun b ρ2 => Br b
      (Wp e ρ2 (fun a ρ3 => Wo (take1 ρ3 a) fun p => res d = some p.1 ∧ wipeE own p.2 = wipeE own q.1) noX) (res d = none ∧ wipeE own ρ2 = wipeE own q.1)) noX) noX) ∧
      ((wipeE own q.1).length = q.1.length ∧ Wo (unlE q.2 (restE q.1 own (wipeE own q.1))) fun ρ4 => Q (.tmp (.lst (p.1.filterMap res))) ρ4)) E) : Wp (xLc own it g t e) ρ Q E := by
  with_unfolding_all
    refine w_Lc (Wp.mono h (fun p ρ1 h => ?_) fun _ _ z => z)
    cases e1 : lockE p.2 ρ1 with
    | none => rw [e1] at h; exact h.elim
    | some q =>
      simp only [e1, Wo] at h ⊢
      obtain ⟨h1, res, h2, h3, h4⟩ := h
      refine ⟨h1, fun k os ρ' => os = (p.1.take k).filterMap res ∧ ρ' = wipeE own q.1, ⟨rfl, rfl⟩, fun k d os ρ' hd hi => ?_, fun os ρ3 hi => ?_⟩
      · obtain ⟨rfl, rfl⟩ := hi
        have tk : p.1.take (k + 1) = p.1.take k ++ [d] := by
          rw [List.take_add_one, hd]; rfl
        refine Wp.mono (h2 d (List.mem_of_getElem? hd)) (fun _ ρ1 h => Wp.mono h (fun b ρ2 h => ?_) fun _ _ z => z) fun _ _ z => z
        cases b with
        | false =>
          refine ⟨?_, h.2⟩
          rw [tk, List.filterMap_append]
          simp [show res d = none from h.1]
        | true =>
          refine Wp.mono h (fun a ρ3 h => ?_) fun _ _ z => z
          cases e4 : take1 ρ3 a with
          | none => rw [e4] at h; exact h.elim
          | some r =>
            simp only [e4, Wo] at h ⊢
            refine ⟨?_, h.2⟩
            rw [tk, List.filterMap_append]
            simp [show res d = some r.1 from h.1]
      · obtain ⟨rfl, rfl⟩ := hi
        refine ⟨h3, ?_⟩
        rw [List.take_length]
        exact h4
end
section
variable {ρ : Env} {D : En} {g h : SM}
theorem Ws.mono {D' : En} (q : Ws g ρ D) (h1 : ∀ ρ, D.nx ρ → D'.nx ρ) (h2 : ∀ ρ, D.bk ρ → D'.bk ρ) (h3 : ∀ ρ, D.ct ρ → D'.ct ρ) (h4 : ∀ o ρ, D.rt o ρ → D'.rt o ρ) (h5 : ∀ x ρ, D.ex x ρ → D'.ex x ρ) : Ws g ρ D' := by
  with_unfolding_all
    unfold Ws at *
    cases e : g ρ <;> rw [e] at q
    · exact h1 _ q
    all_goals first | exact h2 _ q | exact h3 _ q | exact h4 _ _ q | exact h5 _ _ q | exact q.elim
theorem ws_nx (q : D.nx ρ) : Ws sNx ρ D := by
  with_unfolding_all
    exact (q)
theorem ws_bk (q : D.bk ρ) : Ws sBk ρ D := by
  with_unfolding_all
    exact (q)
theorem ws_ct (q : D.ct ρ) : Ws sCt ρ D := by
  with_unfolding_all
    exact (q)
theorem ws_seq (q : Ws g ρ { nx := fun ρ1 => Ws h ρ1 D, bk := D.bk, ct := D.ct, rt := D.rt, ex := D.ex }) : Ws (sSeq g h) ρ D := by
  with_unfolding_all
    unfold Ws sSeq at *
    cases e : g ρ <;> rw [e] at q <;> exact q
theorem Ws.rs {α : Type} {f : M α} {k : α → Env → SR} (q : Wp f ρ (fun a ρ1 => Ws (k a) ρ1 D) D.ex) : Ws (fun ρ => RS (f ρ) k) ρ D := by
  with_unfolding_all
    unfold Ws Wp at *
    cases e : f ρ with
    | bad => rw [e] at q; exact q.elim
    | ex x ρ' => simp only [e, RS] at q ⊢; exact q
    | ok a ρ1 => simp only [e, RS] at q ⊢; exact q
theorem ws_if {t : M Bool} (q : Wp t ρ (fun b ρ1 => Br b (Ws g ρ1 D) (Ws h ρ1 D)) D.ex) : Ws (sIf t g h) ρ D := by
  with_unfolding_all
    exact (Ws.rs (Wp.mono q (fun b ρ1 q => by cases b <;> exact q) fun _ _ z => z))
theorem ws_ret {f : M Arg} (q : Wp f ρ (fun a ρ1 => Wo (giveBack ρ1 a) fun p => D.rt p.1 p.2) D.ex) : Ws (sRet f) ρ D := by
  with_unfolding_all
    exact (Ws.rs (Wp.mono q (fun a ρ1 q => by
      unfold Ws
      cases e : giveBack ρ1 a with
      | none => rw [e] at q; exact q.elim
      | some p => simp only [e, Wo] at q ⊢; exact q) fun _ _ z => z))
theorem ws_retN (q : D.rt (.fz .non) ρ) : Ws sRetN ρ D := by
  with_unfolding_all
    exact (q)
theorem ws_expr {f : M Arg} (q : Wp f ρ (fun _ ρ1 => D.nx ρ1) D.ex) : Ws (sExpr f) ρ D := by
  with_unfolding_all
    exact (Ws.rs (Wp.mono q (fun a ρ1 q => q) fun _ _ z => z))
theorem ws_asg {f : M Arg} {t : TM} (q : Wp f ρ (fun a ρ1 => Wo (take1 ρ1 a) fun p => Wp (t p.1) p.2 (fun _ ρ3 => D.nx ρ3) D.ex) D.ex) : Ws (sAsg f t) ρ D := by
  with_unfolding_all
    exact (Ws.rs (Wp.mono q (fun a ρ1 q => by
      cases e : take1 ρ1 a with
      | none => rw [e] at q; exact q.elim
      | some p =>
        simp only [e, Wo] at q
        have := Ws.rs (D := D) (f := t p.1) (k := fun _ ρ3 => .nx ρ3) q
        unfold Ws at *
        simp only [e]
        exact this) fun _ _ z => z))
theorem ws_par {is : List Nat} {f : M (List Arg)} (q : Wp f ρ (fun as ρ1 => Wo (takes ρ1 as) fun p => Ws (storeAll is p.1) p.2 D) D.ex) : Ws (sPar is f) ρ D := by
  with_unfolding_all
    exact (Ws.rs (Wp.mono q (fun a ρ1 q => by
      unfold Ws
      cases e : takes ρ1 a with
      | none => rw [e] at q; exact q.elim
      | some p => simp only [e, Wo] at q ⊢; exact q) fun _ _ z => z))
theorem ws_st_nil (q : D.nx ρ) : Ws (storeAll [] []) ρ D := by
  with_unfolding_all
    exact (q)
theorem ws_st_cons {i : Nat} {is : List Nat} {o : OT} {os : List OT} (q : Wp (gNm i o) ρ (fun _ ρ1 => Ws (storeAll is os) ρ1 D) D.ex) : Ws (storeAll (i :: is) (o :: os)) ρ D := by
  with_unfolding_all
    exact (Ws.rs (f := gNm i o) (k := fun _ ρ1 => storeAll is os ρ1) q)
theorem forL_w {g : TM} {body : SM} {D : En} {ds0 : List Dat} (I : Nat → Env → Prop) (step : ∀ k d ρ, ds0[k]? = some d → I k ρ → Wp (g (.fz d)) ρ (fun _ ρ1 => Ws body ρ1 { nx := I (k + 1), ct := I (k + 1), bk := D.nx, rt := D.rt, ex := D.ex }) D.ex)
    (fin : ∀ ρ, I ds0.length ρ → D.nx ρ) : ∀ (ds : List Dat) (k : Nat) (ρ : Env), ds = ds0.drop k → k ≤ ds0.length → I k ρ → Ws (forL g body ds) ρ D
  | [], k, ρ, hd, hk, hI => by
    with_unfolding_all
      have : ds0.length ≤ k := by
        have := congrArg List.length hd
        rw [List.length_drop, List.length_nil] at this
        omega
      rw [show k = ds0.length by omega] at hI
      exact fin ρ hI
  | d :: r, k, ρ, hd, hk, hI => by
    with_unfolding_all
      have hk2 : ds0[k]? = some d := by
        have := congrArg (fun l => l[0]?) hd
        simpa using this.symm
      have hr : r = ds0.drop (k + 1) := by
        have := congrArg List.tail hd
        simpa using this
      have hlt : k < ds0.length := (List.getElem?_eq_some_iff.mp hk2).1
      have st := step k d ρ hk2 hI
      have e0 : forL g body (d :: r) = fun ρ => RS (g (.fz d) ρ) fun _ ρ1 => match body ρ1 with
        | .nx ρ2 => forL g body r ρ2
        | .ct ρ2 => forL g body r ρ2
        | .bk ρ2 => .nx ρ2
        | z => z := rfl
      rw [e0]
      refine Ws.rs (Wp.mono st (fun _ ρ1 st => ?_) fun _ _ z => z)
      unfold Ws at st ⊢
      cases e : body ρ1 with
      | nx ρ2 => rw [e] at st; simp only [e]; exact forL_w I step fin r (k + 1) ρ2 hr hlt st
      | ct ρ2 => rw [e] at st; simp only [e]; exact forL_w I step fin r (k + 1) ρ2 hr hlt st
      | bk ρ2 => rw [e] at st; simp only [e]; exact st
      | rt o ρ2 => rw [e] at st; simp only [e]; exact st
      | ex x ρ2 => rw [e] at st; simp only [e]; exact st
      | bad => rw [e] at st; exact False.elim st
/-- for: the invariant I over the number of items gone by -/
theorem ws_for {it : IM} {g : TM} {body : SM} (q : Wp it ρ (fun p ρ1 => p.2 = [] ∧ ∃ I : Nat → Env → Prop, I 0 ρ1 ∧ (∀ k d ρ, p.1[k]? = some d → I k ρ → Wp (g (.fz d)) ρ (fun _ ρ1 => Ws body ρ1 { nx := I (k + 1), ct := I (k + 1), bk := D.nx, rt := D.rt, ex := D.ex }) D.ex) ∧
    ∀ ρ, I p.1.length ρ → D.nx ρ) D.ex) : Ws (sFor it g body) ρ D := by
  with_unfolding_all
    exact (Ws.rs (Wp.mono q (fun p ρ1 q => by
      obtain ⟨h1, I, h2, h3, h4⟩ := q
      unfold Ws
      rw [h1]
      exact forL_w I h3 h4 p.1 0 ρ1 rfl (Nat.zero_le _) h2) fun _ _ z => z))
end
theorem Wf.run {io : Option Nat} {m n : Nat} {g : SM} {os : List OT} {Q : OT → OT → Prop} {E : Exn → OT → Prop} (h : Ws g (mkEnv io os ++ List.replicate (m - n) .un) { nx := fun ρ => Wo (outOf io ρ) fun out => Q (.fz .non) out, rt := fun o ρ => Wo (outOf io ρ) fun out => Q o out, ex := fun x ρ => Wo (outOf io ρ) fun out => E x out }) : Wf (runF io m n g) os Q E := by
  with_unfolding_all
    unfold Ws at h
    unfold Wf runF
    cases e : g (mkEnv io os ++ List.replicate (m - n) .un) with
    | bad => rw [e] at h; exact h.elim
    | bk ρ' => rw [e] at h; exact h.elim
    | ct ρ' => rw [e] at h; exact h.elim
    | nx ρ' =>
      rw [e] at h
      have h : Wo (outOf io ρ') fun out => Q (.fz .non) out := h
      cases ho : outOf io ρ' with
      | none => rw [ho] at h; exact h.elim
      | some out => rw [ho] at h; simp only [ho]; exact h
    | rt o ρ' =>
      rw [e] at h
      have h : Wo (outOf io ρ') fun out => Q o out := h
      cases ho : outOf io ρ' with
      | none => rw [ho] at h; exact h.elim
      | some out => rw [ho] at h; simp only [ho]; exact h
    | ex x ρ' =>
      rw [e] at h
      have h : Wo (outOf io ρ') fun out => E x out := h
      cases ho : outOf io ρ' with
      | none => rw [ho] at h; exact h.elim
      | some out => rw [ho] at h; simp only [ho]; exact h
theorem Wf.mono {F : FD} {os : List OT} {Q Q' : OT → OT → Prop} {E E' : Exn → OT → Prop} (h : Wf F os Q E) (hq : ∀ r out, Q r out → Q' r out) (he : ∀ x out, E x out → E' x out) : Wf F os Q' E' := by
  with_unfolding_all
    unfold Wf at *
    cases e : F os with
    | bad => rw [e] at h; exact h.elim
    | ok r out => rw [e] at h; exact hq _ _ h
    | ex x out => rw [e] at h; exact he _ _ h
/-- no exception comes -/
def nX : Exn → OT → Prop := fun _ _ => False
theorem Wf.go {F : FD} {os : List OT} {Q Q' : OT → OT → Prop} {E : Exn → OT → Prop} (h : Wf F os Q nX) (hq : ∀ r out, Q r out → Q' r out) : Wf F os Q' E := by
  with_unfolding_all
    exact (h.mono hq fun _ _ z => z.elim)
theorem law_of {F : FD} (h : ∀ ns : List Int, ns.length ≤ 63 → (∀ z ∈ ns, Builtin.Int.intBits z ≤ 1048576) → Wf F [.fz (.kst ns)] (fun r _ => r = .fz (.bl true)) nX) : LawOk F := by
  with_unfolding_all
    exact (fun ns h1 h2 => by
      have q := h ns h1 h2
      unfold Wf at q
      cases e : F [.fz (.kst ns)] with
      | bad => rw [e] at q; exact q.elim
      | ok r out => rw [e] at q; exact ⟨out, by rw [show r = _ from q]⟩
      | ex x out => rw [e] at q; exact q.elim)
end Lay
namespace Lay
open PySem PySem.Spec L2
section
variable {i j : Int} {k : OT → Prop}
theorem o_add (q : k (.fz (.int (i + j)))) : Wo (opAdd (.fz (.int i)) (.fz (.int j))) k := by
  with_unfolding_all
    exact (q)
theorem allFz_map (ds : List Dat) : allFz (ds.map .fz) = some ds := by
  induction ds with
  | nil => rfl
  | cons d r ih => show (match allFz (r.map OT.fz) with | some ds => some (d :: ds) | none => none) = _; rw [ih]
theorem asL_map (ds : List Dat) : asL (.lst (ds.map .fz)) = some ds := allFz_map ds
theorem o_sub (q : k (.fz (.int (i - j)))) : Wo (opSub (.fz (.int i)) (.fz (.int j))) k := by
  with_unfolding_all
    exact (q)
theorem o_mul (h : cMul i j = true) (q : k (.fz (.int (i * j)))) : Wo (opMul (.fz (.int i)) (.fz (.int j))) k := by
  with_unfolding_all
    exact (wo (if_pos h) q)
theorem cMul_l (h1 : -9223372036854775808 < i) (h2 : i < 9223372036854775808) : cMul i j = true := by
  unfold cMul
  rw [decide_eq_true (show i.natAbs < 9223372036854775808 by omega)]; rfl
theorem cMul_r (h1 : -9223372036854775808 < j) (h2 : j < 9223372036854775808) : cMul i j = true := by
  unfold cMul
  rw [decide_eq_true (show j.natAbs < 9223372036854775808 by omega)]; simp
theorem o_mod (h : 0 < j) (q : k (.fz (.int (i % j)))) : Wo (opMod (.fz (.int i)) (.fz (.int j))) k := by
  with_unfolding_all
    exact (wo (if_pos (decide_eq_true h)) q)
theorem o_fdiv (h0 : j ≠ 0) (h : j.natAbs.log2 < 9000) (q : k (.fz (.int (i.fdiv j)))) : Wo (opFdiv (.fz (.int i)) (.fz (.int j))) k := by
  with_unfolding_all
    exact (wo (if_pos (by unfold cDiv; simp [h0, h])) q)
theorem log_small {n a : Nat} (h : n < 2 ^ a) (ha : 0 < a) (h9 : a ≤ 9000) : n.log2 < 9000 := Nat.lt_of_lt_of_le (PySem.Flt.log2_lt_of ha h) h9
theorem o_fdivS (h0 : 0 < j) (h1 : j < 1073741824) (q : k (.fz (.int (i / j)))) : Wo (opFdiv (.fz (.int i)) (.fz (.int j))) k := by
  with_unfolding_all
    exact (o_fdiv (by omega) (log_small (a := 30) (show j.natAbs < 2 ^ 30 by omega) (by decide) (by decide)) (by rw [Int.fdiv_eq_ediv_of_nonneg i (by omega)]; exact q))
theorem o_neg (q : k (.fz (.int (-i)))) : Wo (opNeg (.fz (.int i))) k := by
  with_unfolding_all
    exact (q)
theorem o_lt (q : k (.fz (.bl (decide (i < j))))) : Wo (opLt (.fz (.int i)) (.fz (.int j))) k := by
  with_unfolding_all
    exact (q)
theorem o_le (q : k (.fz (.bl (decide (i ≤ j))))) : Wo (opLe (.fz (.int i)) (.fz (.int j))) k := by
  with_unfolding_all
    exact (q)
theorem o_gt (q : k (.fz (.bl (decide (j < i))))) : Wo (opGt (.fz (.int i)) (.fz (.int j))) k := by
  with_unfolding_all
    exact (q)
theorem o_ge (q : k (.fz (.bl (decide (j ≤ i))))) : Wo (opGe (.fz (.int i)) (.fz (.int j))) k := by
  with_unfolding_all
    exact (q)
theorem o_eqI (q : k (.fz (.bl (decide (i = j))))) : Wo (opEq (.fz (.int i)) (.fz (.int j))) k := by
  with_unfolding_all
    refine wo (x := .fz (.bl (decide (i = j)))) ?_ q
    show (if cmpOk 60 (.int i) && cmpOk 60 (.int j) then some (eqD (.int i) (.int j)) else none).map _ = _
    simp [cmpOk, eqD]
    rfl
theorem o_neI (q : k (.fz (.bl (!decide (i = j))))) : Wo (opNe (.fz (.int i)) (.fz (.int j))) k := by
  with_unfolding_all
    refine wo (x := .fz (.bl (!decide (i = j)))) ?_ q
    show (if cmpOk 60 (.int i) && cmpOk 60 (.int j) then some (eqD (.int i) (.int j)) else none).map _ = _
    simp [cmpOk, eqD]
    rfl
theorem o_eqS {s t : Str} (q : k (.fz (.bl (decide (s = t))))) : Wo (opEq (.fz (.str s)) (.fz (.str t))) k := by
  with_unfolding_all
    exact (q)
theorem o_neS {s t : Str} (q : k (.fz (.bl (!decide (s = t))))) : Wo (opNe (.fz (.str s)) (.fz (.str t))) k := by
  with_unfolding_all
    exact (q)
theorem o_int (q : k (.fz (.int i))) : Wo (opInt [.fz (.int i)]) k := by
  with_unfolding_all
    exact (q)
theorem o_intB {b : Bool} (q : k (.fz (.int (if b then 1 else 0)))) : Wo (opInt [.fz (.bl b)]) k := by
  with_unfolding_all
    exact (q)
theorem o_abs (q : k (.fz (.int (if i < 0 then -i else i)))) : Wo (opAbs [.fz (.int i)]) k := by
  with_unfolding_all
    exact (q)
theorem o_absN (q : k (.fz (.int (i.natAbs : Int)))) : Wo (opAbs [.fz (.int i)]) k := by
  with_unfolding_all
    exact (o_abs (by
      rw [show (if i < 0 then -i else i) = (i.natAbs : Int) by split <;> omega]; exact q))
theorem o_gcd (q : k (.fz (.int ((Nat.gcd i.natAbs j.natAbs : Nat) : Int)))) : Wo (opGcd [.fz (.int i), .fz (.int j)]) k := by
  with_unfolding_all
    exact (q)
theorem o_lenT {xs : List Dat} (q : k (.fz (.int (xs.length : Int)))) : Wo (opLen [.fz (.tup xs)]) k := by
  with_unfolding_all
    exact (q)
theorem o_lenL {xs : List Dat} (q : k (.fz (.int (xs.length : Int)))) : Wo (opLen [.fz (.lst xs)]) k := by
  with_unfolding_all
    exact (q)
theorem o_lenK {xs : List Int} (q : k (.fz (.int (xs.length : Int)))) : Wo (opLen [.fz (.kst xs)]) k := by
  with_unfolding_all
    exact (q)
theorem o_lenO {xs : List OT} (q : k (.fz (.int (xs.length : Int)))) : Wo (opLen [.lst xs]) k := by
  with_unfolding_all
    exact (q)
theorem atI_int {α : Type} {xs : List α} {i : Int} {x : α} (h0 : 0 ≤ i) (h : xs[i.toNat]? = some x) : L2.atI xs i = some x := by
  have : i = ((i.toNat : Nat) : Int) := by omega
  rw [this]; exact L2.atI_nat h
theorem o_ixT {xs : List Dat} {d : Dat} (h : L2.atI xs i = some d) (q : k (.fz d)) : Wo (opIx (.fz (.tup xs)) (.fz (.int i))) k := by
  with_unfolding_all
    exact (wo (x := .fz d) (by show (L2.atI xs i).map OT.fz = _; rw [h]; rfl) q)
theorem o_ixL {xs : List Dat} {d : Dat} (h : L2.atI xs i = some d) (q : k (.fz d)) : Wo (opIx (.fz (.lst xs)) (.fz (.int i))) k := by
  with_unfolding_all
    exact (wo (x := .fz d) (by show (L2.atI xs i).map OT.fz = _; rw [h]; rfl) q)
theorem o_ixK {xs : List Int} {d : Int} (h : L2.atI xs i = some d) (q : k (.fz (.int d))) : Wo (opIx (.fz (.kst xs)) (.fz (.int i))) k := by
  with_unfolding_all
    exact (wo (x := .fz (.int d)) (by show (L2.atI xs i).map (fun n => OT.fz (.int n)) = _; rw [h]; rfl) q)
theorem o_isN {x : OT} (q : k (.fz (.bl (isNonO x)))) : Wo (opIs false x (.fz .non)) k := by
  with_unfolding_all
    exact (q)
theorem o_isB {x : OT} {b : Bool} (q : k (.fz (.bl (isBlO b x)))) : Wo (opIs false x (.fz (.bl b))) k := by
  with_unfolding_all
    exact (q)
theorem o_isnN {x : OT} (q : k (.fz (.bl (!isNonO x)))) : Wo (opIs true x (.fz .non)) k := by
  with_unfolding_all
    exact (q)
theorem o_isnB {x : OT} {b : Bool} (q : k (.fz (.bl (!isBlO b x)))) : Wo (opIs true x (.fz (.bl b))) k := by
  with_unfolding_all
    exact (q)
theorem o_join {s : Str} {x : OT} {ds : List Dat} {ys : List Str} (h1 : asSq x = some ds) (h2 : strsD ds = some ys) (h : (ys.map (·.length)).sum + ys.length * s.length ≤ 16777216) (q : k (.fz (.str (Txt.join s ys)))) : Wo (opJoin (.fz (.str s)) [x]) k := by
  with_unfolding_all
    refine wo (x := .fz (.str (Txt.join s ys))) ?_ q
    unfold opJoin
    simp only [h1, Option.bind, h2]
    exact if_pos h
theorem frzs_map (ds : List Dat) : frzs (ds.map .fz) = ds := by
  induction ds with
  | nil => rfl
  | cons d r ih => show d :: frzs (r.map OT.fz) = _; rw [ih]
/-- isinstance, by the kind of the value -/
def isiD : Dat → String → Bool
  | .non, T => T == "NoneType"
  | .bl _, T => T == "bool" || T == "int"
  | .int _, T => T == "int"
  | .str _, T => T == "str"
  | .tup _, T => T == "tuple"
  | .lst _, T => T == "list"
  | .kst _, T => T == "list"
  | .dic _, T => T == "dict"
theorem o_isi {d : Dat} {T : String} (hT : T ∈ ["int", "bool", "str", "tuple", "list", "dict"]) (hd : isDicO (.fz d) = false) (q : k (.fz (.bl (isiD d T)))) : Wo (opIsi T (.fz d)) k := by
  with_unfolding_all
    refine wo (x := .fz (.bl (isiD d T))) ?_ q
    have key : ∀ T' ∈ ["int", "bool", "str", "tuple", "list", "dict"], ∀ x ∈ ["NoneType", "bool", "int", "str", "tuple", "list", "dict"], kitB x T' = some (x == T' || (x == "bool" && T' == "int")) := by decide +kernel
    unfold opIsi
    rw [if_neg (by rw [hd]; decide)]
    cases d <;> (try (exact absurd hd (by decide))) <;> (rw [show kitB (tyNm _) T = _ from key T hT _ (by simp [tyNm])]; simp only [Option.map, isiD, tyNm])
    all_goals (simp only [List.mem_cons, List.not_mem_nil, or_false] at hT; rcases hT with rfl | rfl | rfl | rfl | rfl | rfl <;> rfl)
theorem o_app {os : List OT} {d : Dat} {k : OT × OT → Prop} (h : os.length < sizeLine) (q : k (.lst (os ++ [.fz d]), .fz .non)) : Wo (muF muAppend (.lst os) [.fz d]) k := by
  with_unfolding_all
    refine wo (x := (.lst (os ++ [.fz d]), .fz .non)) ?_ q
    show (if os.length < sizeLine then _ else none) = _
    rw [if_pos h]
    rfl
end
/-- a name whose content is of no weight -/
def Jk (s : Sl) : Prop := s = .un ∨ ∃ o, s = .vl o
theorem jk_un : Jk .un := .inl rfl
theorem jk_vl {o : OT} : Jk (.vl o) := .inr ⟨o, rfl⟩
theorem w_gJ {i : Nat} {o : OT} {ρ : Env} {s : Sl} {Q : Unit → Env → Prop} {E : Exn → Env → Prop} (e : ρ[i]? = some s) (h : Jk s) (q : Q () (ρ.set i (.vl o))) : Wp (gNm i o) ρ Q E := by
  with_unfolding_all
    exact (w_gNm (by rw [e]; rcases h with rfl | ⟨o, rfl⟩ <;> rfl) q)
theorem rng_inv {lo : Int} {n k : Nat} {d : Dat} (h : (rngL lo n)[k]? = some d) : k < n ∧ d = .int (lo + k) := by
  have hk : k < n := by
    have := (List.getElem?_eq_some_iff.mp h).1
    rw [rngL_length] at this
    exact this
  rw [rngL_get n lo k hk] at h
  exact ⟨hk, (Option.some.inj h).symm⟩
/-- a statement cut out: R holds behind it -/
theorem ws_J {g : SM} {ρ : Env} {D : En} (R : Env → Prop) (q : Ws g ρ { nx := R, bk := D.bk, ct := D.ct, rt := D.rt, ex := D.ex }) (h : ∀ ρ, R ρ → D.nx ρ) : Ws g ρ D := by
  with_unfolding_all
    exact (q.mono h (fun _ h => h) (fun _ h => h) (fun _ _ h => h) (fun _ _ h => h))
theorem rng_mem {lo : Int} {n : Nat} {d : Dat} (h : d ∈ rngL lo n) : ∃ k, k < n ∧ d = .int (lo + (k : Nat)) := by
  obtain ⟨k, hk⟩ := List.mem_iff_getElem?.mp h
  exact ⟨k, rng_inv hk⟩
theorem fm_none {α β : Type} (l : List α) : l.filterMap (fun _ => (none : Option β)) = [] := by
  induction l with
  | nil => rfl
  | cons a r ih => rw [List.filterMap_cons]; exact ih
theorem w_back {ρ : Env} {io : Option Nat} {as : List Arg} {r out : OT} {k : Env → Prop} (h : solidO out = false) (q : Wo ((frzAll (ioSlot io as) (slotsOf as) ρ).bind fun ρ1 => putIo ρ1 (ioSlot io as) out) k) : Wo (backW ρ io as r out) k := by
  with_unfolding_all
    unfold backW backA
    rw [h, Bool.and_false]
    exact q
theorem w_backT {ρ : Env} {io : Option Nat} {as : List Arg} {r out : OT} {k : Env → Prop} (h : (solidO r && solidO out) = true) (q : Wo (putIo ρ (ioSlot io as) out) k) : Wo (backW ρ io as r out) k := by
  with_unfolding_all
    unfold backW backA
    rw [h]
    exact q
theorem solid_ints (ds : List Int) : solidO (.lst (ds.map fun d => .fz (.int d))) = true := by
  show solidOs (ds.map fun d => .fz (.int d)) = true
  induction ds with
  | nil => rfl
  | cons d r ih => show (solidO (.fz (.int d)) && solidOs (r.map fun d => .fz (.int d))) = true; rw [ih]; rfl
theorem frzs_ints (ds : List Int) : frzs (ds.map fun d => .fz (.int d)) = ds.map .int := by
  induction ds with
  | nil => rfl
  | cons d r ih => show Dat.int d :: frzs (r.map fun d => .fz (.int d)) = _; rw [ih]; rfl
/-- a statement that changes nothing, cut out -/
theorem ws_JE {g : SM} {ρ : Env} {D : En} (q : Ws g ρ { nx := fun ρ' => ρ' = ρ, bk := D.bk, ct := D.ct, rt := D.rt, ex := D.ex }) (h : D.nx ρ) : Ws g ρ D := by
  with_unfolding_all
    exact (ws_J (fun ρ' => ρ' = ρ) q fun ρ' e => by rw [e]; exact h)
end Lay
namespace Lay
open PySem PySem.Spec L2
theorem un65 {k : Nat} {A : Around} (hr : Room k A) : A.units + 65 < cLine := by have := hr.un; omega
def anyEq (ds : List Dat) (d : Dat) : Bool := ds.any fun z => eqD z d
def inO (x y : OT) : Option Bool := match x, y with
  | .fz (.str s), .fz (.str t) => some (!(Builtin.Str.occurrences t s 0 t.length 1).isEmpty)
  | x, y => match asSq y with
    | some ds => if cmpOk 60 (frz x) && cmpOks 60 ds then some (anyEq ds (frz x)) else none
    | none => none
def opIn (neg : Bool) (x y : OT) : Option OT := (inO x y).map fun b => .fz (.bl (if neg then !b else b))
def rInA (K : PySem.W.Frag) (neg : Bool) : R2 := fun x y H Q => (∃ i j, x = .str i ∧ y = .str j ∧ Q (.bl (if neg then !(!(Builtin.Str.occurrences j i 0 j.length 1).isEmpty) else !(Builtin.Str.occurrences j i 0 j.length 1).isEmpty)) H) ∨
  ∃ d ds, Dp K H x d ∧ (Dp K H y (.list ds) ∨ Dp K H y (.tuple ds)) ∧ SeqAt.shaped d = true ∧ PyData.canLayAll0 ds = true ∧ Q (.bl (if neg then !ds.any (fun z => PyData.eqv z d) else ds.any fun z => PyData.eqv z d)) H
theorem op_inA {X : Cx} (hu : X.A.units + 65 < cLine) : OpR X (compareOp .In) (rInA X.K false) := fun pins s σ H x y v u Q I rx ry h => by
  rcases h with ⟨i, j, h1, h2, q⟩ | ⟨d, ds, hd, he, sd, se, q⟩
  · exact op_in_str pins s σ H x y v u Q I rx ry ⟨i, j, h1, h2, q⟩
  · obtain ⟨as, r1⟩ := Dp.reads I d x v hd rx
    rcases he with he | he
    · obtain ⟨bs, r2⟩ := Dp.reads I (.list ds) y u he ry
      exact SeqAt.in_list_reads r2 r1 se (SeqAt.canLay_of_shaped sd) (PyProof.Rows.room_in_shaped sd hu) ⟨.bl _, H, I, rfl, q⟩
    · obtain ⟨bs, r2⟩ := Dp.reads I (.tuple ds) y u he ry
      exact SeqAt.in_tuple_reads r2 r1 se (SeqAt.canLay_of_shaped sd) (PyProof.Rows.room_in_shaped sd hu) ⟨.bl _, H, I, rfl, q⟩
theorem op_notInA {X : Cx} (hu : X.A.units + 65 < cLine) : OpR X (compareOp .NotIn) (rInA X.K true) := fun pins s σ H x y v u Q I rx ry h => by
  rcases h with ⟨i, j, h1, h2, q⟩ | ⟨d, ds, hd, he, sd, se, q⟩
  · exact op_notin_str pins s σ H x y v u Q I rx ry ⟨i, j, h1, h2, q⟩
  · obtain ⟨as, r1⟩ := Dp.reads I d x v hd rx
    rcases he with he | he
    · obtain ⟨bs, r2⟩ := Dp.reads I (.list ds) y u he ry
      exact SeqAt.notIn_list_reads r2 r1 se (SeqAt.canLay_of_shaped sd) (PyProof.Rows.room_in_shaped sd hu) ⟨.bl _, H, I, rfl, q⟩
    · obtain ⟨bs, r2⟩ := Dp.reads I (.tuple ds) y u he ry
      exact SeqAt.notIn_tuple_reads r2 r1 se (SeqAt.canLay_of_shaped sd) (PyProof.Rows.room_in_shaped sd hu) ⟨.bl _, H, I, rfl, q⟩
theorem any_py : ∀ (ds : List Dat) (d : Dat) (n m : Nat) (ps : List PyData) (p : PyData), pyDs n ds = some ps → pyD m d = some p → ps.any (fun z => PyData.eqv z p) = anyEq ds d
  | [], d, n, m, ps, p, h1, h2 => by
    have : ps = [] := by cases n <;> (cases h1; rfl)
    subst this
    rfl
  | x :: ds, d, n, m, ps, p, h1, h2 => by
    have h1 : (match pyD n x, pyDs n ds with | some x, some xs => some (x :: xs) | _, _ => none) = some ps := by cases n <;> exact h1
    cases c1 : pyD n x with
    | none => rw [c1] at h1; cases h1
    | some y =>
      cases c2 : pyDs n ds with
      | none => rw [c1, c2] at h1; cases h1
      | some ys =>
        rw [c1, c2] at h1
        cases h1
        have ih := any_py ds d n m ys p c2 h2
        show (PyData.eqv y p || ys.any fun z => PyData.eqv z p) = (eqD x d || ds.any fun z => eqD z d)
        rw [eqD_py x d n m y p c1 h2, ih]
        rfl
theorem ok_in {K : PySem.W.Frag} {neg : Bool} : OpOk K (rInA K neg) (opIn neg) := fun G H o1 o2 v1 v2 f1 f2 o Q e r1 r2 c q => by
  unfold opIn at c
  cases h : inO o1 o2 with
  | none => rw [h] at c; cases c
  | some b =>
    rw [h] at c
    cases c
    unfold inO at h
    split at h
    · rename_i s t
      cases h
      exact .inl ⟨s, t, r1.2, r2.2, q.bl⟩
    · cases c1 : asSq o2 with
      | none => rw [c1] at h; cases h
      | some ds =>
        rw [c1] at h
        simp only at h
        split at h
        · rename_i g
          cases h
          rw [Bool.and_eq_true] at g
          obtain ⟨a, vs, rfl, hs, rd⟩ := asSq_ok e r2 c1
          obtain ⟨p, k1, k2, k3⟩ := cmp_py _ _ g.1
          obtain ⟨ps, l1, l2, l3⟩ := cmp_pys _ _ g.2
          have sh : SeqAt.shaped p = true := by
            unfold SeqAt.shaped
            rw [k2]
            simp only [Bool.true_and, decide_eq_true_eq]
            omega
          have da := RepDs.dp e ds 60 vs ps l1 rd
          refine .inr ⟨p, ps, RepD.dp (Ex.refl _) _ _ _ _ k1 (RepO.dat e r1), hs.imp (fun h => .lst h da) (fun h => .tup h da), sh, l2, ?_⟩
          rw [any_py ds (frz o1) 60 60 ps p l1 k1]
          exact q.bl
        · cases h
end Lay
namespace Lay
open PySem PySem.Spec L2
abbrev opAddI : OT → OT → Option OT := opII (fun _ _ => true) fun i j => .int (i + j)
section
variable {X : Cx} {K : PySem.W.Frag}
theorem ip_mulA : PIp X .Mult (rI IntMulOk fun i j => .int (i * j)) := by
  intro pins s σ H x y v u Q I r1 r2 h
  obtain ⟨i, j, e1, e2, hc, q⟩ := h
  subst e1; subst e2
  obtain ⟨t, rfl⟩ := r1
  obtain ⟨t', rfl⟩ := r2
  exact PyProof.Rows.imul_int ⟨.int _, H, I.tok _, ⟨_, rfl⟩, q⟩ hc
theorem ipk_mul : IpOk K (rI IntMulOk fun i j => .int (i * j)) opMul := ok_mul
end
section
variable {K : PySem.W.Frag}
def opFind2 (x : OT) (os : List OT) : Option OT := match x, os with
  | .fz (.str a), [.fz (.str b), .fz (.int i)] => some (.fz (.int (Txt.find3 a b i)))
  | _, _ => none
def opFind3 (x : OT) (os : List OT) : Option OT := match x, os with
  | .fz (.str a), [.fz (.str b), .fz (.int i), .fz (.int j)] => some (.fz (.int (Txt.findIn a b i j)))
  | _, _ => none
end
end Lay
namespace Lay
open PySem PySem.Spec L2
end Lay
namespace Lay
open PySem PySem.Spec L2
section
variable {ρ : Env} {E : Exn → Env → Prop} {D : En}
theorem w_NoPart {Q : Option Int → Env → Prop} (q : Q none ρ) : Wp xNoPart ρ Q E := by with_unfolding_all exact q
theorem w_Part {f : M Arg} {Q : Option Int → Env → Prop} (h : Wp f ρ (fun a ρ1 => Wo (asIx ρ1 a) fun i => Q (some i) ρ1) E) : Wp (xPart f) ρ Q E := by
  refine Wp.bind (Wp.mono h (fun a ρ1 h => ?_) fun _ _ z => z)
  with_unfolding_all
    cases e : asIx ρ1 a with
    | none => rw [e] at h; exact h.elim
    | some i =>
      rw [e] at h
      unfold Wp
      simp only [e]
      exact h
theorem w_Sl {op : OT → Option Int → Option Int → Option OT} {f : M Arg} {lo hi : M (Option Int)} {Q : Arg → Env → Prop} (h : Wp f ρ (fun a ρ1 => Wp lo ρ1 (fun l ρ2 => Wp hi ρ2 (fun r ρ3 => Wo (look ρ3 a) fun x => Wo (op x l r) fun o => Q (.tmp o) ρ3) E) E) E) : Wp (xSl op f lo hi) ρ Q E := by
  refine Wp.bind (Wp.mono h (fun a ρ1 h => Wp.bind (Wp.mono h (fun l ρ2 h => Wp.bind (Wp.mono h (fun r ρ3 h => ?_) fun _ _ z => z)) fun _ _ z => z)) fun _ _ z => z)
  with_unfolding_all
    cases e : look ρ3 a with
    | none => rw [e] at h; exact h.elim
    | some x =>
      rw [e] at h
      cases e2 : op x l r with
      | none =>
        have h : Wo (op x l r) _ := h
        rw [e2] at h
        exact h.elim
      | some o =>
        have h : Wo (op x l r) _ := h
        rw [e2] at h
        unfold Wp
        simp only [e, e2]
        exact h
theorem ws_aug {i : Nat} {op : OT → OT → Option OT} {f : M Arg} (q : Wp (x2 op (xVar i) f) ρ (fun a ρ1 => ∃ o, a = .tmp o ∧ Wp (gNm i o) ρ1 (fun _ ρ2 => D.nx ρ2) D.ex) D.ex) : Ws (sAug i op f) ρ D := by
  refine Ws.rs (Wp.mono q (fun a ρ1 q => ?_) fun _ _ z => z)
  obtain ⟨o, rfl, q⟩ := q
  exact Ws.rs (f := gNm i o) (k := fun _ ρ2 => .nx ρ2) (q.mono (fun _ ρ2 z => by with_unfolding_all exact z) fun _ _ z => z)
end
section
variable {k : OT → Prop}
theorem o_addI {i j : Int} (q : k (.fz (.int (i + j)))) : Wo (opAddI (.fz (.int i)) (.fz (.int j))) k := wo rfl q
theorem o_in {x y : OT} {b neg : Bool} (h : inO x y = some b) (q : k (.fz (.bl (if neg then !b else b)))) : Wo (opIn neg x y) k := wo (by unfold opIn; rw [h]; rfl) q
theorem o_find2 {a b : Str} {i : Int} (q : k (.fz (.int (Txt.find3 a b i)))) : Wo (opFind2 (.fz (.str a)) [.fz (.str b), .fz (.int i)]) k := wo rfl q
theorem o_find3 {a b : Str} {i j : Int} (q : k (.fz (.int (Txt.findIn a b i j)))) : Wo (opFind3 (.fz (.str a)) [.fz (.str b), .fz (.int i), .fz (.int j)]) k := wo rfl q
theorem o_tupL {ds : List Dat} (q : k (.fz (.tup ds))) : Wo (opTuple [.lst (ds.map .fz)]) k := by
  refine wo (x := .fz (.tup ds)) ?_ q
  unfold opTuple
  simp only [asSq, asT, asL_map]
  rfl
end
end Lay
namespace Lay
open PySem PySem.Spec L2
end Lay
namespace Lay
open PySem PySem.Spec L2
def scal : Dat → Bool
  | .int i => decide (i.natAbs.log2 < 1920)
  | .str s => decide (s.length ≤ 1000000)
  | _ => false
end Lay
namespace Lay
open PySem PySem.Spec L2
def excOf (c : Str) (fns : List Str) (os : List OT) : Option Exn := match allFz os with
  | some ds => if ds.all scal && ds.length == fns.length && decide (ds.length ≤ 100) then some ⟨c, (fns.zip ds).reverse⟩ else none
  | none => none
def sRaise (c : Str) (fns : List Str) (fa : M (List Arg)) : SM := fun ρ => RS (fa ρ) fun as ρ1 => match looks ρ1 as with
  | some os => match excOf c fns os with
    | some x => .ex x ρ1
    | none => .bad
  | none => .bad
theorem RepF.app {K : PySem.W.Frag} {G : Hp} : ∀ {l m : List (Str × Dat)} {vs us : List (Str × V)}, RepF K G l vs → RepF K G m us → RepF K G (l ++ m) (vs ++ us)
  | [], m, vs, us, h1, h2 => by rw [show vs = [] from h1]; exact h2
  | (n, d) :: l, m, vs, us, h1, h2 => by
    obtain ⟨v, r', rfl, q1, q2⟩ := h1
    exact ⟨v, r' ++ us, rfl, q1, RepF.app q2 h2⟩
theorem upd_none_ne {H : Hp} {a : Addr} {o : HO} {b : Addr} {x : HO} (hn : H a = none) (e : H b = some x) : upd H a o b = some x := by
  rw [upd_ne (ne_of_none e hn)]; exact e
end Lay
namespace Lay
open PySem PySem.Spec L2
def opTT (p : Str → Str → Bool) (x y : OT) : Option OT := match x, y with
  | .fz (.str a), .fz (.str b) => some (.fz (.bl (p a b)))
  | _, _ => none
end Lay
namespace Lay
open PySem PySem.Spec L2
def seen (kvs : List (Str × Dat)) (s : Str) : Option Dat := (kvs.find? fun p => p.1 == s).map (·.2)
theorem tD_mono {Z : Par} {f : M Arg} {σ : St} {H : Hp} {Q Q' : VK} (h : tD Z f σ H Q) (hq : ∀ v H, Q v H → Q' v H) : tD Z f σ H Q' := by
  obtain ⟨T, P, ρ, fs, rp, q⟩ := h
  refine ⟨T, P, ρ, fs, rp, ?_⟩
  cases e1 : f ρ with
  | bad => rw [e1] at q; exact q
  | ex x ρ' => rw [e1] at q; exact q
  | ok a ρ1 => rw [e1] at q; exact fun v H2 fs2 l ra g => hq _ _ (q v H2 fs2 l ra g)
def opDget (kvs : List (Str × Dat)) (x : OT) : Option OT := match x with
  | .fz (.str s) => (seen kvs s).map .fz
  | _ => none
end Lay
namespace Lay
open PySem PySem.Spec L2
theorem RepDs.len {K : PySem.W.Frag} {G : Hp} : ∀ {ds : List Dat} {vs : List V}, RepDs K G ds vs → ds.length = vs.length
  | [], vs, h => by rw [show vs = [] from h]; rfl
  | d :: r, vs, h => by
    obtain ⟨v, r', rfl, _, q⟩ := h
    rw [List.length_cons, List.length_cons, RepDs.len q]
end Lay
namespace Lay
open PySem PySem.Spec L2
end Lay
namespace Lay
open PySem PySem.Spec L2
theorem ws_raise {c : Str} {fns : List Str} {fa : M (List Arg)} {ρ : Env} {D : En} (h : Wp fa ρ (fun as ρ1 => Wo (looks ρ1 as) fun os => Wo (excOf c fns os) fun x => D.ex x ρ1) D.ex) : Ws (sRaise c fns fa) ρ D := by
  with_unfolding_all
    unfold Wp at h
    unfold Ws sRaise
    cases e : fa ρ with
    | bad => rw [e] at h; exact h.elim
    | ex x ρ' => rw [e] at h; simp only [RS]; exact h
    | ok as ρ1 =>
      rw [e] at h
      simp only [RS]
      cases e1 : looks ρ1 as with
      | none => simp only [Wo, e1] at h
      | some os =>
        cases e2 : excOf c fns os with
        | none => simp only [Wo, e1, e2] at h
        | some x => simp only [Wo, e1, e2] at h ⊢; exact h
theorem o_TT {p : Str → Str → Bool} {a b : Str} {k : OT → Prop} (q : k (.fz (.bl (p a b)))) : Wo (opTT p (.fz (.str a)) (.fz (.str b))) k := wo rfl q
theorem w_gLs {gs : List TM} {os : List OT} {ρ : Env} {E : Exn → Env → Prop} {Q : Unit → Env → Prop} (hl : os.length = gs.length) (h : Wp (gSeq gs os) ρ Q E) : Wp (gLs gs (.lst os)) ρ Q E := by
  with_unfolding_all
    unfold Wp gLs
    simp only
    rw [if_pos hl]
    exact h
end Lay
namespace Lay
open PySem PySem.Spec L2
end Lay
namespace Lay
open PySem PySem.Spec L2
end Lay
namespace Lay
open PySem PySem.Spec L2
def zipD (xs ys : List Dat) : List Dat := (xs.zip ys).map fun p => .tup [p.1, p.2]
def iZipT (f : M (List Arg)) : IM := fun ρ => (f ρ).bind fun as ρ1 => match looks ρ1 as with
  | some [.fz (.tup xs), .fz (.tup ys)] => .ok (zipD xs ys, []) ρ1
  | _ => .bad
theorem zipD_get {xs ys : List Dat} {i : Nat} {x y : Dat} (h : xs[i]? = some x) (h2 : ys[i]? = some y) : (zipD xs ys)[i]? = some (.tup [x, y]) := by
  unfold zipD
  rw [List.getElem?_map, show (xs.zip ys)[i]? = some (x, y) from List.getElem?_zip_eq_some.mpr ⟨h, h2⟩]
  rfl
theorem walk_zipT2 {K : PySem.W.Frag} {a b : Addr} {xs ys : List V} {n : Nat} (hn : n = min xs.length ys.length) : Walk (RZ.ItzT K a b) n (fun H => SqT K H a xs ∧ SqT K H b ys) (YPair (fun i => xs[i]?) (fun i => ys[i]?)) := by
  subst hn
  refine ⟨fun i _ hi q => ?_, fun _ q => ⟨xs, ys, q.1, q.2, by omega⟩, fun i H v H' _ q y => ?_⟩
  · have h1 : i < xs.length := by omega
    have h2 : i < ys.length := by omega
    exact ⟨xs, ys, xs[i], ys[i], q.1, q.2, by simp [h1], by simp [h2]⟩
  · obtain ⟨T, x, z, h1, h2, h3, h4, h5⟩ := y
    exact ⟨T, x, z, h1, h2, h3, h4 xs q.1, h5 ys q.2⟩
section
variable {X : Cx} {W : WX} {e e2 : Expr} {f : M Arg} {fa : M (List Arg)} {p pos tpos : Pos} {elts : List Expr} {kk : Nat}
theorem di_zipT (hg : Gl X "zip") (hm : X.mg "zip" = none) (ha : DA X W [e, e2] fa) (hs : starEach [e, e2] X.env = (false, eval e X.env) :: starEach [e2] X.env := by rfl) (hpl : (backTo pos (starEach [e2] X.env)).any (·.1) = false := by rfl) :
    DI X W (.Tuple elts kk tpos) (.Call (.Name "zip" p) [e, e2] [] pos) (iZipT fa) := pi_imp (RZ.pi_zipA hg hm ha hs hpl) fun σ H Q ⟨T, P, ρ, fs, rp, q⟩ => by
  refine ⟨T, P, ρ, fs, rp, ?_⟩
  unfold iZipT at q
  cases e1 : fa ρ with
  | bad => rw [e1] at q; exact q
  | ex x ρ' => rw [e1] at q; exact q
  | ok as ρ1 =>
    rw [e1] at q
    simp only [R.bind] at q
    intro vv H1 fs1 l1 r1 f1
    cases c : looks ρ1 as with
    | none => simp only [c] at q; exact q.elim
    | some os =>
      simp only [c] at q
      split at q
      · rename_i xs ys hos
        have hos : os = [.fz (.tup xs), .fz (.tup ys)] := Option.some.inj hos
        subst hos
        have rv := see_all r1.rp r1.ar c
        obtain ⟨v1, r', g1, rfl, ⟨_, h1⟩, v2, r'', g2, rfl, ⟨_, h2⟩, h3⟩ := rv
        have h3 : r'' = [] := h3
        subst h3
        obtain ⟨b1, vs1, rfl, p1, p2⟩ := h1
        obtain ⟨b2, vs2, rfl, p3, p4⟩ := h2
        have rl := r1.rp.unl
        have exl : Ex (hide (Hd (Tl T l1) fs1) H1) (hide (Hd T fs1) H1) := hide_ex fun a x n e => ⟨fun z => n (z.imp Or.inl id), e⟩
        have ff : Fr H (Own fs) H1 (Own fs1) := f1.imp fun x z => .inr z
        have sq1 : ∀ H2, Kp σ H1 fs1 [] H2 → SqT X.K H2 b1 vs1 := fun H2 k => k.sqT (exl.sqT p1)
        have sq2 : ∀ H2, Kp σ H1 fs1 [] H2 → SqT X.K H2 b2 vs2 := fun H2 k => k.sqT (exl.sqT p3)
        have hlen : (zipD xs ys).length = min vs1.length vs2.length := by unfold zipD; rw [List.length_map, List.length_zip, p2.length, p4.length]
        refine ⟨b1, b2, vs1, vs2, rfl, .inr ⟨sq1 H1 Kp.refl, sq2 H1 Kp.refl, q _ H1 fs1 rl ff ⟨_, _, walk_zipT2 hlen, fun H2 k => ⟨sq1 H2 k, sq2 H2 k⟩, fun i H2 x H3 hi hk y => ?_⟩⟩⟩
        obtain ⟨t, x0, y0, rfl, hT, rfl, hx, hy⟩ := y
        obtain ⟨d1, e1, e2⟩ := p2.get hx
        obtain ⟨d2, e3, e4⟩ := p4.get hy
        refine ⟨fun a o e => by rw [upd_ne (ne_of_none e hT)]; exact e, _, zipD_get e1 e3, fun G' ex new => ?_⟩
        exact ⟨t, [x0, y0], rfl, .inl (.inl (new t _ hT upd_same)), _, _, rfl, RepD.mono ex d1 x0 (RepD.mono exl d1 x0 e2), _, _, rfl, RepD.mono ex d2 y0 (RepD.mono exl d2 y0 e4), rfl⟩
      · exact q.elim
end
end Lay
namespace Lay
open PySem PySem.Spec L2
end Lay
namespace Lay
open PySem PySem.Spec L2
end Lay
namespace Lay
open PySem PySem.Spec PyProof.Rows L2
end Lay
namespace Lay
open PySem PySem.Spec PyProof.Rows L2
end Lay
namespace Lay
open PySem PySem.Spec L2
end Lay
namespace Lay
open PySem PySem.Spec L2
end Lay
namespace Lay
open PySem PySem.Spec L2
theorem Wf.eq {F : FD} {os : List OT} {Q : OT → OT → Prop} (h : Wf F os Q nX) : ∃ r out, F os = .ok r out ∧ Q r out := by
  with_unfolding_all
    unfold Wf at h
    cases e : F os with
    | bad => rw [e] at h; exact h.elim
    | ex x out => rw [e] at h; exact h.elim
    | ok r out => rw [e] at h; exact ⟨r, out, rfl, h⟩
end Lay
namespace Lay
open PySem PySem.Spec L2
class NeN (i j : Nat) : Prop where
  ne : i ≠ j
instance NeN.zs {j : Nat} : NeN 0 (j + 1) := ⟨by omega⟩
instance NeN.sz {i : Nat} : NeN (i + 1) 0 := ⟨by omega⟩
instance NeN.ss {i j : Nat} [h : NeN i j] : NeN (i + 1) (j + 1) := ⟨by have := h.ne; omega⟩
class GetV (ρ : Env) (i : Nat) (s : outParam Sl) : Prop where
  eq : ρ[i]? = some s
instance GetV.z {s : Sl} {ρ : Env} : GetV (s :: ρ) 0 s := ⟨rfl⟩
instance GetV.s {t s : Sl} {ρ : Env} {i : Nat} [h : GetV ρ i s] : GetV (t :: ρ) (i + 1) s := ⟨by rw [List.getElem?_cons_succ]; exact h.eq⟩
instance (priority := low) GetV.setN {s t : Sl} {ρ : Env} {i j : Nat} [n : NeN i j] [h : GetV ρ j s] : GetV (ρ.set i t) j s := ⟨by rw [List.getElem?_set_ne n.ne]; exact h.eq⟩
instance (priority := high) GetV.setE {s t : Sl} {ρ : Env} {i : Nat} [h : GetV ρ i s] : GetV (ρ.set i t) i t := ⟨by
  have := h.eq
  rw [List.getElem?_set_self]
  exact (List.getElem?_eq_some_iff.mp this).1⟩
class SlV (s : Sl) (o : outParam OT) : Prop where
  eq : slv (some s) = some o
instance SlV.vl {o : OT} : SlV (.vl o) o := ⟨rfl⟩
instance SlV.io {o : OT} : SlV (.io o) o := ⟨rfl⟩
instance SlV.lk {o : OT} : SlV (.lk o) o := ⟨rfl⟩
/-- a slot that may be stored into -/
class StV (s : Sl) : Prop where
  eq : (match (some s : Option Sl) with | some .un => true | some (.vl _) => true | _ => false) = true
instance StV.un : StV .un := ⟨rfl⟩
instance StV.vl {o : OT} : StV (.vl o) := ⟨rfl⟩
/-- an operation's answer -/
class EV {α : Type} (o : Option α) (x : outParam α) : Prop where
  eq : o = some x
instance EV.slv {ρ : Env} {i : Nat} {s : Sl} {o : OT} [h : GetV ρ i s] [h2 : SlV s o] : EV (slv ρ[i]?) o := ⟨by rw [h.eq]; exact h2.eq⟩
instance EV.slot {ρ : Env} {i : Nat} {s : Sl} {o : OT} [h : GetV ρ i s] [h2 : SlV s o] : EV (look ρ (.slot i)) o := ⟨by show Lay.slv ρ[i]? = some o; rw [h.eq]; exact h2.eq⟩
instance EV.tmp {ρ : Env} {o : OT} : EV (look ρ (.tmp o)) o := ⟨rfl⟩
instance EV.looks_nil {ρ : Env} : EV (looks ρ []) [] := ⟨rfl⟩
instance EV.looks_cons {ρ : Env} {a : Arg} {r : List Arg} {x : OT} {xs : List OT} [h1 : EV (look ρ a) x] [h2 : EV (looks ρ r) xs] : EV (looks ρ (a :: r)) (x :: xs) := ⟨by unfold looks; rw [h1.eq, h2.eq]⟩
instance EV.take_tmp {ρ : Env} {o : OT} : EV (take1 ρ (.tmp o)) (o, ρ) := ⟨rfl⟩
instance EV.take_vl {ρ : Env} {i : Nat} {d : Dat} [h : GetV ρ i (.vl (.fz d))] : EV (take1 ρ (.slot i)) (.fz d, ρ) := ⟨by simp only [take1, h.eq]⟩
instance EV.take_io {ρ : Env} {i : Nat} {d : Dat} [h : GetV ρ i (.io (.fz d))] : EV (take1 ρ (.slot i)) (.fz d, ρ) := ⟨by simp only [take1, h.eq]⟩
instance EV.take_lk {ρ : Env} {i : Nat} {d : Dat} [h : GetV ρ i (.lk (.fz d))] : EV (take1 ρ (.slot i)) (.fz d, ρ) := ⟨by simp only [take1, h.eq]⟩
instance EV.takes_nil {ρ : Env} : EV (takes ρ []) ([], ρ) := ⟨rfl⟩
instance EV.takes_cons {ρ ρ1 ρ2 : Env} {a : Arg} {r : List Arg} {x : OT} {xs : List OT} [h1 : EV (take1 ρ a) (x, ρ1)] [h2 : EV (takes ρ1 r) (xs, ρ2)] : EV (takes ρ (a :: r)) (x :: xs, ρ2) := ⟨by unfold takes; rw [h1.eq]; simp only [h2.eq]⟩
instance EV.asB {b : Bool} : EV (asB (.fz (.bl b))) b := ⟨rfl⟩
instance EV.asS {b : Str} : EV (asS (.fz (.str b))) b := ⟨rfl⟩
instance EV.tru_bl {b : Bool} : EV (truO (.fz (.bl b))) b := ⟨rfl⟩
instance EV.tru_non : EV (truO (.fz .non)) false := ⟨rfl⟩
instance EV.as1I {i : Int} : EV (as1I [.fz (.int i)]) i := ⟨rfl⟩
instance EV.as2I {i j : Int} : EV (as2I [.fz (.int i), .fz (.int j)]) (i, j) := ⟨rfl⟩
instance EV.give_tmp {ρ : Env} {o : OT} : EV (giveBack ρ (.tmp o)) (o, ρ) := ⟨rfl⟩
instance EV.give_vl {ρ : Env} {i : Nat} {o : OT} [h : GetV ρ i (.vl o)] : EV (giveBack ρ (.slot i)) (o, ρ.set i .un) := ⟨by simp only [giveBack, h.eq]⟩
instance EV.out_none {ρ : Env} : EV (outOf none ρ) (.fz .non) := ⟨rfl⟩
instance EV.out_some {ρ : Env} {i : Nat} {o : OT} [h : GetV ρ i (.io o)] : EV (outOf (some i) ρ) o := ⟨by unfold outOf; simp only [h.eq]⟩
instance EV.put_vl {ρ : Env} {i : Nat} {o x : OT} [h : GetV ρ i (.vl o)] : EV (putS ρ i x) (ρ.set i (.vl x)) := ⟨by unfold putS; rw [h.eq]⟩
instance EV.put_io {ρ : Env} {i : Nat} {o x : OT} [h : GetV ρ i (.io o)] : EV (putS ρ i x) (ρ.set i (.io x)) := ⟨by unfold putS; rw [h.eq]⟩
instance EV.asIx {ρ : Env} {a : Arg} {i : Int} [h : EV (look ρ a) (.fz (.int i))] : EV (asIx ρ a) i := ⟨by unfold Lay.asIx; rw [h.eq]; rfl⟩
/-- a test's answer -/
class TT (b : Bool) : Prop where
  eq : b = true
instance TT.str {s : Str} : TT (tyO "str" (.fz (.str s))) := ⟨rfl⟩
instance TT.int {s : Int} : TT (tyO "int" (.fz (.int s))) := ⟨rfl⟩
instance TT.lst {s : List OT} : TT (tyO "list" (.lst s)) := ⟨rfl⟩
instance TT.lstD {s : List Dat} : TT (tyO "list" (.fz (.lst s))) := ⟨rfl⟩
section
variable {α : Type} {ρ : Env} {E : Exn → Env → Prop}
theorem wo_ev {o : Option α} {x : α} {k : α → Prop} [h : EV o x] (q : k x) : Wo o k := wo h.eq q
theorem w_varE {i : Nat} {s : Sl} {o : OT} {Q : Arg → Env → Prop} [h : GetV ρ i s] [h2 : SlV s o] (q : Q (.slot i) ρ) : Wp (xVar i) ρ Q E := w_var (by rw [h.eq]; exact h2.eq) q
theorem w_gNmE {i : Nat} {s : Sl} {o : OT} {Q : Unit → Env → Prop} [h : GetV ρ i s] [h2 : StV s] (q : Q () (ρ.set i (.vl o))) : Wp (gNm i o) ρ Q E := w_gNm (by rw [h.eq]; exact h2.eq) q
theorem and_tt {b : Bool} {q : Prop} [h : TT b] (k : q) : b = true ∧ q := ⟨h.eq, k⟩
end
theorem id_o {α : Type} {o : Option α} {k : α → Prop} (h : Wo o k) : Wo o k := h
theorem id_p {α : Type} {f : M α} {ρ : Env} {Q : α → Env → Prop} {E : Exn → Env → Prop} (h : Wp f ρ Q E) : Wp f ρ Q E := h
theorem id_s {g : SM} {ρ : Env} {D : En} (h : Ws g ρ D) : Ws g ρ D := h
theorem id_a {a b : Prop} (h : a ∧ b) : a ∧ b := h
theorem id_e {α : Type} {p : α → Prop} (h : ∃ a, p a) : ∃ a, p a := h
theorem id_b {b : Bool} {A B : Prop} (h : Br b A B) : Br b A B := h
end Lay
namespace Lay
open PySem PySem.Spec L2
mutual
theorem hN_eq (w : World) : ∀ k : NestedKey, okN k = true → k.hash w = hN k
  | .none, _ => rfl
  | .num _, _ => rfl
  | .text _, h => by cases h
  | .tup ks, h => by
    unfold okN at h
    rw [NestedKey.hash, hN, hNs_eq w ks h]
theorem hNs_eq (w : World) : ∀ ks : List NestedKey, okNs ks = true → NestedKey.hashes w ks = hNs ks
  | [], _ => rfl
  | k :: r, h => by
    unfold okNs at h
    rw [Bool.and_eq_true] at h
    rw [NestedKey.hashes, hNs, hN_eq w k h.1, hNs_eq w r h.2]
end
section
variable {X : Cx} {pins : List (Addr × Obj)} {σ : St} {H : Hp} {s : Shared}
mutual
theorem krep_is (I : Inv X pins σ H s) : ∀ (k : NestedKey) (v : V) (u : Value), KRep X.K H k v → RelV v u → NestedIs s.heap k u
  | .none, v, u, h, r => by
    cases (show v = .non from h)
    cases (show u = Value.none from r)
    exact .none
  | .num i, v, u, h, r => by
    cases (show v = .int i from h)
    obtain ⟨t, rfl⟩ := (show ∃ t, u = Value.int i t from r)
    exact .int i t
  | .text x, v, u, h, r => by
    cases (show v = .str x from h)
    obtain ⟨t, rfl⟩ := (show ∃ t, u = Value.str x t from r)
    exact .text x t
  | .tup ks, v, u, h, r => by
    obtain ⟨a, vs, rfl, q, z⟩ := h
    cases (show u = Value.ref a from r)
    obtain ⟨its, rel, ⟨o, e, hc, n, hd⟩, _⟩ := I.tuple q
    exact .tup e hc hd (by simpa using kreps_is I ks vs its z rel)
theorem kreps_is (I : Inv X pins σ H s) : ∀ (ks : List NestedKey) (vs : List V) (us : List Value), KReps X.K H ks vs → Vals vs us → NestedAll s.heap ks us
  | [], vs, us, h, r => by
    cases (show vs = [] from h)
    cases r
    exact .nil
  | k :: ks, vs, us, h, r => by
    obtain ⟨v, r', rfl, q1, q2⟩ := h
    cases r with
    | cons h1 h2 => exact .cons (krep_is I k v _ q1 h1) (kreps_is I ks r' _ q2 h2)
end
/-- the entries as the library wants them -/
abbrev NE (es : List NEnt) : List (NestedKey × Addr × Value) → Prop := Paired (fun (e : NEnt) (x : NestedKey × Addr × Value) => e.1 = x.1 ∧ e.2.1 = x.2.1 ∧ RelV e.2.2 x.2.2) es
theorem NE.keys {es : List NEnt} {xs : List (NestedKey × Addr × Value)} (r : NE es xs) : es.map (·.1) = xs.map (·.1) := by
  induction r with
  | nil => rfl
  | cons h t ih => rw [List.map_cons, List.map_cons, ih, h.1]
theorem nd_split {w : World} {prog : Program} : ∀ {es : List NEnt} {l : List DictEntry}, (∀ e ∈ es, okN e.1 = true) →
    Paired (fun (e : NEnt) (x : DictEntry) => x.hash = hN e.1 ∧ x.key = .ref e.2.1 ∧ RelV e.2.2 x.val) es l → ∃ xs, NE es xs ∧ l = xs.map (entryOfKey (nestedKind prog w))
  | [], _, _, .nil => ⟨[], .nil, rfl⟩
  | e :: es, x :: l, ok, .cons h t => by
    obtain ⟨xs, r, q⟩ := nd_split (w := w) (prog := prog) (fun e he => ok e (List.mem_cons_of_mem _ he)) t
    refine ⟨(e.1, e.2.1, x.val) :: xs, .cons ⟨rfl, rfl, h.2.2⟩ r, ?_⟩
    rw [List.map_cons, ← q]
    obtain ⟨h1, h2, h3⟩ := h
    cases x
    simp only at h1 h2
    subst h1 h2
    simp only [entryOfKey, nestedKind, hN_eq w e.1 (ok e List.mem_cons_self)]
theorem ne_mem {es : List NEnt} {xs : List (NestedKey × Addr × Value)} (r : NE es xs) : ∀ x ∈ xs, ∃ e ∈ es, e.1 = x.1 ∧ e.2.1 = x.2.1 := by
  induction r with
  | nil => intro x hx; exact nomatch hx
  | @cons e y es xs h t ih =>
    intro x hx
    rcases List.mem_cons.mp hx with e1 | hx
    · subst e1; exact ⟨e, List.mem_cons_self, h.1, h.2.1⟩
    · obtain ⟨e', he, q⟩ := ih x hx
      exact ⟨e', List.mem_cons_of_mem _ he, q⟩
theorem nkey_is (I : Inv X pins σ H s) {k : NestedKey} {a : Addr} (h : KRep X.K H k (.ref a)) (hd : k.depth ≤ 8) : (nestedKind X.prog X.w).is s.heap k a := ⟨krep_is I k _ _ h rfl, hd⟩
/-- the dict in the heap -/
theorem nd_of (I : Inv X pins σ H s) {a : Addr} {es : List NEnt} (e : Rd H a (nO a es)) (kk : NKeys X.K H es) : (a == sysModules) = false ∧ es.length ≤ sizeLine ∧ ∃ xs, NE es xs ∧ s.heap.DictOfH (nestedKind X.prog X.w) a xs := by
  obtain ⟨⟨h1, h2, o, xs, ep, g1, g2, g3, g4⟩, _, _⟩ := (show NDict a es s.heap ∧ _ ∧ _ from rd_of I.hok e)
  obtain ⟨ys, r, q⟩ := nd_split (w := X.w) (prog := X.prog) (fun e he => (kk.key e he).2.1) g4
  refine ⟨h1, h2, ys, r, o, xs, ep, g1, g2, g3, q, fun x hx => ?_, ?_⟩
  · obtain ⟨e, he, q1, q2⟩ := ne_mem r x hx
    rw [← q1, ← q2]
    exact nkey_is I (kk.key e he).1 (kk.key e he).2.2
  · rw [← r.keys]; exact kk.nodup
/-- the dict at a has these entries; one without entries may be of any kind -/
def NAt (K : PySem.W.Frag) (H : Hp) (a : Addr) (es : List NEnt) : Prop := (Rd H a (nO a es) ∧ NKeys K H es) ∨ (Rd H a (.dK []) ∧ es = [])
/-- .. and it is its owner's -/
def NOw (K : PySem.W.Frag) (H : Hp) (a : Addr) (es : List NEnt) : Prop := (H a = some (nO a es) ∧ NKeys K H es) ∨ (H a = some (.dK []) ∧ es = [])
theorem NOw.at {K : PySem.W.Frag} {H : Hp} {a : Addr} {es : List NEnt} (h : NOw K H a es) : NAt K H a es := h.imp (fun h => ⟨.inl h.1, h.2⟩) fun h => ⟨.inl h.1, h.2⟩
theorem NOw.mut {K : PySem.W.Frag} {H : Hp} {a : Addr} {es : List NEnt} (h : NOw K H a es) : Mut (H a) := by
  rcases h with ⟨h, _⟩ | ⟨h, _⟩ <;> rw [h] <;> exact True.intro
theorem NAt.okN {K : PySem.W.Frag} {H : Hp} {a : Addr} {es : List NEnt} (h : NAt K H a es) : ∀ e ∈ es, okN e.1 = true := by
  rcases h with ⟨_, h⟩ | ⟨_, h⟩
  · exact fun e he => (h.key e he).2.1
  · subst h; intro e he; cases he
theorem nat_of (I : Inv X pins σ H s) {a : Addr} {es : List NEnt} (e : NAt X.K H a es) : (a == sysModules) = false ∧ es.length ≤ sizeLine ∧ ∃ xs, NE es xs ∧ s.heap.DictOfH (nestedKind X.prog X.w) a xs := by
  rcases e with ⟨e, kk⟩ | ⟨e, rfl⟩
  · exact nd_of I e kk
  · obtain ⟨z, hd, vs, rel, o, l, ep, h1, h2, h3, h4, h5⟩ := dk_rd I.hok e
    cases rel
    have h6 : l.toList = [] := by
      obtain ⟨h5, _⟩ := h5
      generalize l.toList = q at h5
      cases q with
      | nil => rfl
      | cons x r => cases h5
    exact ⟨hd, Nat.zero_le _, [], .nil, o, l, ep, h1, h2, h3, h6, (fun x hx => nomatch hx), List.nodup_nil⟩
end
def valN (es : List NEnt) (k : NestedKey) : Option V := (es.find? fun e => decide (e.1 = k)).map (·.2.2)
def setN (k : NestedKey) (v : V) (e : NEnt) : NEnt := if e.1 = k then (e.1, e.2.1, v) else e
def putN (es : List NEnt) (k : NestedKey) (b : Addr) (v : V) : List NEnt := if (valN es k).isSome then es.map (setN k v) else es ++ [(k, b, v)]
def dropN (es : List NEnt) (k : NestedKey) : List NEnt := es.filter fun e => decide (e.1 ≠ k)
theorem NE.val {es : List NEnt} {xs : List (NestedKey × Addr × Value)} (r : NE es xs) (k : NestedKey) : RelO (valN es k) ((atKey xs k).map (·.2)) := by
  induction r with
  | nil => exact True.intro
  | @cons p q ps qs h t ih =>
    obtain ⟨h1, _, h2⟩ := h
    by_cases e : p.1 = k
    · have e' : q.1 = k := h1.symm.trans e
      have b : atKey (q :: qs) k = some q.2 := by simp [atKey, List.find?_cons, e']
      have c : valN (p :: ps) k = some p.2.2 := by simp [valN, List.find?_cons, e]
      rw [c, b]; exact h2
    · have e' : ¬ q.1 = k := fun z => e (h1.trans z)
      have b : atKey (q :: qs) k = atKey qs k := by simp [atKey, List.find?_cons, e']
      have c : valN (p :: ps) k = valN ps k := by simp [valN, List.find?_cons, e]
      rw [c, b]; exact ih
theorem NE.put {es : List NEnt} {xs : List (NestedKey × Addr × Value)} (r : NE es xs) (k : NestedKey) {b : Addr} {y : V} {u : Value} (ry : RelV y u) : NE (putN es k b y) (storedH xs k b u) := by
  have e : (valN es k).isSome = (atKey xs k).isSome := by rw [(r.val k).isSome_eq, Option.isSome_map]
  unfold putN storedH
  rw [e]
  by_cases q : (atKey xs k).isSome = true
  · rw [if_pos q, if_pos q]
    clear e q
    induction r with
    | nil => exact .nil
    | @cons p q ps qs h t ih =>
      rw [List.map_cons, List.map_cons]
      refine .cons ?_ ih
      obtain ⟨h1, h2, h3⟩ := h
      unfold putAt setN
      by_cases e : p.1 = k
      · rw [if_pos e, if_pos (h1.symm.trans e)]; exact ⟨h1, h2, ry⟩
      · rw [if_neg e, if_neg (fun z => e (h1.trans z))]; exact ⟨h1, h2, h3⟩
  · rw [if_neg q, if_neg q]; exact Paired.snoc r ⟨rfl, rfl, ry⟩
theorem NE.drop {es : List NEnt} {xs : List (NestedKey × Addr × Value)} (r : NE es xs) (k : NestedKey) : NE (dropN es k) (withoutH xs k) := by
  unfold dropN withoutH
  induction r with
  | nil => exact .nil
  | @cons p q ps qs h t ih =>
    obtain ⟨h1, h2⟩ := h
    rw [List.filter_cons, List.filter_cons]
    by_cases e : p.1 = k
    · have a : ¬ decide (p.1 ≠ k) = true := by simp [e]
      have b : ¬ decide (q.1 ≠ k) = true := by simp [h1.symm.trans e]
      rw [if_neg a, if_neg b]; exact ih
    · have e' : ¬ q.1 = k := fun z => e (h1.trans z)
      have a : decide (p.1 ≠ k) = true := by simp [e]
      have b : decide (q.1 ≠ k) = true := by simp [e']
      rw [if_pos a, if_pos b]; exact .cons ⟨h1, h2⟩ ih
theorem length_putN (es : List NEnt) (k : NestedKey) (b : Addr) (v : V) : (putN es k b v).length ≤ es.length + 1 := by
  unfold putN
  split
  · rw [List.length_map]; omega
  · rw [List.length_append, List.length_cons, List.length_nil]; omega
theorem dropN_le (es : List NEnt) (k : NestedKey) : (dropN es k).length ≤ es.length := List.length_filter_le _ _
/-- an object of entries -/
theorem nd_new {P : Program} {w : World} {H' : Hp} {h' : Heap} {a : Addr} {es : List NEnt} {xs : List (NestedKey × Addr × Value)} (hd : (a == sysModules) = false) (z : es.length ≤ sizeLine) (ok : ∀ e ∈ es, okN e.1 = true) (rel : NE es xs)
    (dd : h'.DictOfH (nestedKind P w) a xs) : ObjOk P w H' h' a (nO a es) := by
  obtain ⟨o, l, ep, g1, g2, g3, g4, g5, g6⟩ := dd
  have q : Paired (fun (e : NEnt) (x : DictEntry) => x.hash = hN e.1 ∧ x.key = .ref e.2.1 ∧ RelV e.2.2 x.val) es l.toList := by
    rw [g4]
    clear g4 g3 z g5 g6
    induction rel with
    | nil => exact .nil
    | @cons p x ps qs h t ih =>
      rw [List.map_cons]
      refine .cons ⟨?_, ?_, h.2.2⟩ (ih fun e he => ok e (List.mem_cons_of_mem _ he))
      · show x.1.hash w = hN p.1
        rw [← h.1]; exact hN_eq w p.1 (ok p List.mem_cons_self)
      · show Value.ref x.2.1 = _
        rw [h.2.1]
  refine ⟨⟨hd, z, o, l, ep, g1, g2, g3, q⟩, ⟨o, g1⟩, fun h1 h2 ⟨e1, e2, o', l', ep', k1, k2⟩ hk => ⟨e1, e2, o', l', ep', hk _ k1, k2⟩⟩
section
variable {X : Cx} {pins : List (Addr × Obj)} {σ : St} {H : Hp} {s : Shared} {a b : Addr} {es : List NEnt} {k : NestedKey} {A : Around} {E : Value → Shared → Prop}
theorem nd_in {Q : Value → Shared → Prop} (hu : A.in1.units + 8 < cLine) (I : Inv X pins σ H s) (e : NAt X.K H a es) (kb : KRep X.K H k (.ref b)) (hdp : k.depth ≤ 8)
    (h : ∀ s', Inv X pins σ H s' → Q (.bool (valN es k).isSome) s') : wpAny (model X.prog X.w) A (compareOp .In (.ref b) (.ref a)) Q E s := by
  obtain ⟨hd, z, xs, rel, dd⟩ := nat_of I e
  refine wpAny_in_heap hu (nkey_is I kb hdp) hd dd ?_
  have q := (rel.val k).isSome_eq
  rw [Option.isSome_map] at q
  rw [← q]
  exact h _ (I.tok _)
theorem nd_notIn {Q : Value → Shared → Prop} (hu : A.in1.units + 8 < cLine) (I : Inv X pins σ H s) (e : NAt X.K H a es) (kb : KRep X.K H k (.ref b)) (hdp : k.depth ≤ 8)
    (h : ∀ s', Inv X pins σ H s' → Q (.bool (!(valN es k).isSome)) s') : wpAny (model X.prog X.w) A (compareOp .NotIn (.ref b) (.ref a)) Q E s := by
  obtain ⟨hd, z, xs, rel, dd⟩ := nat_of I e
  show wpAny _ _ (do return .bool (!(← contains (.ref a) (.ref b)))) Q E s
  refine wpAny_bind (wpAny_contains_heap hu (nkey_is I kb hdp) hd dd (wpAny_pure ?_))
  have q := (rel.val k).isSome_eq
  rw [Option.isSome_map] at q
  rw [← q]
  exact h _ (I.tok _)
theorem nd_setItem {v : V} {r : Value} {Q : Unit → Shared → Prop} (hu : A.in1.units + 8 < cLine) (I : Inv X pins σ H s) (e : NOw X.K H a es) (kb : KRep X.K H k (.ref b)) (hdp : k.depth ≤ 8) (ho : okN k = true) (hl : es.length < sizeLine) (rv : RelV v r)
    (h : ∀ s', Inv X pins σ (upd H a (nO a (putN es k b v))) s' → Q () s') : wpAny (model X.prog X.w) A (setItem (.ref a) (.ref b) r) Q E s := by
  obtain ⟨hd, z, xs, rel, dd⟩ := nat_of I e.at
  have hz : xs.length ≤ sizeLine := by rw [← Paired.length rel]; exact z
  have hl' : (putN es k b v).length ≤ sizeLine := by have := length_putN es k b v; omega
  refine wpAny_setItem_heap (hsz := hz) hu (nkey_is I kb hdp) dd fun h' dd' hs => h _ ?_
  have he : ∃ q, h'.get? a = some q := let ⟨q, _, _, hq, _⟩ := dd'; ⟨q, hq⟩
  refine d_write I e.mut hs he (nd_new hd hl' (fun x hx => ?_) (rel.put k rv) dd')
  unfold putN at hx
  by_cases c : (valN es k).isSome = true
  · rw [if_pos c] at hx
    obtain ⟨y, hy, rfl⟩ := List.mem_map.mp hx
    unfold setN
    split <;> exact e.at.okN y hy
  · rw [if_neg c] at hx
    rcases List.mem_append.mp hx with hx | hx
    · exact e.at.okN x hx
    · cases List.mem_singleton.mp hx; exact ho
theorem nd_delItem {Q : Unit → Shared → Prop} (hu : A.in1.units + 8 < cLine) (I : Inv X pins σ H s) (e : NOw X.K H a es) (kb : KRep X.K H k (.ref b)) (hdp : k.depth ≤ 8) (l : (valN es k).isSome = true)
    (h : ∀ s', Inv X pins σ (upd H a (nO a (dropN es k))) s' → Q () s') : wpAny (model X.prog X.w) A (delItem (.ref a) (.ref b)) Q E s := by
  obtain ⟨hd, z, xs, rel, dd⟩ := nat_of I e.at
  have hz : xs.length ≤ sizeLine := by rw [← Paired.length rel]; exact z
  obtain ⟨v, hv⟩ := Option.isSome_iff_exists.mp l
  obtain ⟨w', hw, rw'⟩ := RelO.some_of (v := v) (o := (atKey xs k).map (·.2)) (by rw [← hv]; exact rel.val k)
  obtain ⟨p, hp, hp2⟩ := Option.map_eq_some_iff.mp hw
  refine wpAny_delItem_heap (hsz := hz) hu (nkey_is I kb hdp) hd dd hp fun h' dd' hs => h _ ?_
  have he : ∃ q, h'.get? a = some q := let ⟨q, _, _, hq, _⟩ := dd'; ⟨q, hq⟩
  exact d_write I e.mut hs he (nd_new hd (Nat.le_trans (dropN_le es k) z) (fun x hx => e.at.okN x (List.mem_filter.mp hx).1) (rel.drop k) dd')
/-- d.get(k, x) -/
theorem nd_getD {y : V} {r : Value} {Q : Value → Shared → Prop} (hu : A.in1.units + 8 < cLine) (I : Inv X pins σ H s) (e : NAt X.K H a es) (kb : KRep X.K H k (.ref b)) (hdp : k.depth ≤ 8) (ry : RelV y r)
    (h : ∀ w' s', Inv X pins σ H s' → RelV ((valN es k).getD y) w' → Q w' s') : wpAny (model X.prog X.w) A (call (.builtin "dict.get") [.ref a, .ref b, r]) Q E s := by
  obtain ⟨hd, z, xs, rel, dd⟩ := nat_of I e
  exact call_meetsIn F.slot_dict_get dd.typeIs F.entry_dict_get (F.args_dict_get_3 _ _ _) (meetsH_dict_get_default (nestedKind X.prog X.w) a b hd r) ⟨hu, k, xs, nkey_is I kb hdp, dd, h _ _ (I.tok _) ((rel.val k).getD ry)⟩
theorem nd_get {Q : Value → Shared → Prop} (hu : A.in1.units + 8 < cLine) (I : Inv X pins σ H s) (e : NAt X.K H a es) (kb : KRep X.K H k (.ref b)) (hdp : k.depth ≤ 8)
    (h : ∀ w' s', Inv X pins σ H s' → RelV ((valN es k).getD .non) w' → Q w' s') : wpAny (model X.prog X.w) A (call (.builtin "dict.get") [.ref a, .ref b]) Q E s := by
  obtain ⟨hd, z, xs, rel, dd⟩ := nat_of I e
  exact call_meetsIn F.slot_dict_get dd.typeIs F.entry_dict_get (F.args_dict_get_2 _ _) (meetsH_dict_get (nestedKind X.prog X.w) a b hd) ⟨hu, k, xs, nkey_is I kb hdp, dd, h _ _ (I.tok _) ((rel.val k).getD rfl)⟩
/-- len(d) -/
theorem nd_len {Q : Value → Shared → Prop} (I : Inv X pins σ H s) (e : NAt X.K H a es) (h : ∀ t s', Inv X pins σ H s' → Q (.int es.length t) s') : wpAny (model X.prog X.w) A (call (.builtin "len") [.ref a]) Q E s := by
  obtain ⟨hd, z, xs, rel, dd⟩ := nat_of I e
  refine call_len_dictH hd dd (by rw [← Paired.length rel]; rw [sizeLine_eq] at z; omega) ?_
  rw [← Paired.length rel]
  exact h _ _ (I.tok _)
end
end Lay
namespace Lay
open PySem PySem.Spec L2
mutual
def nk : Dat → Option NestedKey
  | .non => some .none
  | .int i => some (.num i)
  | .tup xs => match nks xs with
    | some ks => some (.tup ks)
    | none => none
  | _ => none
def nks : List Dat → Option (List NestedKey)
  | [] => some []
  | d :: r => match nk d, nks r with
    | some k, some ks => some (k :: ks)
    | _, _ => none
end
mutual
theorem nk_rep {K : PySem.W.Frag} {G : Hp} : ∀ (d : Dat) (v : V) (k : NestedKey), nk d = some k → RepD K G d v → KRep K G k v ∧ okN k = true ∧ kN k = d
  | .non, _, _, h, r => by cases h; exact ⟨r, rfl, rfl⟩
  | .int i, _, _, h, r => by cases h; exact ⟨r, rfl, rfl⟩
  | .tup xs, v, k, h, r => by
    unfold nk at h
    cases e : nks xs with
    | none => rw [e] at h; cases h
    | some ks =>
      rw [e] at h
      cases h
      obtain ⟨a, vs, rfl, q, z⟩ := r
      obtain ⟨h1, h2, h3⟩ := nks_rep xs vs ks e z
      exact ⟨⟨a, vs, rfl, q, h1⟩, by unfold okN; exact h2, by unfold kN; rw [h3]⟩
  | .bl _, _, _, h, _ => by cases h
  | .str _, _, _, h, _ => by cases h
  | .lst _, _, _, h, _ => by cases h
  | .dic _, _, _, h, _ => by cases h
  | .kst _, _, _, h, _ => by cases h
theorem nks_rep {K : PySem.W.Frag} {G : Hp} : ∀ (ds : List Dat) (vs : List V) (ks : List NestedKey), nks ds = some ks → RepDs K G ds vs → KReps K G ks vs ∧ okNs ks = true ∧ kNs ks = ds
  | [], vs, _, h, r => by cases h; exact ⟨r, rfl, rfl⟩
  | d :: ds, vs, ks, h, r => by
    obtain ⟨v, r', rfl, q1, q2⟩ := r
    unfold nks at h
    cases e1 : nk d with
    | none => rw [e1] at h; cases h
    | some k =>
      cases e2 : nks ds with
      | none => rw [e1, e2] at h; cases h
      | some kr =>
        rw [e1, e2] at h
        cases h
        obtain ⟨a1, a2, a3⟩ := nk_rep d v k e1 q1
        obtain ⟨b1, b2, b3⟩ := nks_rep ds r' kr e2 q2
        exact ⟨⟨v, r', rfl, a1, b1⟩, by unfold okNs; rw [a2, b2]; rfl, by unfold kNs; rw [a3, b3]⟩
end
/-- a tuple that may be a key -/
def keyT (d : Dat) : Option NestedKey := match nk d with
  | some (.tup ks) => if (NestedKey.tup ks).depth ≤ 8 then some (.tup ks) else none
  | _ => none
theorem keyT_rep {K : PySem.W.Frag} {G : Hp} {d : Dat} {v : V} {k : NestedKey} (h : keyT d = some k) (r : RepD K G d v) : (∃ b, v = .ref b) ∧ KRep K G k v ∧ okN k = true ∧ k.depth ≤ 8 ∧ kN k = d := by
  unfold keyT at h
  cases e : nk d with
  | none => rw [e] at h; cases h
  | some k' =>
    rw [e] at h
    cases k' with
    | tup ks =>
      simp only at h
      split at h
      · rename_i hd
        cases h
        obtain ⟨h1, h2, h3⟩ := nk_rep d v _ e r
        obtain ⟨b, vs, rfl, hh⟩ := h1
        exact ⟨⟨b, rfl⟩, ⟨b, vs, rfl, hh⟩, h2, hd, h3⟩
      · cases h
    | _ => cases h
mutual
def keq : Dat → Dat → Bool
  | .non, .non => true
  | .int i, .int j => decide (i = j)
  | .tup xs, .tup ys => keqs xs ys
  | _, _ => false
def keqs : List Dat → List Dat → Bool
  | [], [] => true
  | x :: xs, y :: ys => keq x y && keqs xs ys
  | _, _ => false
end
mutual
theorem keq_kN : ∀ a b : NestedKey, okN a = true → okN b = true → keq (kN a) (kN b) = decide (a = b)
  | .none, b, _, h => by cases b <;> simp [kN, keq, okN] at h ⊢
  | .num i, b, _, h => by cases b <;> simp [kN, keq, okN] at h ⊢
  | .text _, _, h, _ => by cases h
  | .tup xs, .tup ys, h1, h2 => by
    have g1 : okNs xs = true := by unfold okN at h1; exact h1
    have g2 : okNs ys = true := by unfold okN at h2; exact h2
    simp only [kN, keq, keqs_kNs xs ys g1 g2, NestedKey.tup.injEq]
  | .tup xs, .none, _, _ => by simp [kN, keq]
  | .tup xs, .num _, _, _ => by simp [kN, keq]
  | .tup xs, .text _, _, h => by cases h
theorem keqs_kNs : ∀ a b : List NestedKey, okNs a = true → okNs b = true → keqs (kNs a) (kNs b) = decide (a = b)
  | [], [], _, _ => by simp [kNs, keqs]
  | [], _ :: _, _, _ => by simp [kNs, keqs]
  | _ :: _, [], _, _ => by simp [kNs, keqs]
  | x :: xs, y :: ys, h1, h2 => by
    unfold okNs at h1 h2
    rw [Bool.and_eq_true] at h1 h2
    simp only [kNs, keqs, keq_kN x y h1.1 h2.1, keqs_kNs xs ys h1.2 h2.2, List.cons.injEq, Bool.decide_and]
end
def getK {β : Type} (kvs : List (Dat × β)) (d : Dat) : Option β := match kvs with
  | [] => none
  | (k, x) :: r => if keq k d then some x else getK r d
def putK1 {β : Type} (kvs : List (Dat × β)) (d : Dat) (y : β) : List (Dat × β) := match kvs with
  | [] => [(d, y)]
  | (k, x) :: r => if keq k d then (k, y) :: r else (k, x) :: putK1 r d y
def delK {β : Type} (kvs : List (Dat × β)) (d : Dat) : List (Dat × β) := match kvs with
  | [] => []
  | (k, x) :: r => if keq k d then r else (k, x) :: delK r d
end Lay
namespace Lay
open PySem PySem.Spec L2
def EP (es : List NEnt) : List (Dat × V) := es.map fun e => (kN e.1, e.2.2)
theorem RepDk.get {K : PySem.W.Frag} {G : Hp} {k : NestedKey} (hk : okN k = true) : ∀ {kvs : List (Dat × Dat)} {es : List NEnt}, (∀ e ∈ es, okN e.1 = true) → RepDk K G kvs (EP es) →
    (∀ d, getK kvs (kN k) = some d → ∃ v, valN es k = some v ∧ RepD K G d v) ∧ (getK kvs (kN k) = none → valN es k = none)
  | [], [], _, _ => ⟨fun _ h => (by cases h), fun _ => rfl⟩
  | [], _ :: _, _, h => by cases h
  | (_, _) :: _, [], _, h => by obtain ⟨v, r', e, _⟩ := h; cases e
  | (k0, d0) :: kvs, e :: es, ok, h => by
    obtain ⟨v, r', q, hd, hr⟩ := h
    have q1 : (kN e.1, e.2.2) = (k0, v) ∧ EP es = r' := by
      have := List.cons.inj (show (kN e.1, e.2.2) :: EP es = (k0, v) :: r' from q)
      exact this
    obtain ⟨q1, q2⟩ := q1
    obtain ⟨q1, q3⟩ := Prod.mk.inj q1
    subst q1 q3 q2
    have ih := RepDk.get hk (kvs := kvs) (es := es) (fun x hx => ok x (List.mem_cons_of_mem _ hx)) hr
    have hq := keq_kN e.1 k (ok e List.mem_cons_self) hk
    by_cases c : e.1 = k
    · have c1 : valN (e :: es) k = some e.2.2 := by simp [valN, List.find?_cons, c]
      rw [decide_eq_true c] at hq
      have c2 : getK ((kN e.1, d0) :: kvs) (kN k) = some d0 := by simp only [getK, hq, if_true]
      rw [c1, c2]
      exact ⟨fun d h => by cases h; exact ⟨_, rfl, hd⟩, fun h => by cases h⟩
    · have c1 : valN (e :: es) k = valN es k := by simp [valN, List.find?_cons, c]
      rw [decide_eq_false c] at hq
      have c2 : getK ((kN e.1, d0) :: kvs) (kN k) = getK kvs (kN k) := by simp only [getK, hq]; rfl
      rw [c1, c2]
      exact ih
theorem EP_cons {k0 : Dat} {v : V} {e : NEnt} {es : List NEnt} {r' : List (Dat × V)} (q : EP (e :: es) = (k0, v) :: r') : k0 = kN e.1 ∧ v = e.2.2 ∧ r' = EP es := by
  have := List.cons.inj (show (kN e.1, e.2.2) :: EP es = (k0, v) :: r' from q)
  obtain ⟨q1, q2⟩ := this
  obtain ⟨q1, q3⟩ := Prod.mk.inj q1
  exact ⟨q1.symm, q3.symm, q2.symm⟩
theorem valN_pos {e : NEnt} {es : List NEnt} {k : NestedKey} (c : e.1 = k) : valN (e :: es) k = some e.2.2 := by simp [valN, List.find?_cons, c]
theorem valN_neg {e : NEnt} {es : List NEnt} {k : NestedKey} (c : ¬ e.1 = k) : valN (e :: es) k = valN es k := by simp [valN, List.find?_cons, c]
theorem getK_pos {β : Type} {e k : NestedKey} {x : β} {kvs : List (Dat × β)} (he : okN e = true) (hk : okN k = true) (c : e = k) : getK ((kN e, x) :: kvs) (kN k) = some x := by
  simp only [getK, keq_kN e k he hk, decide_eq_true c, if_true]
theorem getK_neg {β : Type} {e k : NestedKey} {x : β} {kvs : List (Dat × β)} (he : okN e = true) (hk : okN k = true) (c : ¬ e = k) : getK ((kN e, x) :: kvs) (kN k) = getK kvs (kN k) := by
  simp only [getK, keq_kN e k he hk, decide_eq_false c]; rfl
theorem putK_pos {β : Type} {e k : NestedKey} {x y : β} {kvs : List (Dat × β)} (he : okN e = true) (hk : okN k = true) (c : e = k) : putK1 ((kN e, x) :: kvs) (kN k) y = (kN e, y) :: kvs := by
  simp only [putK1, keq_kN e k he hk, decide_eq_true c, if_true]
theorem putK_neg {β : Type} {e k : NestedKey} {x y : β} {kvs : List (Dat × β)} (he : okN e = true) (hk : okN k = true) (c : ¬ e = k) : putK1 ((kN e, x) :: kvs) (kN k) y = (kN e, x) :: putK1 kvs (kN k) y := by
  simp only [putK1, keq_kN e k he hk, decide_eq_false c]; rfl
theorem setN_none {k : NestedKey} {y : V} : ∀ {es : List NEnt}, valN es k = none → es.map (setN k y) = es
  | [], _ => rfl
  | e :: es, h => by
    by_cases c : e.1 = k
    · rw [valN_pos c] at h; cases h
    · rw [valN_neg c] at h
      rw [List.map_cons, setN_none h]
      simp only [setN, if_neg c]
theorem valN_nodup {e : NEnt} {es : List NEnt} (h : ((e :: es).map (·.1)).Nodup) : valN es e.1 = none := by
  rw [List.map_cons, List.nodup_cons] at h
  unfold valN
  rw [Option.map_eq_none_iff, List.find?_eq_none]
  intro x hx hc
  exact h.1 (List.mem_map.mpr ⟨x, hx, of_decide_eq_true hc⟩)
theorem RepOk.get {K : PySem.W.Frag} {G H : Hp} {k : NestedKey} (hk : okN k = true) : ∀ {kvs : List (Dat × OT)} {es : List NEnt} {f : List Addr}, (∀ e ∈ es, okN e.1 = true) → RepOk K G H kvs (EP es) f →
    (∀ o, getK kvs (kN k) = some o → ∃ v f1, valN es k = some v ∧ RepO K G H o v f1) ∧ (getK kvs (kN k) = none → valN es k = none)
  | [], [], _, _, _ => ⟨fun _ h => (by cases h), fun _ => rfl⟩
  | [], _ :: _, _, _, h => by cases h.1
  | (_, _) :: _, [], _, _, h => by obtain ⟨v, r', f1, f2, e, _⟩ := h; cases e
  | (k0, d0) :: kvs, e :: es, f, ok, h => by
    obtain ⟨v, r', f1, f2, q, _, hd, hr⟩ := h
    obtain ⟨rfl, rfl, rfl⟩ := EP_cons q
    have ih := RepOk.get hk (kvs := kvs) (es := es) (fun x hx => ok x (List.mem_cons_of_mem _ hx)) hr
    have he := ok e List.mem_cons_self
    by_cases c : e.1 = k
    · rw [valN_pos c, getK_pos he hk c]
      exact ⟨fun d h => by cases h; exact ⟨_, _, rfl, hd⟩, fun h => by cases h⟩
    · rw [valN_neg c, getK_neg he hk c]
      exact ih
/-- a frozen value into the table; what stood there was frozen too -/
theorem RepOk.put {K : PySem.W.Frag} {G H : Hp} {k : NestedKey} (hk : okN k = true) {b : Addr} {d : Dat} {y : V} (hy : RepD K G d y) : ∀ {kvs : List (Dat × OT)} {es : List NEnt} {f : List Addr}, (∀ e ∈ es, okN e.1 = true) → (es.map (·.1)).Nodup →
    RepOk K G H kvs (EP es) f → (∀ o, getK kvs (kN k) = some o → ∃ d0, o = .fz d0) → RepOk K G H (putK1 kvs (kN k) (.fz d)) (EP (putN es k b y)) f
  | [], [], f, _, _, h, _ => ⟨y, [], [], [], rfl, h.2, ⟨rfl, hy⟩, rfl, rfl⟩
  | [], _ :: _, _, _, _, h, _ => by cases h.1
  | (_, _) :: _, [], _, _, _, h, _ => by obtain ⟨v, r', f1, f2, e, _⟩ := h; cases e
  | (k0, d0) :: kvs, e :: es, f, ok, nd, h, old => by
    obtain ⟨v, r', f1, f2, q, hf, hd, hr⟩ := h
    obtain ⟨rfl, rfl, rfl⟩ := EP_cons q
    have he := ok e List.mem_cons_self
    by_cases c : e.1 = k
    · rw [putK_pos he hk c]
      have hn := valN_nodup nd
      rw [c] at hn
      have e1 : putN (e :: es) k b y = (e.1, e.2.1, y) :: es := by
        unfold putN
        rw [valN_pos c, if_pos (by rfl), List.map_cons, setN_none hn]
        simp only [setN, if_pos c]
      rw [e1]
      obtain ⟨d1, rfl⟩ := old d0 (getK_pos he hk c)
      refine ⟨y, EP es, [], f2, rfl, ?_, ⟨rfl, hy⟩, hr⟩
      rw [hf, hd.1]
    · rw [putK_neg he hk c]
      have e1 : putN (e :: es) k b y = e :: putN es k b y := by
        unfold putN
        rw [valN_neg c]
        split
        · rw [List.map_cons]; simp only [setN, if_neg c]
        · rfl
      rw [e1]
      exact ⟨e.2.2, EP (putN es k b y), f1, f2, rfl, hf, hd, RepOk.put hk hy (fun x hx => ok x (List.mem_cons_of_mem _ hx)) (List.nodup_cons.mp (by rw [← List.map_cons]; exact nd)).2 hr (fun o ho => old o (by rw [getK_neg he hk c]; exact ho))⟩
end Lay
namespace Lay
open PySem PySem.Spec L2
section
variable {X : Cx}
def rInN (K : PySem.W.Frag) (neg : Bool) : R2 := fun x y H Q => ∃ a b es k, y = .ref a ∧ x = .ref b ∧ NAt K H a es ∧ KRep K H k (.ref b) ∧ k.depth ≤ 8 ∧ Q (.bl (if neg then !(valN es k).isSome else (valN es k).isSome)) H
theorem or_inN (hu : X.A.units + 9 < cLine) : OpR X (compareOp .In) (rInN X.K false) := by
  intro pins s σ H x y v u Q I rx ry ⟨a, b, es, k, hy, hx, hn, kb, hd, q⟩
  subst hx hy
  cases rx
  cases ry
  exact nd_in (k := k) (show X.A.in1.units + 8 < cLine from (by show X.A.units + 1 + 8 < cLine; omega)) I hn kb hd fun s' I' => ⟨.bl _, H, I', rfl, q⟩
theorem or_notInN (hu : X.A.units + 9 < cLine) : OpR X (compareOp .NotIn) (rInN X.K true) := by
  intro pins s σ H x y v u Q I rx ry ⟨a, b, es, k, hy, hx, hn, kb, hd, q⟩
  subst hx hy
  cases rx
  cases ry
  exact nd_notIn (show X.A.in1.units + 8 < cLine from (by show X.A.units + 1 + 8 < cLine; omega)) I hn kb hd fun s' I' => ⟨.bl _, H, I', rfl, q⟩
def rGetN (K : PySem.W.Frag) : V → List V → Hp → VK → Prop := fun x xs H Q => ∃ a es k b, x = .ref a ∧ NAt K H a es ∧ KRep K H k (.ref b) ∧ k.depth ≤ 8 ∧ ((xs = [.ref b] ∧ Q ((valN es k).getD .non) H) ∨ ∃ y, xs = [.ref b, y] ∧ Q ((valN es k).getD y) H)
theorem mt_getN (hu : X.A.units + 9 < cLine) : MtR X "dict.get" (rGetN X.K) := by
  intro pins s σ H x xs v us Q I rx rs ⟨a, es, k, b, hx, hn, kb, hd, q⟩
  subst hx
  cases rx
  have hu' : X.A.in1.units + 8 < cLine := (by show X.A.units + 1 + 8 < cLine; omega)
  rcases q with ⟨rfl, q⟩ | ⟨y, rfl, q⟩
  · obtain ⟨u, rfl, ru⟩ := vals1 rs
    cases ru
    exact nd_get hu' I hn kb hd fun w' s' I' r => ⟨_, H, I', r, q⟩
  · obtain ⟨u, u2, rfl, ru, ru2⟩ := vals2 rs
    cases ru
    exact nd_getD hu' I hn kb hd ru2 fun w' s' I' r => ⟨_, H, I', r, q⟩
theorem call_lenN : CallR X (.builtin "len") (fun xs H Q => ∃ a es, xs = [.ref a] ∧ NAt X.K H a es ∧ Q (.int (es.length : Int)) H) := by
  intro pins s σ H xs us Q I r ⟨a, es, hx, hn, q⟩
  subst hx
  obtain ⟨u, rfl, ru⟩ := vals1 r
  cases ru
  exact nd_len I hn fun t s' I' => ⟨.int _, H, I', ⟨_, rfl⟩, q⟩
end
end Lay
namespace Lay
open PySem PySem.Spec L2
def tupK {β : Type} (kvs : List (Dat × β)) : Bool := match kvs with
  | [] => true
  | (.tup _, _) :: _ => true
  | _ => false
section
variable {K : PySem.W.Frag} {G H : Hp} {a : Addr}
theorem DictAt.now (e : Ex G H) {ps : List (Dat × V)} (h : DictAt K G H a ps) (t : tupK ps = true) : ∃ es, NOw K H a es ∧ ps = EP es := by
  rcases h with ⟨ks, h, q⟩ | ⟨es, h, n, q⟩
  · cases ks with
    | nil => exact ⟨[], .inr ⟨h, rfl⟩, q⟩
    | cons k r =>
      rw [q] at t
      obtain ⟨k, v⟩ := k
      cases k <;> cases t
  · exact ⟨es, .inl ⟨h, n.mono e⟩, q⟩
theorem RepDk.tupK : ∀ {kvs : List (Dat × Dat)} {ps : List (Dat × V)}, RepDk K G kvs ps → Lay.tupK ps = Lay.tupK kvs
  | [], _, h => by cases (show _ = [] from h); rfl
  | (k, d) :: r, _, h => by obtain ⟨v, r', rfl, _⟩ := h; cases k <;> rfl
theorem RepOk.tupK : ∀ {kvs : List (Dat × OT)} {ps : List (Dat × V)} {f : List Addr}, RepOk K G H kvs ps f → Lay.tupK ps = Lay.tupK kvs
  | [], _, _, h => by cases h.1; rfl
  | (k, d) :: r, _, _, h => by obtain ⟨v, r', f1, f2, rfl, _⟩ := h; cases k <;> rfl
/-- reading at a key, without a look at the other values -/
def getO (x : OT) (d : Dat) : Option (Option Dat) := match x with
  | .fz (.dic kvs) => if tupK kvs then some (getK kvs d) else none
  | .dic kvs => if tupK kvs then match getK kvs d with
    | none => some none
    | some (.fz e) => some (some e)
    | some _ => none
    else none
  | _ => none
theorem getO_ok {x : OT} {v : V} {f : List Addr} (e : Ex G H) (r : RepO K G H x v f) {d : Dat} {k : NestedKey} (hk : okN k = true) (hd : kN k = d) {u : Option Dat} (c : getO x d = some u) :
    ∃ a es, v = .ref a ∧ NAt K H a es ∧ (∀ d', u = some d' → ∃ w, valN es k = some w ∧ RepD K G d' w) ∧ (u = none → valN es k = none) := by
  subst hd
  unfold getO at c
  split at c
  · rename_i kvs
    obtain ⟨_, a, ps, rfl, da, rk⟩ := r
    split at c
    · rename_i t
      cases c
      obtain ⟨es, hn, hp⟩ := DictAt.now e (da.at (Ex.refl G) (e a)) (by rw [rk.tupK]; exact t)
      subst hp
      obtain ⟨g1, g2⟩ := RepDk.get hk hn.at.okN rk
      exact ⟨a, es, rfl, hn.at, g1, g2⟩
    · cases c
  · rename_i kvs
    obtain ⟨a, ps, g, rfl, _, da, rk⟩ := r
    split at c
    · rename_i t
      obtain ⟨es, hn, hp⟩ := DictAt.now e da (by rw [rk.tupK]; exact t)
      subst hp
      obtain ⟨g1, g2⟩ := RepOk.get hk hn.at.okN rk
      refine ⟨a, es, rfl, hn.at, ?_⟩
      split at c
      · rename_i c0
        cases c
        exact ⟨fun _ z => (by cases z), fun _ => g2 c0⟩
      · rename_i e0 c0
        cases c
        refine ⟨fun d' z => ?_, fun z => by cases z⟩
        cases z
        obtain ⟨w, f1, h1, h2⟩ := g1 _ c0
        exact ⟨w, h1, h2.2⟩
      · cases c
    · cases c
  · cases c
def opInk (neg : Bool) (x y : OT) : Option OT := match x with
  | .fz d => match keyT d with
    | some _ => match getO y d with
      | some u => some (.fz (.bl (if neg then !u.isSome else u.isSome)))
      | _ => none
    | none => none
  | _ => none
theorem ok_ink {neg : Bool} : OpOk K (rInN K neg) (opInk neg) := fun G H o1 o2 v1 v2 f1 f2 o Q e r1 r2 c q => by
  unfold opInk at c
  split at c
  · rename_i d
    split at c
    · rename_i k hk
      obtain ⟨⟨b, rfl⟩, kb, ho, hdp, hd⟩ := keyT_rep hk r1.2
      split at c
      · rename_i u hu
        cases c
        obtain ⟨a, es, rfl, hn, g1, g2⟩ := getO_ok e r2 ho hd hu
        refine ⟨a, b, es, k, rfl, rfl, hn, KRep.mono e k _ kb, hdp, ?_⟩
        have hs : (valN es k).isSome = u.isSome := by
          cases u with
          | none => rw [g2 rfl]; rfl
          | some d' => obtain ⟨w, h1, _⟩ := g1 d' rfl; rw [h1]; rfl
        rw [hs]
        exact q.bl
      · cases c
    · cases c
  · cases c
/-- d.get(k), d.get(k, x) -/
def opGetk (x : OT) (os : List OT) : Option OT := match os with
  | [.fz d] => match keyT d with
    | some _ => match getO x d with
      | some u => some (.fz (u.getD .non))
      | _ => none
    | none => none
  | [.fz d, .fz y] => match keyT d with
    | some _ => match getO x d with
      | some u => some (.fz (u.getD y))
      | _ => none
    | none => none
  | _ => none
theorem ok_getk {T : String} : MethOk K T (rGetN K) opGetk := fun G H x os v vs f o Q e r1 r2 c q => by
  unfold opGetk at c
  split at c
  · rename_i d
    obtain ⟨w, r', f1, rfl, q1, q2⟩ := r2
    cases (show r' = [] from q2)
    split at c
    · rename_i k hk
      obtain ⟨⟨b, rfl⟩, kb, ho, hdp, hd⟩ := keyT_rep hk q1.2
      split at c
      · rename_i u hu
        cases c
        obtain ⟨a, es, rfl, hn, g1, g2⟩ := getO_ok e r1 ho hd hu
        refine ⟨a, es, k, b, rfl, hn, KRep.mono e k _ kb, hdp, .inl ⟨rfl, ?_⟩⟩
        cases u with
        | none => rw [g2 rfl]; exact q.same rfl
        | some d' => obtain ⟨w, h1, h2⟩ := g1 d' rfl; rw [h1]; exact q.same h2
      · cases c
    · cases c
  · rename_i d y
    obtain ⟨w, r', f1, rfl, q1, q2⟩ := r2
    obtain ⟨w2, r'', f2, rfl, q3, q4⟩ := q2
    cases (show r'' = [] from q4)
    split at c
    · rename_i k hk
      obtain ⟨⟨b, rfl⟩, kb, ho, hdp, hd⟩ := keyT_rep hk q1.2
      split at c
      · rename_i u hu
        cases c
        obtain ⟨a, es, rfl, hn, g1, g2⟩ := getO_ok e r1 ho hd hu
        refine ⟨a, es, k, b, rfl, hn, KRep.mono e k _ kb, hdp, .inr ⟨w2, rfl, ?_⟩⟩
        cases u with
        | none => rw [g2 rfl]; exact q.same q3.2
        | some d' => obtain ⟨w, h1, h2⟩ := g1 d' rfl; rw [h1]; exact q.same h2
      · cases c
    · cases c
  · cases c
end
end Lay
namespace Lay
open PySem PySem.Spec L2
section
variable {X : Cx}
def rSetN (K : PySem.W.Frag) : TSet := fun o i v H Q => ∃ a b es k, o = .ref a ∧ i = .ref b ∧ NOw K H a es ∧ KRep K H k (.ref b) ∧ k.depth ≤ 8 ∧ okN k = true ∧ es.length < sizeLine ∧ Q (upd H a (nO a (putN es k b v)))
theorem set_n (hu : X.A.units + 9 < cLine) : PSet X (rSetN X.K) := by
  intro pins s σ H o i v ov iv u Q I ro ri rv h
  obtain ⟨a, b, es, k, rfl, rfl, hn, kb, hd, ho, hl, q⟩ := h
  cases ro
  cases ri
  exact nd_setItem (show X.A.in1.units + 8 < cLine from (by show X.A.units + 1 + 8 < cLine; omega)) I hn kb hd ho hl rv fun s' I' => ⟨_, I', q⟩
def rDelN (K : PySem.W.Frag) : V → V → Hp → (Hp → Prop) → Prop := fun o i H Q => ∃ a b es k, o = .ref a ∧ i = .ref b ∧ NOw K H a es ∧ KRep K H k (.ref b) ∧ k.depth ≤ 8 ∧ (valN es k).isSome = true ∧ Q (upd H a (nO a (dropN es k)))
def tDelN (K : PySem.W.Frag) (to ti : TE) : TS := fun D σ H => to σ H fun x H1 => ti σ H1 fun y H2 => rDelN K x y H2 fun H3 => D.nx σ H3
theorem ps_delN (hu : X.A.units + 9 < cLine) {o i : Expr} {to ti : TE} {tpos pos : Pos} (ho : PE X o to) (hi : PE X i ti) : PS X (.Delete [.Subscript o i tpos] pos) (tDelN X.K to ti) := by
  refine ⟨fun pins s σ H D I h => ?_⟩
  refine wpAny_Delete (wpAny_deleteEach_cons (wpAny_delete_Subscript ?_))
  refine thn (ho.run pins s σ H _ I h) fun u s1 h1 => ?_
  obtain ⟨x, H1, I1, rx, q1⟩ := h1
  refine thn (hi.run pins s1 σ H1 _ I1 q1) fun iv s2 h2 => ?_
  obtain ⟨y, H2, I2, ry, a, b, es, k, ex, ey, hn, kb, hd, hs, q⟩ := h2
  subst ex ey
  cases rx
  cases ry
  exact nd_delItem (show X.A.in1.units + 8 < cLine from (by show X.A.units + 1 + 8 < cLine; omega)) I2 hn kb hd hs fun s3 I3 => wpAny_deleteEach_nil ⟨σ, _, I3, q⟩
end
theorem DictAt.nowG {K : PySem.W.Frag} {G H : Hp} {a : Addr} (e : Ex G H) {ps : List (Dat × V)} (h : DictAt K G H a ps) (t : tupK ps = true) : ∃ es, NOw K H a es ∧ NKeys K G es ∧ ps = EP es := by
  rcases h with ⟨ks, h, q⟩ | ⟨es, h, n, q⟩
  · cases ks with
    | nil => exact ⟨[], .inr ⟨h, rfl⟩, ⟨(fun x hx => nomatch hx), List.nodup_nil⟩, q⟩
    | cons k r =>
      rw [q] at t
      obtain ⟨k, v⟩ := k
      cases k <;> cases t
  · exact ⟨es, .inl ⟨h, n.mono e⟩, n, q⟩
theorem putN_keys {es : List NEnt} {k : NestedKey} {b : Addr} {v : V} : (putN es k b v).map (·.1) = if (valN es k).isSome then es.map (·.1) else es.map (·.1) ++ [k] := by
  unfold putN
  split
  · rw [List.map_map]
    refine List.map_congr_left fun e _ => ?_
    show (setN k v e).1 = e.1
    unfold setN
    split <;> rfl
  · rw [List.map_append]; rfl
theorem NKeys.put {K : PySem.W.Frag} {G : Hp} {es : List NEnt} (n : NKeys K G es) {k : NestedKey} {b : Addr} {v : V} (h1 : KRep K G k (.ref b)) (h2 : okN k = true) (h3 : k.depth ≤ 8) : NKeys K G (putN es k b v) := by
  refine ⟨fun x hx => ?_, ?_⟩
  · unfold putN at hx
    split at hx
    · obtain ⟨y, hy, rfl⟩ := List.mem_map.mp hx
      have := n.key y hy
      unfold setN
      split <;> exact this
    · rcases List.mem_append.mp hx with hx | hx
      · exact n.key x hx
      · cases List.mem_singleton.mp hx; exact ⟨h1, h2, h3⟩
  · rw [putN_keys]
    split
    · exact n.nodup
    · rename_i c
      refine List.nodup_append.mpr ⟨n.nodup, List.nodup_cons.mpr ⟨List.not_mem_nil, .nil⟩, fun x hx y hy e => ?_⟩
      cases List.mem_singleton.mp hy
      subst e
      obtain ⟨z, hz, hz2⟩ := List.mem_map.mp hx
      refine c ?_
      unfold valN
      rw [Option.isSome_map, List.find?_isSome]
      exact ⟨z, hz, by simp [hz2]⟩
theorem NKeys.drop {K : PySem.W.Frag} {G : Hp} {es : List NEnt} (n : NKeys K G es) {k : NestedKey} : NKeys K G (dropN es k) :=
  ⟨fun x hx => n.key x (List.mem_filter.mp hx).1, n.nodup.sublist (List.Sublist.map _ List.filter_sublist)⟩
/-- d[k] = v, the value frozen, and frozen what stood there -/
def muSetK (x : OT) (os : List OT) : Option (OT × OT) := match x, os with
  | .dic kvs, [.fz d, .fz y] => match keyT d with
    | some _ => if tupK kvs && decide (kvs.length < sizeLine) then match getK kvs d with
        | some (.fz _) => some (.dic (putK1 kvs d (.fz y)), .fz .non)
        | none => some (.dic (putK1 kvs d (.fz y)), .fz .non)
        | _ => none
      else none
    | none => none
  | _, _ => none
theorem RepOk.length {K : PySem.W.Frag} {G H : Hp} : ∀ {kvs : List (Dat × OT)} {ps : List (Dat × V)} {f : List Addr}, RepOk K G H kvs ps f → ps.length = kvs.length
  | [], _, _, h => by cases h.1; rfl
  | (k, o) :: r, _, _, h => by obtain ⟨v, r', f1, f2, rfl, _, q1, q2⟩ := h; rw [List.length_cons, List.length_cons, RepOk.length q2]
theorem EP_length (es : List NEnt) : (EP es).length = es.length := List.length_map ..
theorem mu_setK {K : PySem.W.Frag} : MutOk K (fun x vs H Q => ∃ k w, vs = [k, w] ∧ rSetN K x k w H fun H' => Q .non H') muSetK := fun G H x v f os vs l x' o' Q e r1 r2 nd c q => by
  unfold muSetK at c
  split at c
  · rename_i kvs d y
    split at c
    · rename_i k hk
      split at c
      · rename_i hc
        rw [Bool.and_eq_true, decide_eq_true_eq] at hc
        obtain ⟨ht, hlen⟩ := hc
        obtain ⟨a, ps, g, rfl, rfl, da, rk⟩ := r1
        obtain ⟨vk, r', l1, l2, rfl, rfl, qk, q2⟩ := r2
        obtain ⟨w, r'', l3, l4, rfl, rfl, q1, q2⟩ := q2
        obtain ⟨rfl, rfl⟩ := q2
        obtain ⟨rfl, qk⟩ := qk
        obtain ⟨rfl, q1⟩ := q1
        obtain ⟨⟨b, rfl⟩, kb, ho, hdp, hd⟩ := keyT_rep hk qk
        obtain ⟨es, hn, kk, hp⟩ := DictAt.nowG e da (by rw [rk.tupK]; exact ht)
        subst hp hd
        have old : ∀ o, getK kvs (kN k) = some o → ∃ d0, o = .fz d0 := fun o z => by
          rw [z] at c
          cases o with
          | fz d0 => exact ⟨d0, rfl⟩
          | _ => cases c
        have hx : x' = .dic (putK1 kvs (kN k) (.fz y)) ∧ o' = .fz .non := by
          cases z : getK kvs (kN k) with
          | none => rw [z] at c; cases c; exact ⟨rfl, rfl⟩
          | some o => obtain ⟨d0, rfl⟩ := old o z; rw [z] at c; cases c; exact ⟨rfl, rfl⟩
        obtain ⟨rfl, rfl⟩ := hx
        have hes : es.length < sizeLine := by rw [← EP_length es, rk.length]; exact hlen
        simp only [List.append_nil] at nd q
        have ndg := List.nodup_cons.mp nd
        refine ⟨.ref b, w, rfl, a, b, es, k, rfl, rfl, hn, KRep.mono e k _ kb, hdp, ho, hes, q .non _ (a :: g) [] (fun c u h n => ?_) ?_ (fun c hc => ?_) fun G' ex nw => ⟨⟨a, EP (putN es k b w), g, rfl, rfl, .inr ⟨putN es k b w, upd_same, (kk.mono ex).put (KRep.mono ex k _ kb) ho hdp, rfl⟩, ?_⟩, rfl, rfl⟩⟩
        · rw [upd_ne (fun z => n (by rw [z]; exact List.mem_cons_self))]; exact h
        · rw [List.append_nil]; exact nd
        · rw [List.append_nil] at hc; exact .inr (.inl hc)
        · refine RepOk.put ho (RepD.mono ex y w q1) hn.at.okN kk.nodup (RepOk.mono ex kvs _ g (fun c hc u h => ?_) rk) old
          rw [upd_ne (fun z => ndg.1 (by rw [← z]; exact hc))]; exact h
      · cases c
    · cases c
  · cases c
/-- taking an entry away; what stood there was frozen -/
theorem RepOk.del {K : PySem.W.Frag} {G H : Hp} {k : NestedKey} (hk : okN k = true) : ∀ {kvs : List (Dat × OT)} {es : List NEnt} {f : List Addr}, (∀ e ∈ es, okN e.1 = true) → (es.map (·.1)).Nodup →
    RepOk K G H kvs (EP es) f → (∀ o, getK kvs (kN k) = some o → ∃ d0, o = .fz d0) → RepOk K G H (delK kvs (kN k)) (EP (dropN es k)) f
  | [], [], f, _, _, h, _ => h
  | [], _ :: _, _, _, _, h, _ => by cases h.1
  | (_, _) :: _, [], _, _, _, h, _ => by obtain ⟨v, r', f1, f2, e, _⟩ := h; cases e
  | (k0, d0) :: kvs, e :: es, f, ok, nd, h, old => by
    obtain ⟨v, r', f1, f2, q, hf, hd, hr⟩ := h
    obtain ⟨rfl, rfl, rfl⟩ := EP_cons q
    have he := ok e List.mem_cons_self
    have hq := keq_kN e.1 k he hk
    by_cases c : e.1 = k
    · rw [decide_eq_true c] at hq
      have hn := valN_nodup nd
      rw [c] at hn
      have e0 : dropN es k = es := by
        unfold valN at hn
        rw [Option.map_eq_none_iff, List.find?_eq_none] at hn
        unfold dropN
        rw [List.filter_eq_self]
        intro x hx
        have := hn x hx
        simpa using this
      have e1 : dropN (e :: es) k = es := by
        have := e0
        unfold dropN at this ⊢
        rw [List.filter_cons, if_neg (by simp [c]), this]
      have e2 : delK ((kN e.1, d0) :: kvs) (kN k) = kvs := by simp only [delK, hq, if_true]
      obtain ⟨d1, rfl⟩ := old d0 (getK_pos he hk c)
      rw [e1, e2, hf, hd.1]
      exact hr
    · rw [decide_eq_false c] at hq
      have e1 : dropN (e :: es) k = e :: dropN es k := by
        unfold dropN
        rw [List.filter_cons, if_pos (by simp [c])]
      have e2 : delK ((kN e.1, d0) :: kvs) (kN k) = (kN e.1, d0) :: delK kvs (kN k) := by simp only [delK, hq]; rfl
      rw [e1, e2]
      exact ⟨e.2.2, EP (dropN es k), f1, f2, rfl, hf, hd, RepOk.del hk (fun x hx => ok x (List.mem_cons_of_mem _ hx)) (List.nodup_cons.mp (by rw [← List.map_cons]; exact nd)).2 hr (fun o ho => old o (by rw [getK_neg he hk c]; exact ho))⟩
def muDelK (x : OT) (os : List OT) : Option (OT × OT) := match x, os with
  | .dic kvs, [.fz d] => match keyT d with
    | some _ => if tupK kvs then match getK kvs d with
        | some (.fz _) => some (.dic (delK kvs d), .fz .non)
        | _ => none
      else none
    | none => none
  | _, _ => none
theorem mu_delK {K : PySem.W.Frag} : MutOk K (fun x vs H Q => ∃ k, vs = [k] ∧ rDelN K x k H fun H' => Q .non H') muDelK := fun G H x v f os vs l x' o' Q e r1 r2 nd c q => by
  unfold muDelK at c
  split at c
  · rename_i kvs d
    split at c
    · rename_i k hk
      split at c
      · rename_i ht
        split at c
        · rename_i d0 hg
          cases c
          obtain ⟨a, ps, g, rfl, rfl, da, rk⟩ := r1
          obtain ⟨vk, r', l1, l2, rfl, rfl, qk, q2⟩ := r2
          obtain ⟨rfl, rfl⟩ := q2
          obtain ⟨rfl, qk⟩ := qk
          obtain ⟨⟨b, rfl⟩, kb, ho, hdp, hd⟩ := keyT_rep hk qk
          obtain ⟨es, hn, kk, hp⟩ := DictAt.nowG e da (by rw [rk.tupK]; exact ht)
          subst hp hd
          obtain ⟨g1, _⟩ := RepOk.get ho hn.at.okN rk
          obtain ⟨w0, _, hw, _⟩ := g1 _ hg
          simp only [List.append_nil] at nd q
          have ndg := List.nodup_cons.mp nd
          refine ⟨.ref b, rfl, a, b, es, k, rfl, rfl, hn, KRep.mono e k _ kb, hdp, by rw [hw]; rfl, q .non _ (a :: g) [] (fun c u h n => ?_) ?_ (fun c hc => ?_) fun G' ex nw => ⟨⟨a, EP (dropN es k), g, rfl, rfl, .inr ⟨dropN es k, upd_same, (kk.mono ex).drop, rfl⟩, ?_⟩, rfl, rfl⟩⟩
          · rw [upd_ne (fun z => n (by rw [z]; exact List.mem_cons_self))]; exact h
          · rw [List.append_nil]; exact nd
          · rw [List.append_nil] at hc; exact .inr (.inl hc)
          · refine RepOk.del ho hn.at.okN kk.nodup (RepOk.mono ex kvs _ g (fun c hc u h => ?_) rk) fun o z => by rw [hg] at z; cases z; exact ⟨d0, rfl⟩
            rw [upd_ne (fun z => ndg.1 (by rw [← z]; exact hc))]; exact h
        · cases c
      · cases c
    · cases c
  · cases c
end Lay
namespace Lay
open PySem PySem.Spec L2
abbrev FF : Value → Shared → Prop := fun _ _ => False
/-- what a turn does: from a state, to reach N -/
abbrev Inn := PySem.Env → Addr → (Shared → Prop) → Shared → Prop
def innD (prog : Program) (w : World) (A : Around) (kx vx : Expr) : Inn := fun ce D N s =>
  wpAny (model prog w) A (eval kx ce) (fun kv s4 => wpAny (model prog w) A (eval vx ce) (fun vv s5 => wpAny (model prog w) A (dictSet D kv vv) (fun _ s6 => N s6) FF s5) FF s4) FF s
/-- one clause's turn -/
def TurnOk (prog : Program) (w : World) (A : Around) (tg : Expr) (ifs : List Expr) (ce : PySem.Env) (it : Value) (body : (Shared → Prop) → Shared → Prop) (stop : Shared → Prop) (N : Shared → Prop) (s : Shared) : Prop :=
  wpAny (model prog w) A (pyNext it) (fun r s1 => match r with
    | none => stop s1
    | some v => wpAny (model prog w) A (letOwnedTupleGo tg it v) (fun _ s2 => wpAny (model prog w) A (assign tg ce v) (fun _ s3 =>
        wpAny (model prog w) A (forIn ifs true fun c r => if r = true then do let ok ← PySem.isTrue c ce (eval c ce); pure (ForInStep.yield ok) else pure (ForInStep.yield r)) (fun ok s4 => if ok = true then body N s4 else N s4) FF s3) FF s2) FF s1) FF s
def LoopOf (prog : Program) (w : World) (A : Around) (e : Expr) (k : Nat) (tg : Expr) (ifs : List Expr) (inn : Inn) : Prop :=
  ∀ (ce : PySem.Env) (it : Value) (D : Addr) (R : Result → Shared → Prop) (I : Nat → Shared → Prop), (∀ n s, I n s → TurnOk prog w A tg ifs ce it (inn ce D) (R (.ok .next)) (fun s' => ∃ m, m < n ∧ I m s') s) →
    ∀ n s, I n s → codeAny (model prog w) A (.compLoop e k it (.ref D) ce) R s
section
variable {prog : Program} {w : World} {A : Around} {kx vx tg iter tg1 iter1 : Expr} {ifs ifs1 : List Expr} {scope : Scope} {pos : Pos}
theorem loop_d1 : LoopOf prog w A (.DictComp kx vx [⟨tg, iter, ifs, 0⟩] scope pos) 0 tg ifs (innD prog w A kx vx) := by
  intro ce it D R I turn n s h
  refine compLoop_anyD I (fun n s hI => wpAny_mono (turn n s hI) (fun r s1 h1 => ?_) fun _ _ (z : False) => z.elim) n h
  cases r with
  | none => exact h1
  | some v =>
    refine wpAny_mono h1 (fun _ s2 h2 => wpAny_mono h2 (fun _ s3 h3 => wpAny_mono h3 (fun ok s4 h4 => ?_) fun _ _ (z : False) => z.elim) fun _ _ (z : False) => z.elim) fun _ _ (z : False) => z.elim
    cases ok with
    | false => exact h4
    | true => exact wpAny_mono h4 (fun kv s5 h5 => wpAny_mono h5 (fun vv s6 h6 => wpAny_mono h6 (fun _ _ z => z) fun _ _ (z : False) => z.elim) fun _ _ (z : False) => z.elim) fun _ _ (z : False) => z.elim
theorem turn_d2a (it : Value) (D : Addr) (ce : PySem.Env) : compTurn (.DictComp kx vx [⟨tg, iter, ifs, 0⟩, ⟨tg1, iter1, ifs1, 0⟩] scope pos) 0 it (.ref D) ce = (do
    standAt iter.pos
    let nx ← pyNext it
    match nx with
    | none => pure (.done .next)
    | some v => do
      letOwnedTupleGo tg it v
      assign tg ce v
      let ok ← forIn ifs true fun c r => if r = true then do let ok ← PySem.isTrue c ce (eval c ce); pure (ForInStep.yield ok) else pure (ForInStep.yield r)
      if ok then do
        let y ← eval iter1 ce
        standAt iter1.pos
        let z ← foldedSetIterable iter1 ce y
        let j ← holding [z] (pyIter z)
        let _ ← runOwn (.compStart (.DictComp kx vx [⟨tg, iter, ifs, 0⟩, ⟨tg1, iter1, ifs1, 0⟩] scope pos) 1 j (.ref D) ce) ce
        again (.compLoop (.DictComp kx vx [⟨tg, iter, ifs, 0⟩, ⟨tg1, iter1, ifs1, 0⟩] scope pos) 0 it (.ref D) ce)
      else again (.compLoop (.DictComp kx vx [⟨tg, iter, ifs, 0⟩, ⟨tg1, iter1, ifs1, 0⟩] scope pos) 0 it (.ref D) ce)) := by rfl
theorem turn_d2b (it : Value) (D : Addr) (ce : PySem.Env) : compTurn (.DictComp kx vx [⟨tg, iter, ifs, 0⟩, ⟨tg1, iter1, ifs1, 0⟩] scope pos) 1 it (.ref D) ce = (do
    standAt iter1.pos
    let nx ← pyNext it
    match nx with
    | none => pure (.done .next)
    | some v => do
      letOwnedTupleGo tg1 it v
      assign tg1 ce v
      let ok ← forIn ifs1 true fun c r => if r = true then do let ok ← PySem.isTrue c ce (eval c ce); pure (ForInStep.yield ok) else pure (ForInStep.yield r)
      if ok then do
        (do
          let a ← eval kx ce
          let b ← holding [a] (eval vx ce)
          standAt { kx.pos with endLine := vx.pos.endLine, endCol := vx.pos.endCol }
          holding [a, b] (dictSet D a b))
        again (.compLoop (.DictComp kx vx [⟨tg, iter, ifs, 0⟩, ⟨tg1, iter1, ifs1, 0⟩] scope pos) 1 it (.ref D) ce)
      else again (.compLoop (.DictComp kx vx [⟨tg, iter, ifs, 0⟩, ⟨tg1, iter1, ifs1, 0⟩] scope pos) 1 it (.ref D) ce)) := by rfl
theorem loop_d2b : LoopOf prog w A (.DictComp kx vx [⟨tg, iter, ifs, 0⟩, ⟨tg1, iter1, ifs1, 0⟩] scope pos) 1 tg1 ifs1 (innD prog w A kx vx) := by
  intro ce it D R I turn n s h
  refine codeAny_loop rfl I (fun n s hI => ?_) n h
  show wpAny _ A (Sem.onRaise (compTurn _ 1 it (.ref D) ce) _) _ _ s
  refine wpAny_noted ?_
  rw [turn_d2b]
  refine wpAny_bind (wpAny_standAt (wpAny_bind (wpAny_mono (turn n s hI) (fun r s1 h1 => ?_) fun _ _ (z : False) => z.elim)))
  cases r with
  | none => exact wpAny_pure h1
  | some v =>
    refine wpAny_bind (wpAny_mono h1 (fun _ s2 h2 => ?_) fun _ _ (z : False) => z.elim)
    refine wpAny_bind (wpAny_mono h2 (fun _ s3 h3 => ?_) fun _ _ (z : False) => z.elim)
    refine wpAny_bind (wpAny_mono h3 (fun ok s4 h4 => ?_) fun _ _ (z : False) => z.elim)
    cases ok with
    | false => exact wpAny_pure ⟨rfl, h4⟩
    | true =>
      refine wpAny_bind (wpAny_bind (wpAny_mono h4 (fun a s5 h5 => ?_) fun _ _ (z : False) => z.elim))
      refine wpAny_bind (wpAny_holding (wpAny_mono h5 (fun b s6 h6 => ?_) fun _ _ (z : False) => z.elim))
      exact wpAny_bind (wpAny_standAt (wpAny_holding (wpAny_mono h6 (fun _ s7 h7 => wpAny_pure ⟨rfl, h7⟩) fun _ _ (z : False) => z.elim)))
def innL (prog : Program) (w : World) (A : Around) (e iter1 : Expr) : Inn := fun ce D N s =>
  wpAny (model prog w) A (eval iter1 ce) (fun x s4 => wpAny (model prog w) A (pyIter x) (fun j s5 => codeAny (model prog w) A (.compStart e 1 j (.ref D) ce) (fun r s' => match r with
    | .ok _ => N s'
    | .error _ => False) s5) FF s4) FF s
theorem loop_d2a (hs : ∀ ce x, foldedSetIterable iter1 ce x = pure x) : LoopOf prog w A (.DictComp kx vx [⟨tg, iter, ifs, 0⟩, ⟨tg1, iter1, ifs1, 0⟩] scope pos) 0 tg ifs
    (innL prog w A (.DictComp kx vx [⟨tg, iter, ifs, 0⟩, ⟨tg1, iter1, ifs1, 0⟩] scope pos) iter1) := by
  intro ce it D R I turn n s h
  refine codeAny_loop rfl I (fun n s hI => ?_) n h
  show wpAny _ A (Sem.onRaise (compTurn _ 0 it (.ref D) ce) _) _ _ s
  refine wpAny_noted ?_
  rw [turn_d2a]
  refine wpAny_bind (wpAny_standAt (wpAny_bind (wpAny_mono (turn n s hI) (fun r s1 h1 => ?_) fun _ _ (z : False) => z.elim)))
  cases r with
  | none => exact wpAny_pure h1
  | some v =>
    refine wpAny_bind (wpAny_mono h1 (fun _ s2 h2 => ?_) fun _ _ (z : False) => z.elim)
    refine wpAny_bind (wpAny_mono h2 (fun _ s3 h3 => ?_) fun _ _ (z : False) => z.elim)
    refine wpAny_bind (wpAny_mono h3 (fun ok s4 h4 => ?_) fun _ _ (z : False) => z.elim)
    cases ok with
    | false => exact wpAny_pure ⟨rfl, h4⟩
    | true =>
      refine wpAny_bind (wpAny_mono h4 (fun x s5 h5 => ?_) fun _ _ (z : False) => z.elim)
      refine wpAny_bind (wpAny_standAt (wpAny_bind (wpAny_of_eq (hs ce x) ?_)))
      refine wpAny_bind (wpAny_holding (wpAny_mono h5 (fun j s6 h6 => ?_) fun _ _ (z : False) => z.elim))
      refine wpAny_bind (wpAny_runOwn ?_)
      rw [Around.mark_none]
      refine codeAny_mono h6 fun r s' hr => ?_
      cases r with
      | ok f => exact wpAny_pure ⟨rfl, hr⟩
      | error e => exact hr.elim
/-- the second clause begins -/
theorem start_d2 {it : Value} {D : Addr} {ce : PySem.Env} {R : Result → Shared → Prop} {s : Shared} (h0 : codeAny (model prog w) A (.compLoop (.DictComp kx vx [⟨tg, iter, ifs, 0⟩, ⟨tg1, iter1, ifs1, 0⟩] scope pos) 1 it (.ref D) ce) R s)
    (h : wpAny (model prog w) A (pyIter it) (fun j s' => codeAny (model prog w) A (.compLoop (.DictComp kx vx [⟨tg, iter, ifs, 0⟩, ⟨tg1, iter1, ifs1, 0⟩] scope pos) 1 j (.ref D) ce) R s') (notedBy (model prog w) A ce fun x s' => R (.error x) s') s) :
    codeAny (model prog w) A (.compStart (.DictComp kx vx [⟨tg, iter, ifs, 0⟩, ⟨tg1, iter1, ifs1, 0⟩] scope pos) 1 it (.ref D) ce) R s := by
  refine codeAny_of_tree ?_
  show wpAny _ A (Sem.onRaise (compStart _ 1 it (.ref D) ce) _) _ _ s
  refine wpAny_notedAt ?_
  unfold compStart
  show wpAny _ A (ask >>= _) _ _ s
  refine wpAny_bind (wpAny_askSetting (wpAny_ite ?_))
  split
  · first
      | exact wpAny_pure ⟨rfl, h0⟩
      | exact wpAny_bind (wpAny_pure (wpAny_pure ⟨rfl, h0⟩))
  · refine wpAny_bind (wpAny_rule ?_)
    show wpAny _ _ (standAt iter1.pos >>= _) _ _ s
    exact wpAny_bind (wpAny_standAt (wpAny_bind (wpAny_mono h (fun j s' h' => wpAny_pure ⟨rfl, h'⟩) fun _ _ z => z)))
end
end Lay
namespace Lay
open PySem PySem.Spec L2
abbrev TN := Addr → St → Hp → (Hp → Prop) → Prop
structure PInn (Y : Cx) (vs : List Nat) (inn : Inn) (t : TN) : Prop where
  run : ∀ (pins : List (Addr × Obj)) (s : Shared) (σ : St) (H : Hp) (D : Addr) (N : Hp → Prop), Inv Y pins σ H s → t D σ H N → inn Y.env D (fun s' => ∃ σ' H', Inv Y pins σ' H' s' ∧ wipe σ' vs = wipe σ vs ∧ N H') s
/-- inn may be asked for less -/
def InnMono (inn : Inn) : Prop := ∀ ce D (N N' : Shared → Prop) s, (∀ s', N s' → N' s') → inn ce D N s → inn ce D N' s
theorem innD_mono {prog : Program} {w : World} {A : Around} {kx vx : Expr} : InnMono (innD prog w A kx vx) := fun ce D N N' s h q =>
  thnF q fun kv s4 h4 => thnF h4 fun vv s5 h5 => thnF h5 fun _ s6 h6 => h s6 h6
theorem innL_mono {prog : Program} {w : World} {A : Around} {e i1 : Expr} : InnMono (innL prog w A e i1) := fun ce D N N' s h q =>
  thnF q fun kv s4 h4 => thnF h4 fun vv s5 h5 => codeAny_mono h5 fun r s' hr => by
    cases r with
    | ok _ => exact h s' hr
    | error _ => exact hr
/-- the rule of one clause -/
def ClW (J : It) (vs : List Nat) (g : TG) (tt : L2.TT) (tn : TN) (D : Addr) (σ : St) (W : Nat → Nat → Hp → Prop) (Q : Hp → Prop) : Prop := ∀ i m H, W i m H →
  (J.stop i H ∧ Q H) ∨ (J.go i H ∧ ∃ Nx : Hp → Prop, (∀ H', Nx H' → ∃ m', m' < m ∧ W (i + 1) m' H') ∧ ∀ x H', J.yld i H x H' → g x (wipe σ vs) H' fun σ2 H2 => wipe σ2 vs = wipe σ vs ∧ tt σ2 H2 fun b H3 =>
    if b = true then tn D σ2 H3 Nx else Nx H3)
theorem clause_loop {Y : Cx} {pins : List (Addr × Obj)} {e tg : Expr} {k : Nat} {ifs : List Expr} {inn : Inn} {vs : List Nat} {g : TG} {tt : L2.TT} {tn : TN} {J : It} {fp : List Addr} {it D : Addr} {tm : Nat → Heap → Prop} {σ : St} {H : Hp} {s : Shared} {W : Nat → Nat → Hp → Prop} {Q : Hp → Prop} {R : Result → Shared → Prop} {m0 : Nat}
    (hc : Y.calm = true) (hx : Y.xe = FF) (pg : PG Y tg g) (pt : PTs Y ifs tt) (pn : PInn Y vs inn tn) (mo : InnMono inn) (L : LoopOf Y.prog Y.w Y.A e k tg ifs inn) (T : Turn Y.prog Y.w Y.K tg J fp it tm)
    (I : Inv Y pins (wipe σ vs) H s) (f : ∀ b ∈ fp, FpOk Y pins H b) (st : tm 0 s.heap) (w0 : W 0 m0 H) (turn : ClW J vs g tt tn D σ W Q)
    (done : ∀ s' H', Inv Y pins (wipe σ vs) H' s' → (∀ b ∈ fp, H' b = none) → Q H' → R (.ok .next) s') : codeAny (model Y.prog Y.w) Y.A (.compLoop e k (.ref it) (.ref D) Y.env) R s := by
  have okF : ∀ {H' : Hp}, (∀ b ∈ fp, H' b = none) → ∀ b ∈ fp, FpOk Y pins H' b := fun n b hb => ⟨n b hb, (f b hb).2⟩
  have rx : ∀ {α : Type} {t : Sem α} {q : α → Shared → Prop} {s : Shared}, wpAny (model Y.prog Y.w) Y.A t q Y.xe s → wpAny (model Y.prog Y.w) Y.A t q FF s := fun h => by rw [hx] at h; exact h
  refine L Y.env (.ref it) D R (fun n s' => ∃ i H', Inv Y pins (wipe σ vs) H' s' ∧ tm i s'.heap ∧ (∀ b ∈ fp, H' b = none) ∧ W i n H') ?_ m0 s ⟨0, H, I, st, fun b hb => (f b hb).1, w0⟩
  rintro n s1 ⟨i, H1, I1, st1, n1, w1⟩
  rcases turn i n H1 w1 with ⟨stop, q⟩ | ⟨go, Nx, hN, step⟩
  · refine thnF (T.done Y rfl rfl rfl hc i pins s1 (wipe σ vs) H1 FF I1 (okF n1) st1 stop) fun r s2 ⟨hr, I2⟩ => ?_
    subst hr
    exact done s2 H1 I2 n1 q
  · refine thnF (T.item Y rfl rfl rfl hc i pins s1 (wipe σ vs) H1 FF I1 (okF n1) st1 go) fun r s2 ⟨u, hr, h2⟩ => ?_
    subst hr
    refine thnF h2 fun _ s3 ⟨x, H3, I3, r3, y3, st3, n3⟩ => ?_
    have P3 := I3.pinned (okF n3) (T.obj _ _ st3)
    refine thnF (rx (pg.run _ s3 (wipe σ vs) H3 x u _ P3 r3 (step x H3 y3))) fun _ s4 ⟨σ4, H4, P4, e4, q4⟩ => ?_
    refine thnF (rx (pt.run _ s4 σ4 H4 _ P4 q4)) fun b s5 ⟨H5, P5, q5⟩ => ?_
    have back : ∀ {s' : Shared} {σ' : St} {H' : Hp}, Inv Y (pins ++ pinsAt fp s3.heap) σ' H' s' → wipe σ' vs = wipe σ vs → Nx H' → ∃ m, m < n ∧ ∃ i H', Inv Y pins (wipe σ vs) H' s' ∧ tm i s'.heap ∧ (∀ b ∈ fp, H' b = none) ∧ W i m H' := fun {s' σ' H'} P' es nx => by
      obtain ⟨m', hm, w'⟩ := hN H' nx
      have fixed : ∀ b ∈ fp, ∀ o, s3.heap.get? b = some o → s'.heap.get? b = some o ∧ H' b = none := fun b hb o eo => by
        have z := P'.pin (b, o) (List.mem_append_right _ (List.mem_append_right _ (mem_pinsAt hb eo)))
        exact ⟨z.1, z.2.1⟩
      refine ⟨m', hm, i + 1, H', P'.unpinned.weak ?_ (fun j v ej => ?_), T.keep _ _ _ st3 fun b hb o eo => (fixed b hb o eo).1, fun b hb => ?_, w'⟩
      · rw [← es, wipe_length]
      · rw [← es] at ej; exact (wipe_some ej).1
      · obtain ⟨o, eo, _⟩ := T.obj _ _ st3 b hb
        exact (fixed b hb o eo).2
    cases b with
    | false => exact back P5 e4 q5
    | true => exact mo _ _ _ _ _ (fun s' ⟨σ6, H6, P6, e6, q6⟩ => back P6 (e6.trans e4) q6) (pn.run _ s5 σ4 H5 D Nx P5 q5)
/-- {.. for tg in iter ..}: D the new dict -/
def tDcG (wi : TI) (g : TG) (tt : L2.TT) (tn : TN) (vs : List Nat) : TE := fun σ H Q => wi σ H fun J H1 => ∀ D, H1 D = none → ∃ W : Nat → Nat → Hp → Prop, (∃ m, W 0 m (upd H1 D (.dK []))) ∧ ClW J vs g tt tn D σ W fun H => Q (.ref D) H
theorem dcG_core {X : Cx} {pins : List (Addr × Obj)} {s : Shared} {σ : St} {H : Hp} {Q : VK} {pos' : Pos} {use : Option (Value → Sem Unit)} {Qf : Value → Shared → Prop} {kx vx tg iter : Expr} {ifs : List Expr} {rest : List Comprehension} {scope : Scope} {own : List (Str × Nat)} {pos : Pos} {wi : TI} {g : TG} {tt : L2.TT} {tn : TN} {inn : Inn} (hc : X.calm = true) (hN : X.N.Nodup) (hi : PI X tg iter wi) (ok : BlkOk X.N X.env.scope scope own)
    (hg : ∀ (s : Shared) (H : Hp) (C : Addr) (cl : List (Str × Addr)) (fp : List Addr), PG (X.blk s H scope (compEnvC scope cl C X.env) fp) tg g)
    (ht : ∀ (s : Shared) (H : Hp) (C : Addr) (cl : List (Str × Addr)) (fp : List Addr), PTs (X.blk s H scope (compEnvC scope cl C X.env) fp) ifs tt)
    (hn : ∀ (s : Shared) (H : Hp) (C : Addr) (cl : List (Str × Addr)) (fp : List Addr), PInn (X.blk s H scope (compEnvC scope cl C X.env) fp) (own.map (·.2)) inn tn)
    (mo : InnMono inn) (L : LoopOf X.prog X.w X.A (.DictComp kx vx (⟨tg, iter, ifs, 0⟩ :: rest) scope pos) 0 tg ifs inn) (hs : ∀ x, foldedSetIterable iter X.env x = pure x) (I : Inv X pins σ H s) (h : tDcG wi g tt tn (own.map (·.2)) σ H Q)
    (hRR : ∀ D C s' m H', Inv X pins σ H' s' → Q (.ref D) H' → s'.heap.Ns C m → FpOk X pins H' C → compPost (model X.prog X.w) X.A X.xe use Qf (.ref D) C (.ok .next) s') :
    wpAny (model X.prog X.w) X.A (comprehension (.DictComp kx vx (⟨tg, iter, ifs, 0⟩ :: rest) scope pos) scope X.env pos' newDict false (eval iter X.env) use) Qf X.xe s := by
  have free : ∀ y ∈ scope.names, y.2 = .free → ∃ c, X.env.cells.lookup y.1 = some c := fun y hy ey => (ok.free y hy ey).elim (fun k => I.ok.has _ (.inl k)) fun k => I.ok.has _ (.inr k)
  refine wpAny_comprehension_free (use := use) rfl hs (closure_ok free) ok.kind (fun y hy ey => by rw [ok.uniq y hy, ey]) ?_
  refine thn (hi.run pins s σ H _ I h) fun xv s1 hx => thn hx fun itv s2 h2 => ?_
  obtain ⟨it, fp, tm, J, H2, ev, I2, T, st2, f2, q⟩ := h2
  subst ev
  refine wpAny_newObj_type (newEnv_comp ?_)
  have hDn : H2 s2.heap.objs.size = none := I2.hok.fresh (Nat.le_refl _)
  obtain ⟨W, ⟨m0, w0⟩, turn⟩ := q s2.heap.objs.size hDn
  have h3 : ∀ b o, s2.heap.get? b = some o → (s2.heap.push { cls := .type "dict", data := .dict #[] }).get? b = some o := fun b o eo => Heap.get?_push_of_some _ eo
  have I3 : Inv X pins σ (upd H2 s2.heap.objs.size (.dK [])) { s2 with heap := s2.heap.push { cls := .type "dict", data := .dict #[] } } := I2.laid (t' := s2.toks) h3 (Nat.le_refl _) (dk_empty s2.heap I2.big)
  generalize hS : s2.heap.objs.size = D at hDn w0 turn I3 ⊢
  generalize hs3 : ({ s2 with heap := s2.heap.push { cls := .type "dict", data := .dict #[] } } : Shared) = s3 at I3
  have e3 : s3.heap = s2.heap.push { cls := .type "dict", data := .dict #[] } := by rw [← hs3]
  have low : ∀ b ∈ fp, b < s2.heap.objs.size := fun b hb => by
    obtain ⟨o, eo, _⟩ := T.obj _ _ st2 b hb
    exact Heap.lt_size eo
  have f3 : ∀ b ∈ fp, FpOk X pins (upd H2 D (.dK [])) b ∧ b < s3.heap.objs.size := fun b hb => by
    have lt := low b hb
    refine ⟨⟨?_, (f2 b hb).2⟩, ?_⟩
    · rw [upd_ne (by rw [← hS]; exact Nat.ne_of_lt lt)]; exact (f2 b hb).1
    · rw [e3, Heap.size_push]; exact Nat.lt_succ_of_lt lt
  have st3 : tm 0 s3.heap := T.keep _ _ _ st2 fun b _ o eo => by rw [e3]; exact h3 b o eo
  have I4 := block_start I3 ok hN f3
  have st4 : tm 0 (pushCells (s3.heap.push { cls := .type "dict", data := .dict #[] }) scope.names) := T.keep _ _ _ st3 fun b _ o eo => pushCells_keeps _ _ _ _ (Heap.get?_push_of_some _ eo)
  have pg := hg s3 (upd H2 D (.dK [])) s3.heap.objs.size (cellsFrom (s3.heap.objs.size + 1) scope.names (cloFrom X.env.cells scope.names [])) fp
  have pt := ht s3 (upd H2 D (.dK [])) s3.heap.objs.size (cellsFrom (s3.heap.objs.size + 1) scope.names (cloFrom X.env.cells scope.names [])) fp
  have pn := hn s3 (upd H2 D (.dK [])) s3.heap.objs.size (cellsFrom (s3.heap.objs.size + 1) scope.names (cloFrom X.env.cells scope.names [])) fp
  show codeAny _ _ (.compStart _ 0 (.ref it) (.ref D) (compEnvC scope (cellsFrom (s3.heap.objs.size + 1) scope.names (cloFrom X.env.cells scope.names [])) s3.heap.objs.size X.env)) (compPost (model X.prog X.w) X.A X.xe use _ (.ref D) s3.heap.objs.size) { s3 with heap := pushCells (s3.heap.push { cls := .type "dict", data := .dict #[] }) scope.names }
  have cL : (compEnvC scope (cellsFrom (s3.heap.objs.size + 1) scope.names (cloFrom X.env.cells scope.names [])) s3.heap.objs.size X.env).locals = s3.heap.objs.size := rfl
  generalize compEnvC scope (cellsFrom (s3.heap.objs.size + 1) scope.names (cloFrom X.env.cells scope.names [])) s3.heap.objs.size X.env = ce at I4 pg pt pn cL ⊢
  generalize hs4 : ({ s3 with heap := pushCells (s3.heap.push { cls := .type "dict", data := .dict #[] }) scope.names } : Shared) = s4 at I4 ⊢
  have st4' : tm 0 s4.heap := by rw [← hs4]; exact st4
  have f4 : ∀ b ∈ fp, FpOk (X.blk s3 (upd H2 D (.dK [])) scope ce fp) [] (upd H2 D (.dK [])) b := fun b hb =>
    ⟨(f3 b hb).1.1, (I4.ok.exf b hb).1, I4.ok.exfs b hb, .inl hb, fun x c ec => (I4.ok.exf b hb).2 x c ec, fun p hp => absurd (show p ∈ ([] : List (Addr × Obj)) ++ [] from hp) (by simp)⟩
  have loop := clause_loop (Y := X.blk s3 (upd H2 D (.dK [])) scope ce fp) (R := compPost (model X.prog X.w) X.A X.xe use Qf (.ref D) s3.heap.objs.size) hc rfl pg pt pn mo L T I4 f4 st4' w0 turn fun s' H' I' n' q' => by
    have I7 : Inv X pins σ H' s' := I3.call' (ch := fp) I'.os I'.base I'.hok I'.bare fun b hb => ⟨(f3 b hb).1.2.2.2.1, (f3 b hb).1.2.1, (f3 b hb).1.2.2.2.2.1, (f3 b hb).1.2.2.2.2.2⟩
    have nC : H' s3.heap.objs.size = none := by
      have z : H' ce.locals = none := I'.free
      rw [cL] at z
      exact z
    obtain ⟨m, hm, _⟩ := I'.loc
    have hm : s'.heap.Ns ce.locals m := hm
    rw [cL] at hm
    exact hRR D s3.heap.objs.size s' m H' I7 q' hm (I3.fpOk (b := s3.heap.objs.size) (Nat.le_refl _) nC)
  exact codeAny_compStart_dict loop (T.self X.A 0 _ _ _ st4' loop)
theorem pe_dcG {X : Cx} {kx vx tg iter : Expr} {ifs : List Expr} {rest : List Comprehension} {scope : Scope} {own : List (Str × Nat)} {pos : Pos} {wi : TI} {g : TG} {tt : L2.TT} {tn : TN} {inn : Inn} (hc : X.calm = true) (hN : X.N.Nodup) (hi : PI X tg iter wi) (ok : BlkOk X.N X.env.scope scope own)
    (hg : ∀ (s : Shared) (H : Hp) (C : Addr) (cl : List (Str × Addr)) (fp : List Addr), PG (X.blk s H scope (compEnvC scope cl C X.env) fp) tg g)
    (ht : ∀ (s : Shared) (H : Hp) (C : Addr) (cl : List (Str × Addr)) (fp : List Addr), PTs (X.blk s H scope (compEnvC scope cl C X.env) fp) ifs tt)
    (hn : ∀ (s : Shared) (H : Hp) (C : Addr) (cl : List (Str × Addr)) (fp : List Addr), PInn (X.blk s H scope (compEnvC scope cl C X.env) fp) (own.map (·.2)) inn tn)
    (mo : InnMono inn) (L : LoopOf X.prog X.w X.A (.DictComp kx vx (⟨tg, iter, ifs, 0⟩ :: rest) scope pos) 0 tg ifs inn) (hs : ∀ x, foldedSetIterable iter X.env x = pure x := by intro _; rfl) :
    PE X (.DictComp kx vx (⟨tg, iter, ifs, 0⟩ :: rest) scope pos) (tDcG wi g tt tn (own.map (·.2))) := by
  refine ⟨fun pins s σ H Q I h => ?_⟩
  rw [arm_eval_DictComp]
  refine dcG_core hc hN hi ok hg ht hn mo L hs I h fun D C s' m H' I' q hm fo => ⟨m, hm, fun h'' sb => ?_⟩
  obtain ⟨g0, g1, g2, g3, g4, g5⟩ := fo
  exact ⟨.ref D, H', I'.turned (t' := s'.toks) (fun b o hb eo => (sb.2 b hb).trans eo) g0 g1 g3 g4 g5, rfl, q⟩
/-- y = {..} -/
theorem ps_setDcG {X : Cx} {i : Nat} {y : Str} {py spos : Pos} {kx vx tg iter : Expr} {ifs : List Expr} {rest : List Comprehension} {scope : Scope} {own : List (Str × Nat)} {pos : Pos} {wi : TI} {g : TG} {tt : L2.TT} {tn : TN} {inn : Inn} (hc : X.calm = true) (hN : X.N.Nodup) (hy : X.N[i]? = some y) (hyl : X.env.scope.names.lookup y = some .local)
    (hsw : swapsWith (.DictComp kx vx (⟨tg, iter, ifs, 0⟩ :: rest) scope pos) (some (.Name y py)) spos.line X.env = pure true) (hi : PI X tg iter wi) (ok : BlkOk X.N X.env.scope scope own)
    (hg : ∀ (s : Shared) (H : Hp) (C : Addr) (cl : List (Str × Addr)) (fp : List Addr), PG (X.blk s H scope (compEnvC scope cl C X.env) fp) tg g)
    (ht : ∀ (s : Shared) (H : Hp) (C : Addr) (cl : List (Str × Addr)) (fp : List Addr), PTs (X.blk s H scope (compEnvC scope cl C X.env) fp) ifs tt)
    (hn : ∀ (s : Shared) (H : Hp) (C : Addr) (cl : List (Str × Addr)) (fp : List Addr), PInn (X.blk s H scope (compEnvC scope cl C X.env) fp) (own.map (·.2)) inn tn)
    (mo : InnMono inn) (L : LoopOf X.prog X.w X.A (.DictComp kx vx (⟨tg, iter, ifs, 0⟩ :: rest) scope pos) 0 tg ifs inn) (hs : ∀ x, foldedSetIterable iter X.env x = pure x := by intro _; rfl) :
    PS X (.Assign [.Name y py] (.DictComp kx vx (⟨tg, iter, ifs, 0⟩ :: rest) scope pos) spos) (tAsg (tDcG wi g tt tn (own.map (·.2))) (gName i)) := by
  refine ⟨fun pins s σ H Z I h => ?_⟩
  rw [exec_Assign_Name_used _ _ _ _ hsw]
  refine wpAny_bind (wpAny_standAt (wpAny_bind ?_))
  show wpAny _ X.A (do let _ ← comprehension (.DictComp kx vx (⟨tg, iter, ifs, 0⟩ :: rest) scope pos) scope X.env (firstIterPos (⟨tg, iter, ifs, 0⟩ :: rest) pos) newDict false (eval iter X.env) (some (assign (.Name y py) X.env))) _ _ s
  have h : tDcG wi g tt tn (own.map (·.2)) σ H (fun x H1 => gName i x σ H1 Z.nx) := h
  refine wpAny_bind (thn (dcG_core (Qf := fun _ s' => SP X pins Z .next s') hc hN hi ok hg ht hn mo L hs I h fun D C s' m H' I' q hm fo => ?_) fun _ s' hq => wpAny_pure (wpAny_pure hq))
  show wpAny _ _ (assign (.Name y py) X.env (.ref D)) _ _ _
  refine wpAny_assign_Name (store_ok2 (v := V.ref D) I' hN hy (.inl hyl) rfl (fun s2 I2 ⟨a, sb, ha⟩ => ?_) (.inr hyl))
  obtain ⟨g0, g1, g2, g3, g4, g5⟩ := fo
  have neC : C ≠ a := ha.elim (fun z => by rw [z]; exact g1) fun z e => g4 y a z e.symm
  exact ⟨m, hm.sameBut sb neC, fun h3 sb3 => ⟨_, H', I2.turned (t' := s2.toks) (fun b o hb eo => (sb3.2 b hb).trans eo) g0 g1 g3 g4 g5, q⟩⟩
theorem sw_trueD {kx vx : Expr} {gs : List Comprehension} {scope : Scope} {pos py : Pos} {y : Str} {l : Nat} {env : PySem.Env} (hk : env.scope.kind = .function) (hy : env.scope.names.lookup y = some .local) (hl : (py.line == pos.line) = true)
    (ha : (scope.names.any fun (n, k) => n == y && (k == .local || k == .cell)) = false) : swapsWith (.DictComp kx vx gs scope pos) (some (.Name y py)) l env = pure true := by
  have k1 : env.kindOf y = some .local := hy
  have k2 : env.blockKind = .function := by unfold Env.blockKind; rw [hk]; rfl
  unfold swapsWith
  simp only [k2, k1, ha, Expr.pos, hl]
  rfl
end Lay
namespace Lay
open PySem PySem.Spec L2
section
variable {X : Cx} {pins : List (Addr × Obj)} {σ : St} {H : Hp} {s : Shared} {a b : Addr} {es : List NEnt} {k : NestedKey} {A : Around} {E : Value → Shared → Prop}
theorem nd_dictSet {v : V} {r : Value} {Q : Unit → Shared → Prop} (hu : A.units + 8 < cLine) (I : Inv X pins σ H s) (e : NOw X.K H a es) (kb : KRep X.K H k (.ref b)) (hdp : k.depth ≤ 8) (ho : okN k = true) (hl : es.length < sizeLine) (rv : RelV v r)
    (h : ∀ s', Inv X pins σ (upd H a (nO a (putN es k b v))) s' → Q () s') : wpAny (model X.prog X.w) A (dictSet a (.ref b) r) Q E s := by
  obtain ⟨hd, z, xs, rel, dd⟩ := nat_of I e.at
  have hz : xs.length ≤ sizeLine := by rw [← Paired.length rel]; exact z
  have hl' : (putN es k b v).length ≤ sizeLine := by have := length_putN es k b v; omega
  refine wpAny_dictSet_heap (hsz := hz) hu (nkey_is I kb hdp) dd fun h' dd' hs => h _ ?_
  have he : ∃ q, h'.get? a = some q := let ⟨q, _, _, hq, _⟩ := dd'; ⟨q, hq⟩
  refine d_write I e.mut hs he (nd_new hd hl' (fun x hx => ?_) (rel.put k rv) dd')
  unfold putN at hx
  split at hx
  · obtain ⟨y, hy, rfl⟩ := List.mem_map.mp hx
    unfold setN
    split <;> exact e.at.okN y hy
  · rcases List.mem_append.mp hx with hx | hx
    · exact e.at.okN x hx
    · cases List.mem_singleton.mp hx; exact ho
end
def tnN (K : PySem.W.Frag) (tk tv : TE) : TN := fun D σ H Nx => tk σ H fun y H1 => tv σ H1 fun z H2 => ∃ b es k, y = .ref b ∧ NOw K H2 D es ∧ KRep K H2 k (.ref b) ∧ k.depth ≤ 8 ∧ okN k = true ∧ es.length < sizeLine ∧ Nx (upd H2 D (nO D (putN es k b z)))
theorem pinn_d {Y : Cx} {kx vx : Expr} {tk tv : TE} {vs : List Nat} (hx : Y.xe = FF) (hu : Y.A.units + 8 < cLine) (hk : PE Y kx tk) (hv : PE Y vx tv) : PInn Y vs (innD Y.prog Y.w Y.A kx vx) (tnN Y.K tk tv) := ⟨fun pins s σ H D N I h => by
  have rx : ∀ {α : Type} {t : Sem α} {q : α → Shared → Prop} {s : Shared}, wpAny (model Y.prog Y.w) Y.A t q Y.xe s → wpAny (model Y.prog Y.w) Y.A t q FF s := fun h => by rw [hx] at h; exact h
  refine thnF (rx (hk.run pins s σ H _ I h)) fun u s1 h1 => ?_
  obtain ⟨y, H1, I1, r1, q1⟩ := h1
  refine thnF (rx (hv.run pins s1 σ H1 _ I1 q1)) fun u2 s2 h2 => ?_
  obtain ⟨z, H2, I2, r2, b, es, k, ey, hn, kb, hd, ho, hl, q⟩ := h2
  subst ey
  cases r1
  exact nd_dictSet hu I2 hn kb hd ho hl r2 fun s3 I3 => ⟨σ, _, I3, rfl, q⟩⟩
theorem wipe_sub {σ : St} {vs vs1 : List Nat} (h : ∀ i ∈ vs1, i ∈ vs) : wipe (wipe σ vs1) vs = wipe σ vs := by
  apply List.ext_getElem?
  intro j
  rw [wipe_get, wipe_get, wipe_get]
  by_cases hj : j ∈ vs
  · rw [if_pos hj, if_pos hj]
    by_cases h1 : j ∈ vs1
    · rw [if_pos h1, Option.map_map]; rfl
    · rw [if_neg h1]
  · rw [if_neg hj, if_neg hj, if_neg (fun z => hj (h j z))]
def tn2 (wi1 : TI) (g1 : TG) (tt1 : L2.TT) (tn : TN) (vs1 : List Nat) : TN := fun D σ H Nx => wi1 σ H fun J1 H1 => ∃ W1 : Nat → Nat → Hp → Prop, (∃ m, W1 0 m H1) ∧ ClW J1 vs1 g1 tt1 tn D σ W1 Nx
theorem pinn_2 {Y : Cx} {kx vx tg iter tg1 iter1 : Expr} {ifs ifs1 : List Expr} {scope : Scope} {pos : Pos} {vs vs1 : List Nat} {wi1 : TI} {g1 : TG} {tt1 : L2.TT} {tn : TN} (hx : Y.xe = FF) (hc : Y.calm = true) (sub : ∀ i ∈ vs1, i ∈ vs) (hi : PI Y tg1 iter1 wi1) (pg : PG Y tg1 g1) (pt : PTs Y ifs1 tt1)
    (pn : PInn Y vs1 (innD Y.prog Y.w Y.A kx vx) tn) : PInn Y vs (innL Y.prog Y.w Y.A (.DictComp kx vx [⟨tg, iter, ifs, 0⟩, ⟨tg1, iter1, ifs1, 0⟩] scope pos) iter1) (tn2 wi1 g1 tt1 tn vs1) := ⟨fun pins s σ H D N I h => by
  have rx : ∀ {α : Type} {t : Sem α} {q : α → Shared → Prop} {s : Shared}, wpAny (model Y.prog Y.w) Y.A t q Y.xe s → wpAny (model Y.prog Y.w) Y.A t q FF s := fun h => by rw [hx] at h; exact h
  refine thnF (rx (hi.run pins s σ H _ I h)) fun xv s1 h1 => thnF (rx h1) fun jv s2 h2 => ?_
  obtain ⟨it, fp, tm, J, H2, ej, I2, T, st2, f2, W1, ⟨m0, w0⟩, turn⟩ := h2
  subst ej
  have loop := clause_loop (R := fun r s' => match r with
    | .ok _ => ∃ σ' H', Inv Y pins σ' H' s' ∧ wipe σ' vs = wipe σ vs ∧ N H'
    | .error _ => False) hc hx pg pt pn innD_mono (loop_d2b (kx := kx) (vx := vx) (tg := tg) (iter := iter) (iter1 := iter1) (ifs := ifs) (scope := scope) (pos := pos)) T (I2.weak (wipe_length _ _) fun j v e => (wipe_some e).1) f2 st2 w0 turn fun s' H' I' n' q' => ⟨wipe σ vs1, H', I', wipe_sub sub, q'⟩
  exact start_d2 loop (T.self Y.A 0 _ _ _ st2 loop)⟩
/-- one clause -/
theorem pe_dcN {X : Cx} {kx vx tg iter : Expr} {ifs : List Expr} {scope : Scope} {own : List (Str × Nat)} {pos : Pos} {wi : TI} {g : TG} {tt : L2.TT} {tk tv : TE} (hu : X.A.units + 8 < cLine) (hc : X.calm = true) (hN : X.N.Nodup) (hi : PI X tg iter wi) (ok : BlkOk X.N X.env.scope scope own)
    (hg : ∀ (s : Shared) (H : Hp) (C : Addr) (cl : List (Str × Addr)) (fp : List Addr), PG (X.blk s H scope (compEnvC scope cl C X.env) fp) tg g)
    (ht : ∀ (s : Shared) (H : Hp) (C : Addr) (cl : List (Str × Addr)) (fp : List Addr), PTs (X.blk s H scope (compEnvC scope cl C X.env) fp) ifs tt)
    (hk : ∀ (s : Shared) (H : Hp) (C : Addr) (cl : List (Str × Addr)) (fp : List Addr), PE (X.blk s H scope (compEnvC scope cl C X.env) fp) kx tk)
    (hv : ∀ (s : Shared) (H : Hp) (C : Addr) (cl : List (Str × Addr)) (fp : List Addr), PE (X.blk s H scope (compEnvC scope cl C X.env) fp) vx tv) (hs : ∀ x, foldedSetIterable iter X.env x = pure x := by intro _; rfl) :
    PE X (.DictComp kx vx [⟨tg, iter, ifs, 0⟩] scope pos) (tDcG wi g tt (tnN X.K tk tv) (own.map (·.2))) :=
  pe_dcG hc hN hi ok hg ht (fun s H C cl fp => pinn_d (Y := X.blk s H scope (compEnvC scope cl C X.env) fp) rfl hu (hk s H C cl fp) (hv s H C cl fp)) innD_mono loop_d1 hs
/-- two clauses -/
theorem pe_dcN2 {X : Cx} {kx vx tg iter tg1 iter1 : Expr} {ifs ifs1 : List Expr} {scope : Scope} {own : List (Str × Nat)} {vs1 : List Nat} {pos : Pos} {wi wi1 : TI} {g g1 : TG} {tt tt1 : L2.TT} {tk tv : TE} (hu : X.A.units + 8 < cLine) (hc : X.calm = true) (hN : X.N.Nodup) (hi : PI X tg iter wi) (ok : BlkOk X.N X.env.scope scope own)
    (sub : ∀ i ∈ vs1, i ∈ own.map (·.2))
    (hg : ∀ (s : Shared) (H : Hp) (C : Addr) (cl : List (Str × Addr)) (fp : List Addr), PG (X.blk s H scope (compEnvC scope cl C X.env) fp) tg g)
    (ht : ∀ (s : Shared) (H : Hp) (C : Addr) (cl : List (Str × Addr)) (fp : List Addr), PTs (X.blk s H scope (compEnvC scope cl C X.env) fp) ifs tt)
    (hi1 : ∀ (s : Shared) (H : Hp) (C : Addr) (cl : List (Str × Addr)) (fp : List Addr), PI (X.blk s H scope (compEnvC scope cl C X.env) fp) tg1 iter1 wi1)
    (hg1 : ∀ (s : Shared) (H : Hp) (C : Addr) (cl : List (Str × Addr)) (fp : List Addr), PG (X.blk s H scope (compEnvC scope cl C X.env) fp) tg1 g1)
    (ht1 : ∀ (s : Shared) (H : Hp) (C : Addr) (cl : List (Str × Addr)) (fp : List Addr), PTs (X.blk s H scope (compEnvC scope cl C X.env) fp) ifs1 tt1)
    (hk : ∀ (s : Shared) (H : Hp) (C : Addr) (cl : List (Str × Addr)) (fp : List Addr), PE (X.blk s H scope (compEnvC scope cl C X.env) fp) kx tk)
    (hv : ∀ (s : Shared) (H : Hp) (C : Addr) (cl : List (Str × Addr)) (fp : List Addr), PE (X.blk s H scope (compEnvC scope cl C X.env) fp) vx tv) (hs : ∀ x, foldedSetIterable iter X.env x = pure x := by intro _; rfl) (hs1 : ∀ ce x, foldedSetIterable iter1 ce x = pure x := by intro _ _; rfl) :
    PE X (.DictComp kx vx [⟨tg, iter, ifs, 0⟩, ⟨tg1, iter1, ifs1, 0⟩] scope pos) (tDcG wi g tt (tn2 wi1 g1 tt1 (tnN X.K tk tv) vs1) (own.map (·.2))) :=
  pe_dcG hc hN hi ok hg ht (fun s H C cl fp => pinn_2 (Y := X.blk s H scope (compEnvC scope cl C X.env) fp) rfl hc sub (hi1 s H C cl fp) (hg1 s H C cl fp) (ht1 s H C cl fp) (pinn_d (Y := X.blk s H scope (compEnvC scope cl C X.env) fp) rfl hu (hk s H C cl fp) (hv s H C cl fp))) innL_mono (loop_d2a hs1) hs
/-- y = {..}, one clause -/
theorem ps_setDcN {X : Cx} {i : Nat} {y : Str} {py spos : Pos} {kx vx tg iter : Expr} {ifs : List Expr} {scope : Scope} {own : List (Str × Nat)} {pos : Pos} {wi : TI} {g : TG} {tt : L2.TT} {tk tv : TE} (hu : X.A.units + 8 < cLine) (hc : X.calm = true) (hN : X.N.Nodup) (hy : X.N[i]? = some y) (hyl : X.env.scope.names.lookup y = some .local)
    (hsw : swapsWith (.DictComp kx vx [⟨tg, iter, ifs, 0⟩] scope pos) (some (.Name y py)) spos.line X.env = pure true) (hi : PI X tg iter wi) (ok : BlkOk X.N X.env.scope scope own)
    (hg : ∀ (s : Shared) (H : Hp) (C : Addr) (cl : List (Str × Addr)) (fp : List Addr), PG (X.blk s H scope (compEnvC scope cl C X.env) fp) tg g)
    (ht : ∀ (s : Shared) (H : Hp) (C : Addr) (cl : List (Str × Addr)) (fp : List Addr), PTs (X.blk s H scope (compEnvC scope cl C X.env) fp) ifs tt)
    (hk : ∀ (s : Shared) (H : Hp) (C : Addr) (cl : List (Str × Addr)) (fp : List Addr), PE (X.blk s H scope (compEnvC scope cl C X.env) fp) kx tk)
    (hv : ∀ (s : Shared) (H : Hp) (C : Addr) (cl : List (Str × Addr)) (fp : List Addr), PE (X.blk s H scope (compEnvC scope cl C X.env) fp) vx tv) (hs : ∀ x, foldedSetIterable iter X.env x = pure x := by intro _; rfl) :
    PS X (.Assign [.Name y py] (.DictComp kx vx [⟨tg, iter, ifs, 0⟩] scope pos) spos) (tAsg (tDcG wi g tt (tnN X.K tk tv) (own.map (·.2))) (gName i)) :=
  ps_setDcG hc hN hy hyl hsw hi ok hg ht (fun s H C cl fp => pinn_d (Y := X.blk s H scope (compEnvC scope cl C X.env) fp) rfl hu (hk s H C cl fp) (hv s H C cl fp)) innD_mono loop_d1 hs
end Lay
namespace Lay
open PySem PySem.Spec L2
abbrev KVs := List (Dat × OT)
def dcL (own : List Nat) (g : TM) (t : M Bool) (inn : KVs → Env → R KVs) : List Dat → KVs → Env → R KVs
  | [], acc, ρ => .ok acc ρ
  | d :: r, acc, ρ => match g (.fz d) ρ with
    | .ok _ ρ1 => match t ρ1 with
      | .ok true ρ2 => match inn acc ρ2 with
        | .ok acc' ρ3 => dcL own g t inn r acc' (wipeE own ρ3)
        | _ => .bad
      | .ok false ρ2 => dcL own g t inn r acc (wipeE own ρ2)
      | _ => .bad
    | _ => .bad
def xDc (own : List Nat) (it : IM) (g : TM) (t : M Bool) (inn : KVs → Env → R KVs) : M Arg := fun ρ => (it ρ).bind fun p ρ1 => match lockE p.2 ρ1 with
  | none => .bad
  | some (ρ2, us) => if ∀ i ∈ p.2, i ∉ own then match dcL own g t inn p.1 [] (wipeE own ρ2) with
    | .ok kvs ρ3 => if ρ3.length = ρ2.length then match unlE us (restE ρ2 own ρ3) with
      | some ρ4 => .ok (.tmp (.dic kvs)) ρ4
      | none => .bad
      else .bad
    | _ => .bad
    else .bad
/-- an entry comes in -/
def inn1 (ek ev : M Arg) (acc : KVs) : Env → R KVs := fun ρ => (ek ρ).bind fun a ρ1 => (ev ρ1).bind fun b ρ2 => match look ρ2 a with
  | some (.fz d) => match keyT d with
    | some _ => if tupK acc && decide (acc.length < sizeLine) then match take1 ρ2 b with
      | some (.fz y, ρ3) => .ok (putK1 acc d (.fz y)) ρ3
      | _ => .bad
      else .bad
    | none => .bad
  | _ => .bad
/-- a second clause over a frozen tuple -/
def inn2 (own1 : List Nat) (ei : M Arg) (g1 : TM) (t1 : M Bool) (inn : KVs → Env → R KVs) (acc : KVs) : Env → R KVs := fun ρ => (ei ρ).bind fun a ρ1 => match look ρ1 a with
  | some (.fz (.tup ds)) => dcL own1 g1 t1 inn ds acc (wipeE own1 ρ1)
  | _ => .bad
/-- the dict at D: the table acc, all frozen -/
structure DSt (K : PySem.W.Frag) (T : Addr → Prop) (fs : Nat → List Addr) (H : Hp) (D : Addr) (acc : KVs) (es : List NEnt) : Prop where
  at_ : NOw K H D es
  keys : NKeys K (hide (Hd T fs) H) es
  rep : RepOk K (hide (Hd T fs) H) H acc (EP es) []
  fz : ∀ p ∈ acc, ∃ d, p.2 = .fz d
def FrD (D : Addr) (H : Hp) (fs : Nat → List Addr) (H' : Hp) (fs' : Nat → List Addr) : Prop := ∀ a x, H a = some x → ¬ Own fs a → a ≠ D → H' a = some x ∧ ¬ Own fs' a
theorem FrD.trans {D : Addr} {H H1 H2 : Hp} {fs fs1 fs2 : Nat → List Addr} (a : FrD D H fs H1 fs1) (b : FrD D H1 fs1 H2 fs2) : FrD D H fs H2 fs2 := fun x u h n e => by
  obtain ⟨h1, n1⟩ := a x u h n e
  exact b x u h1 n1 e
theorem FrD.of {D : Addr} {H H' : Hp} {fs fs' : Nat → List Addr} {l : List Addr} (f : Fr H (Own fs) H' (Ow l fs')) : FrD D H fs H' fs' := fun x u h n _ => by
  obtain ⟨h1, n1⟩ := f x u h n
  exact ⟨h1, fun z => n1 (.inr z)⟩
theorem FrD.of0 {D : Addr} {H H' : Hp} {fs fs' : Nat → List Addr} (f : Fr H (Own fs) H' (Own fs')) : FrD D H fs H' fs' := fun x u h n _ => f x u h n
/-- what may be read stays readable -/
theorem FrD.ex {D : Addr} {H H' : Hp} {fs fs' : Nat → List Addr} {T : Addr → Prop} (f : FrD D H fs H' fs') (hD : T D) : Ex (hide (Hd T fs) H) (hide (Hd T fs') H') := hide_ex fun a x n e => by
  obtain ⟨h1, n1⟩ := f a x e (fun z => n (.inr z)) (fun z => n (.inl (by rw [z]; exact hD)))
  exact ⟨fun z => z.elim (fun z => n (.inl z)) n1, h1⟩
theorem fzd_mono {K : PySem.W.Frag} {G G' H H' : Hp} (e : Ex G G') : ∀ {kvs : KVs} {ps : List (Dat × V)}, RepOk K G H kvs ps [] → RepOk K G' H' kvs ps [] := fun {kvs ps} h => RepOk.mono e kvs ps [] (fun _ hb => nomatch hb) h
section
variable {K : PySem.W.Frag} {T : Addr → Prop} {H H' : Hp} {fs fs' : Nat → List Addr} {D : Addr} {acc : KVs} {es : List NEnt}
/-- the dict itself is not touched -/
theorem DSt.step (d : DSt K T fs H D acc es) (f : FrD D H fs H' fs') (hT : T D) (hD : ∀ x, H D = some x → H' D = some x) : DSt K T fs' H' D acc es := by
  have e := f.ex hT
  have k := d.keys.mono e
  refine ⟨?_, k, fzd_mono e d.rep, d.fz⟩
  rcases d.at_ with ⟨h, _⟩ | ⟨h, q⟩
  · exact .inl ⟨hD _ h, k.mono hide_le⟩
  · exact .inr ⟨hD _ h, q⟩
end
/-- the inner part of a turn is told by inn -/
def InnOk (Z : Par) (own : List Nat) (inn : KVs → Env → R KVs) (tn : TN) : Prop :=
  ∀ (T : Addr → Prop) (P : Pins) (ρ : Env) (σ : St) (H : Hp) (fs : Nat → List Addr) (D : Addr) (acc : KVs) (es : List NEnt) (acc' : KVs) (ρ' : Env) (N : Hp → Prop), (∀ j ∈ own, P j = none) → Rp Z.K T P ρ σ H fs → T D → DSt Z.K T fs H D acc es →
    inn acc ρ = .ok acc' ρ' → (∀ σ' H' fs' es', Rp Z.K T P ρ' σ' H' fs' → wipe σ' own = wipe σ own → DSt Z.K T fs' H' D acc' es' → FrD D H fs H' fs' → N H') → tn D σ H N
theorem ok_inn1 {Z : Par} {own : List Nat} {ek ev : M Arg} : InnOk Z own (inn1 ek ev) (tnN Z.K (tD Z ek) (tD Z ev)) := by
  intro T P ρ σ H fs D acc es acc' ρ' N hP r hD d c q
  unfold inn1 at c
  cases e1 : ek ρ with
  | bad => rw [e1] at c; cases c
  | ex x ρ9 => rw [e1] at c; cases c
  | ok a ρ1 =>
  rw [e1] at c
  simp only [R.bind] at c
  cases e2 : ev ρ1 with
  | bad => rw [e2] at c; cases c
  | ex x ρ9 => rw [e2] at c; cases c
  | ok b ρ2 =>
  rw [e2] at c
  simp only at c
  refine ⟨T, P, ρ, fs, r, ?_⟩
  rw [e1]
  intro v H1 fs1 l1 r1 f1
  refine ⟨Tl T l1, P, ρ1, fs1, r1.rp, ?_⟩
  rw [e2]
  intro w H2 fs2 l2 r2 f2
  have a1 := AR.step r1.ar r1.rp.noair f2
  split at c
  · rename_i dk ck
    split at c
    · rename_i k hk
      split at c
      · rename_i hc
        split at c
        · rename_i y ρ3 ct
          cases c
          rw [Bool.and_eq_true, decide_eq_true_eq] at hc
          obtain ⟨g1, s1, _⟩ := RpA.see r2.rp a1 ck
          obtain ⟨⟨bk, rfl⟩, kb, ho, hdp, hdd⟩ := keyT_rep hk s1.2
          obtain ⟨fs3, r3, sub3, p3⟩ := take1_ok r2.rp r2.ar ct
          have f3 : FrD D H fs H2 fs3 := (FrD.of f1).trans fun x u h n e => by
            obtain ⟨h1, n1⟩ := f2 x u h n
            exact ⟨h1, fun z => n1 (.inr (sub3 x z))⟩
          have D1 : ∀ x, H D = some x → H1 D = some x := fun x e => (f1 D x e fun z => r.tf D z hD).1
          have D2 : ∀ x, H D = some x → H2 D = some x := fun x e => (f2 D x (D1 x e) fun z => r1.rp.tf D z (.inl hD)).1
          have d2 := d.step f3 hD D2
          have exk : Ex (hide (Hd (Tl (Tl T l1) l2) fs2) H2) (hide (Hd T fs3) H2) := hide_ex fun x u n e => ⟨fun z => n (z.elim (fun z => .inl (.inl (.inl z))) fun z => .inr (sub3 x z)), e⟩
          have exv : Ex (hide (Hd (Tl (Tl T l1) l2) fs3) H2) (hide (Hd T fs3) H2) := hide_ex fun x u n e => ⟨fun z => n (z.elim (fun z => .inl (.inl (.inl z))) fun z => .inr z), e⟩
          have hes : es.length < sizeLine := by rw [← EP_length es, d.rep.length]; exact hc.2
          subst hdd
          refine ⟨bk, es, k, rfl, d2.at_, KRep.mono (exk.trans hide_le) k _ kb, hdp, ho, hes, ?_⟩
          have rT : Rp Z.K T P ρ' σ (upd H2 D (nO D (putN es k bk w))) fs3 := Rp.updT r3.unl.unl hD _
          have exu : Ex (hide (Hd T fs3) H2) (hide (Hd T fs3) (upd H2 D (nO D (putN es k bk w)))) := hide_ex fun x u n e => ⟨n, by rw [upd_ne (fun z => n (.inl (by rw [z]; exact hD)))]; exact e⟩
          have kk : NKeys Z.K (hide (Hd T fs3) (upd H2 D (nO D (putN es k bk w)))) (putN es k bk w) := (d2.keys.mono exu).put (KRep.mono (exk.trans exu) k _ kb) ho hdp
          have old : ∀ o, getK acc (kN k) = some o → ∃ d0, o = .fz d0 := fun o z => by
            have : ∃ p ∈ acc, p.2 = o := by
              have gen : ∀ l : KVs, getK l (kN k) = some o → ∃ p ∈ l, p.2 = o := by
                intro l
                induction l with
                | nil => intro h; cases h
                | cons p l ih =>
                  intro h
                  unfold getK at h
                  split at h
                  · cases h; exact ⟨p, List.mem_cons_self, rfl⟩
                  · obtain ⟨p', h1, h2⟩ := ih h; exact ⟨p', List.mem_cons_of_mem _ h1, h2⟩
              exact gen acc z
            obtain ⟨p, hp, rfl⟩ := this
            exact d.fz p hp
          refine q σ _ fs3 (putN es k bk w) rT rfl ⟨.inl ⟨upd_same, kk.mono hide_le⟩, kk, ?_, ?_⟩ fun x u h n e => ?_
          · exact RepOk.put ho (RepD.mono (exv.trans exu) y w p3.2) (fun e he => (d2.keys.key e he).2.1) d2.keys.nodup (fzd_mono exu d2.rep) old
          · have gen : ∀ l : KVs, (∀ p ∈ l, ∃ d, p.2 = .fz d) → ∀ p ∈ putK1 l (kN k) (OT.fz y), ∃ d, p.2 = .fz d := by
              intro l
              induction l with
              | nil => intro _ p hp; cases List.mem_singleton.mp hp; exact ⟨y, rfl⟩
              | cons p0 l ih =>
                intro h p hp
                unfold putK1 at hp
                split at hp
                · rcases List.mem_cons.mp hp with rfl | hp
                  · exact ⟨y, rfl⟩
                  · exact h p (List.mem_cons_of_mem _ hp)
                · rcases List.mem_cons.mp hp with rfl | hp
                  · exact h _ List.mem_cons_self
                  · exact ih (fun p hp => h p (List.mem_cons_of_mem _ hp)) p hp
            exact gen acc d.fz
          · obtain ⟨h1, n1⟩ := f3 x u h n e
            exact ⟨by rw [upd_ne e]; exact h1, n1⟩
        · cases c
      · cases c
    · cases c
  · cases c
/-- a clause's loop -/
theorem dcL_op {Z : Par} {W0 : Value → Option Addr → St → Hp → Prop} {own S : List Nat} (hS : ∀ j ∈ S, j ∈ own) {g : TM} {t : M Bool} {inn : KVs → Env → R KVs} {tn : TN} (hi : InnOk ⟨Z.K, Z.mg, W0⟩ own inn tn) {J : It} {ds : List Dat} {G : Hp → Prop} {Y : Nat → Hp → V → Hp → Prop} (w : Walk J ds.length G Y)
    {T : Addr → Prop} {P : Pins} {ρ : Env} {σ : St} {H1 : Hp} {fs1 : Nat → List Addr} {D : Addr} {acc : KVs} {es : List NEnt} {accF : KVs} {ρF : Env} {Q : Hp → Prop} (hP : ∀ j ∈ own, P j = none) (r0 : Rp Z.K T P ρ (wipe σ own) H1 fs1) (hD : T D) (d0 : DSt Z.K T fs1 H1 D acc es)
    (hun : ∀ j ∈ own, ∀ s, ρ[j]? = some s → s = .un) (hdl : dcL own g t inn ds acc ρ = .ok accF ρF) (hG : ∀ ρ' fs' H', Rp Z.K T P ρ' (wipe σ own) H' fs' → FrD D H1 fs1 H' fs' → G H')
    (hY : ∀ i ρ' fs' H2 x H3, i < ds.length → Rp Z.K T P ρ' (wipe σ own) H2 fs' → FrD D H1 fs1 H2 fs' → Y i H2 x H3 → Ex H2 H3 ∧ ∃ d, ds[i]? = some d ∧ RepD Z.K (hide (Hd T fs') H3) d x)
    (hQ : ∀ H' fs' es', Rp Z.K T P ρF (wipe σ own) H' fs' → DSt Z.K T fs' H' D accF es' → FrD D H1 fs1 H' fs' → (∀ j ∈ own, ∀ s, ρF[j]? = some s → s = .un) → Q H') :
    ∃ W : Nat → Nat → Hp → Prop, (∃ m, W 0 m H1) ∧ ClW J own (gD ⟨Z.K, Z.mg, W0⟩ S g) (tDT ⟨Z.K, Z.mg, W0⟩ t) tn D σ W Q := by
  let Pv : Nat → Hp → Prop := fun i H' => ∃ ρ' fs' acc' es', Rp Z.K T P ρ' (wipe σ own) H' fs' ∧ DSt Z.K T fs' H' D acc' es' ∧ FrD D H1 fs1 H' fs' ∧ dcL own g t inn (ds.drop i) acc' ρ' = .ok accF ρF ∧ ∀ j ∈ own, ∀ s, ρ'[j]? = some s → s = .un
  have unw : ∀ ρ0 : Env, ∀ j ∈ own, ∀ s, (wipeE own ρ0)[j]? = some s → s = .un := fun ρ0 j hj s e => by
    rw [wipeE_get, if_pos hj] at e
    cases er : ρ0[j]? with
    | none => rw [er] at e; cases e
    | some s0 => rw [er] at e; cases e; rfl
  refine ⟨fun i m H => m = ds.length - i ∧ i ≤ ds.length ∧ Pv i H, ⟨ds.length, rfl, Nat.zero_le _, ρ, fs1, acc, es, r0, d0, (fun a x e n _ => ⟨e, n⟩), by rw [List.drop_zero]; exact hdl, hun⟩, ?_⟩
  rintro i m H2 ⟨rfl, hle, ρ', fs', acc', es', rr, dd, fr, hlc, un⟩
  by_cases hlt : i < ds.length
  · refine .inr ⟨w.goes i H2 hlt (hG ρ' fs' H2 rr fr), Pv (i + 1), fun H' p' => ⟨ds.length - (i + 1), by omega, rfl, hlt, p'⟩, fun x H3 y => ?_⟩
    obtain ⟨ex, d, hd, rd⟩ := hY i ρ' fs' H2 x H3 hlt rr fr (w.yields i H2 x H3 hlt (hG ρ' fs' H2 rr fr) y)
    have ed : ds.drop i = d :: ds.drop (i + 1) := by
      have hh := List.getElem?_eq_some_iff.mp hd
      rw [List.drop_eq_getElem_cons hh.1, hh.2]
    rw [ed] at hlc
    unfold dcL at hlc
    have rr3 : Rp Z.K T P ρ' (wipe σ own) H3 fs' := rr.grow ex fun a z => .inl z
    have fr3 : FrD D H2 fs' H3 fs' := fun a x e n _ => ⟨ex a x e, n⟩
    have dd3 := dd.step fr3 hD fun x e => ex D x e
    cases eg : g (.fz d) ρ' with
    | bad => rw [eg] at hlc; cases hlc
    | ex x' ρ9 => rw [eg] at hlc; cases hlc
    | ok u ρ5 =>
    rw [eg] at hlc
    simp only at hlc
    refine ⟨T, P, ρ', fs', .fz d, [], ⟨rr3.tl0, .nil, (fun _ z => nomatch z), rfl, by rw [Tl_nil]; exact rd⟩, ?_⟩
    rw [eg]
    intro σ5 H5 fs5 sb5 r5 f5
    have ew5 : wipe σ5 own = wipe σ own := wipe_sb sb5 hS
    refine ⟨ew5, T, P, ρ5, fs5, r5, ?_⟩
    have f25 : FrD D H2 fs' H5 fs5 := fun a u e n _ => f5 a u (ex a u e) fun z => z.elim (fun z => nomatch z) n
    have D5 : ∀ x, H2 D = some x → H5 D = some x := fun x e => (f5 D x (ex D x e) fun z => z.elim (fun z => nomatch z) fun z => rr.tf D z hD).1
    cases et : t ρ5 with
    | bad => rw [et] at hlc; cases hlc
    | ex x' ρ9 => rw [et] at hlc; cases hlc
    | ok b ρ6 =>
    rw [et] at hlc
    intro H6 fs6 r6 f6
    have f26 : FrD D H2 fs' H6 fs6 := f25.trans (FrD.of0 f6)
    have D6 : ∀ x, H2 D = some x → H6 D = some x := fun x e => (f6 D x (D5 x e) fun z => r5.tf D z hD).1
    have dd6 := dd.step f26 hD D6
    -- the next turn's beginning
    have nxt : ∀ {σ7 : St} {H7 : Hp} {fs7 : Nat → List Addr} {acc7 : KVs} {es7 : List NEnt} {ρ7 : Env}, Rp Z.K T P ρ7 σ7 H7 fs7 → wipe σ7 own = wipe σ own → DSt Z.K T fs7 H7 D acc7 es7 → FrD D H2 fs' H7 fs7 → dcL own g t inn (ds.drop (i + 1)) acc7 (wipeE own ρ7) = .ok accF ρF → Pv (i + 1) H7 := fun {σ7 H7 fs7 acc7 es7 ρ7} r7 e7 d7 f7 hl7 => by
      have r8 := r7.wiped (vs := own)
      have e8 : wP P own = P := by
        funext j
        unfold wP
        by_cases h : j ∈ own
        · rw [if_pos h, hP j h]
        · rw [if_neg h]
      rw [e8, e7] at r8
      have r9 : Rp Z.K T P (wipeE own ρ7) (wipe σ own) H7 (wF fs7 own) := r8.grow (fun _ _ e => e) fun a z => .inl (wT_iff.mpr (.inl z))
      have sub : ∀ a, Own (wF fs7 own) a → Own fs7 a := fun a z => by
        obtain ⟨j, _, hm⟩ := wF_own z
        exact ⟨j, hm⟩
      have f9 : FrD D H7 fs7 H7 (wF fs7 own) := fun a x e n _ => ⟨e, fun z => n (sub a z)⟩
      exact ⟨wipeE own ρ7, wF fs7 own, acc7, es7, r9, d7.step f9 hD (fun _ e => e), fr.trans (f7.trans f9), hl7, unw ρ7⟩
    cases b with
    | false =>
      simp only at hlc
      rw [if_neg Bool.false_ne_true]
      exact nxt r6 ew5 dd6 f26 hlc
    | true =>
      simp only at hlc
      rw [if_pos rfl]
      cases ei : inn acc' ρ6 with
      | bad => rw [ei] at hlc; cases hlc
      | ex x' ρ9 => rw [ei] at hlc; cases hlc
      | ok acc7 ρ7 =>
      rw [ei] at hlc
      simp only at hlc
      exact hi T P ρ6 σ5 H6 fs6 D acc' es' acc7 ρ7 _ hP r6 hD dd6 ei fun σ7 H7 fs7 es7 r7 e7 d7 f7 => nxt r7 (e7.trans ew5) d7 (f26.trans f7) hlc
  · have e : i = ds.length := by omega
    subst e
    rw [List.drop_length] at hlc
    unfold dcL at hlc
    simp only [R.ok.injEq] at hlc
    obtain ⟨rfl, rfl⟩ := hlc
    exact .inl ⟨w.stops H2 (hG ρ' fs' H2 rr fr), hQ H2 fs' es' rr dd fr un⟩
end Lay
namespace Lay
open PySem PySem.Spec L2
theorem unw_un {own : List Nat} (ρ0 : Env) : ∀ j ∈ own, ∀ s, (wipeE own ρ0)[j]? = some s → s = .un := fun j hj s e => by
  rw [wipeE_get, if_pos hj] at e
  cases er : ρ0[j]? with
  | none => rw [er] at e; cases e
  | some s0 => rw [er] at e; cases e; rfl
theorem wP_none {P : Pins} {own : List Nat} (h : ∀ j ∈ own, P j = none) : wP P own = P := by
  funext j
  unfold wP
  by_cases e : j ∈ own
  · rw [if_pos e, h j e]
  · rw [if_neg e]
theorem ok_inn2 {Z : Par} {W0 : Value → Option Addr → St → Hp → Prop} {own own1 S1 : List Nat} (sub : ∀ i ∈ own1, i ∈ own) (hS : ∀ j ∈ S1, j ∈ own1) {ei : M Arg} {g1 : TM} {t1 : M Bool} {inn : KVs → Env → R KVs} {tn : TN} (hi : InnOk ⟨Z.K, Z.mg, W0⟩ own1 inn tn) :
    InnOk ⟨Z.K, Z.mg, W0⟩ own (inn2 own1 ei g1 t1 inn) (tn2 (iTup Z.K (tD ⟨Z.K, Z.mg, W0⟩ ei)) (gD ⟨Z.K, Z.mg, W0⟩ S1 g1) (tDT ⟨Z.K, Z.mg, W0⟩ t1) tn own1) := by
  intro T P ρ σ H fs D acc es acc' ρ' N hP r hD d c q
  unfold inn2 at c
  cases e1 : ei ρ with
  | bad => rw [e1] at c; cases c
  | ex x ρ9 => rw [e1] at c; cases c
  | ok a ρ1 =>
  rw [e1] at c
  simp only [R.bind] at c
  refine ⟨T, P, ρ, fs, r, ?_⟩
  rw [e1]
  intro v H1 fs1 l1 r1 f1
  split at c
  · rename_i ds ck
    obtain ⟨g1', s1, _⟩ := RpA.see r1.rp r1.ar ck
    obtain ⟨_, t, vs, rfl, hq, rds⟩ := s1
    have hP1 : ∀ j ∈ own1, P j = none := fun j hj => hP j (sub j hj)
    have rT := r1.rp.unl
    have D1 : ∀ x, H D = some x → H1 D = some x := fun x e => (f1 D x e fun z => r.tf D z hD).1
    have d1 := d.step (FrD.of f1) hD D1
    have r8 := rT.wiped (vs := own1)
    rw [wP_none hP1] at r8
    have r9 : Rp Z.K T P (wipeE own1 ρ1) (wipe σ own1) H1 (wF fs1 own1) := r8.grow (fun _ _ e => e) fun a z => .inl (wT_iff.mpr (.inl z))
    have sub9 : ∀ a, Own (wF fs1 own1) a → Own fs1 a := fun a z => by
      obtain ⟨j, _, hm⟩ := wF_own z
      exact ⟨j, hm⟩
    have f9 : FrD D H1 fs1 H1 (wF fs1 own1) := fun a x e n _ => ⟨e, fun z => n (sub9 a z)⟩
    have d9 := d1.step f9 hD (fun _ e => e)
    have ex9 : Ex (hide (Hd (Tl T l1) fs1) H1) (hide (Hd T (wF fs1 own1)) H1) := hide_ex fun x u n e => ⟨fun z => n (z.elim (fun z => .inl (.inl z)) fun z => .inr (sub9 x z)), e⟩
    have hq1 : SqT Z.K (hide (Hd T (wF fs1 own1)) H1) t vs := ex9.sqT hq
    have rd1 := RepDs.mono ex9 ds vs rds
    refine ⟨t, rfl, ⟨vs, hide_le.sqT hq1⟩, ?_⟩
    have w := walk_tup (K := Z.K) (a := t) (xs := vs)
    rw [rds.length] at w
    exact dcL_op hS hi w hP1 r9 hD d9 (unw_un ρ1) c (fun ρ2 fs2 H2 _ fr2 => hide_le.sqT ((fr2.ex hD).sqT hq1))
      (fun i ρ2 fs2 H2 x H3 _ _ fr2 y => by
        obtain ⟨rfl, hx⟩ := y
        obtain ⟨d0, h1, h2⟩ := RepDs.get rd1 hx
        exact ⟨Ex.refl _, d0, h1, RepD.mono (fr2.ex hD) d0 x h2⟩)
      fun H2 fs2 es2 r2 d2 fr2 _ => q _ H2 fs2 es2 r2 (wipe_sub sub) d2 (((FrD.of f1).trans f9).trans fr2)
  · cases c
theorem tDc_op {Z : Par} {W0 : Value → Option Addr → St → Hp → Prop} {own S : List Nat} (hS : ∀ j ∈ S, j ∈ own) {it : IM} {g : TM} {t : M Bool} {inn : KVs → Env → R KVs} {tn : TN} (hi : InnOk ⟨Z.K, Z.mg, W0⟩ own inn tn) {σ : St} {H : Hp} {Q : VK} (h : tD Z (xDc own it g t inn) σ H Q) :
    tDcG (tI Z it) (gD ⟨Z.K, Z.mg, W0⟩ S g) (tDT ⟨Z.K, Z.mg, W0⟩ t) tn own σ H Q := by
  obtain ⟨T, P, ρ, fs, rp, q⟩ := h
  refine ⟨T, P, ρ, fs, rp, ?_⟩
  unfold xDc at q
  cases e1 : it ρ with
  | bad => rw [e1] at q; exact q
  | ex x ρ' => rw [e1] at q; exact q
  | ok p ρ1 =>
  obtain ⟨ds, lks⟩ := p
  rw [e1] at q
  simp only [R.bind] at q
  intro J H1 fs1 r1 f1 ⟨G, Y, w, hG, hY⟩ D hD
  cases c1 : lockE lks ρ1 with
  | none => simp only [c1] at q; exact q.elim
  | some p2 =>
  obtain ⟨ρ2, us⟩ := p2
  simp only [c1] at q
  by_cases hlo : ∀ i ∈ lks, i ∉ own
  · rw [if_pos hlo] at q
    cases c2 : dcL own g t inn ds [] (wipeE own ρ2) with
    | bad => simp only [c2] at q; exact q.elim
    | ex x ρ' => simp only [c2] at q; exact q.elim
    | ok kvs ρ3 =>
    simp only [c2] at q
    by_cases hlen : ρ3.length = ρ2.length
    · rw [if_pos hlen] at q
      cases c3 : unlE us (restE ρ2 own ρ3) with
      | none => simp only [c3] at q; exact q.elim
      | some ρ4 =>
      simp only [c3] at q
      obtain ⟨P', r2, hl, _, hunl⟩ := lockE_ok r1 c1
      have rw' := r2.wiped (vs := own)
      have nD : ¬ wT fs1 T own D := fun z => rw'.hd hD (.inl z)
      have old : ∀ a x, H1 a = some x → a ≠ D := fun a x e => ne_of_none e hD
      have r3 : Rp Z.K (Tl (wT fs1 T own) [D]) (wP P' own) (wipeE own ρ2) (wipe σ own) (upd H1 D (.dK [])) (wF fs1 own) := rw'.grow (fun a x e => by rw [upd_ne (old a x e)]; exact e) fun a z => by
        rcases z with z | z
        · exact .inl z
        · cases List.mem_singleton.mp z
          exact .inr ⟨hD, _, upd_same⟩
      have TD : Tl (wT fs1 T own) [D] D := .inr List.mem_cons_self
      have sub : ∀ a, Own (wF fs1 own) a → Own fs1 a := fun a z => by
        obtain ⟨j, _, hm⟩ := wF_own z
        exact ⟨j, hm⟩
      have d3 : DSt Z.K (Tl (wT fs1 T own) [D]) (wF fs1 own) (upd H1 D (.dK [])) D [] [] := ⟨.inr ⟨upd_same, rfl⟩, ⟨(fun x hx => nomatch hx), List.nodup_nil⟩, ⟨rfl, rfl⟩, fun p hp => nomatch hp⟩
      have frO : ∀ {H' : Hp} {fs' : Nat → List Addr}, FrD D (upd H1 D (.dK [])) (wF fs1 own) H' fs' → Fr H1 (Own fs1) H' (Own fs') := fun f a x e n => f a x (by rw [upd_ne (old a x e)]; exact e) (fun z => n (sub a z)) (old a x e)
      have kp : ∀ {ρ' : Env} {fs' : Nat → List Addr} {H' : Hp}, Rp Z.K (Tl (wT fs1 T own) [D]) (wP P' own) ρ' (wipe σ own) H' fs' → FrD D (upd H1 D (.dK [])) (wF fs1 own) H' fs' → Kp σ H1 fs1 lks H' := fun {ρ' fs' H'} rr f => Kp.of (P' := wP P' own) (fun i hi => by
        obtain ⟨a, vs, h1, h2, h3⟩ := hl i hi
        exact ⟨a, vs, h1, h2, by unfold wP; rw [if_neg (hlo i hi)]; exact h3⟩) rr (frO f)
      refine dcL_op hS hi w (fun j hj => by unfold wP; rw [if_pos hj]) r3 TD d3 (unw_un ρ2) c2 (fun ρ' fs' H' rr f => hG H' (kp rr f)) (fun i ρ' fs' H2 x H3 hlt rr f y => ?_) fun H' fs' es' rr dd f un => ?_
      · obtain ⟨ex, d, hd, rd⟩ := hY i H2 x H3 hlt (kp rr f) y
        refine ⟨ex, d, hd, rd _ (hide_ex fun a u n e => ?_) fun b u hb e => (hide_no (rr.hd hb)).trans e⟩
        obtain ⟨h1, n1⟩ := frO f a u e fun z => n (.inr z)
        refine ⟨?_, ex a u h1⟩
        rintro ((z | z) | z)
        · rcases wT_iff.mp z with z | ⟨v, _, z⟩
          · exact n (.inl z)
          · exact n (.inr ⟨v, z⟩)
        · rw [List.mem_singleton.mp z, hD] at e; cases e
        · exact n1 z
      · have hsb : SB own σ (wipe σ own) := ⟨wipe_length σ own, fun j hj => by rw [wipe_get, if_neg hj]⟩
        have unf : ∀ j ∈ own, ∀ s, ρ3[j]? = some s → fs' j = [] := fun j hj s e => by
          have := un j hj s e
          subst this
          obtain ⟨x, _, q⟩ := rr.slot j _ e
          exact q.1
        have nDo : ¬ Own fs' D := fun z => rr.tf D z TD
        have fr : Fr H1 (Own (wF fs1 own)) H' (Ow [D] fs') := fun a x e n => by
          obtain ⟨h1, n1⟩ := f a x (by rw [upd_ne (old a x e)]; exact e) n (old a x e)
          refine ⟨h1, fun z => z.elim (fun z => old a x e (List.mem_singleton.mp z)) n1⟩
        have rst := Rp.rested r2 rr hlen hsb fr unf
        have r4 := hunl rst c3
        have ownz : ∀ a, Own (fun j => if j ∈ own then fs1 j else fs' j) a → (∃ v ∈ own, a ∈ fs1 v) ∨ Own fs' a := fun a ⟨j, hj⟩ => by
          have hj : a ∈ (if j ∈ own then fs1 j else fs' j) := hj
          by_cases h : j ∈ own
          · rw [if_pos h] at hj; exact .inl ⟨j, h, hj⟩
          · rw [if_neg h] at hj; exact .inr ⟨j, hj⟩
        have exz : Ex (hide (Hd (Tl (wT fs1 T own) [D]) fs') H') (hide (Hd (Tl T [D]) (fun j => if j ∈ own then fs1 j else fs' j)) H') := hide_ex fun a y n e => ⟨fun z => n (by
          rcases z with (z | z) | z
          · exact .inl (.inl (wT_iff.mpr (.inl z)))
          · exact .inl (.inr z)
          · rcases ownz a z with ⟨v, hv, z⟩ | z
            · exact .inl (.inl (wT_iff.mpr (.inr ⟨v, hv, z⟩)))
            · exact .inr z), e⟩
        refine q (.ref D) H' (fun j => if j ∈ own then fs1 j else fs' j) [D] ⟨r4, List.nodup_cons.mpr ⟨List.not_mem_nil, .nil⟩, fun b hb z => nD (by rw [← List.mem_singleton.mp hb]; exact wT_iff.mpr (.inl z)), D, EP es', [], rfl, rfl, ?_, fzd_mono exz dd.rep⟩ fun a y e n => ?_
        · rcases dd.at_ with ⟨h, _⟩ | ⟨h, e⟩
          · exact .inr ⟨es', h, dd.keys.mono exz, rfl⟩
          · subst e; exact .inl ⟨[], h, rfl⟩
        · obtain ⟨h1, n1⟩ := f1 a y e n
          obtain ⟨h2, n2⟩ := fr a y h1 fun z => n1 (sub a z)
          refine ⟨h2, ?_⟩
          rintro (z | z)
          · exact n2 (.inl z)
          · rcases ownz a z with ⟨v, _, z⟩ | z
            · exact n1 ⟨v, z⟩
            · exact n2 (.inr z)
    · rw [if_neg hlen] at q; exact q.elim
  · rw [if_neg hlo] at q; exact q.elim
section
variable {X : Cx} {W : WX} {kx vx tg iter tg1 iter1 : Expr} {ifs ifs1 : List Expr} {scope : Scope} {pos : Pos} {it : IM} {g g1 : TM} {t t1 : M Bool} {ek ev ei : M Arg} {S S1 vs vs1 : List Nat}
theorem de_dc (hu : X.A.units + 9 < cLine) (own : List (Str × Nat)) (hc : X.calm = true) (hN : X.N.Nodup) (ok : BlkOk X.N X.env.scope scope own) (hv : own.map (·.2) = vs) (hS : ∀ j ∈ S, j ∈ vs) (hi : DI X W tg iter it)
    (hg : ∀ (s : Shared) (H : Hp) (C : Addr) (cl : List (Str × Addr)) (fp : List Addr), DG (X.blk s H scope (compEnvC scope cl C X.env) fp) W0 tg S g)
    (ht : ∀ (s : Shared) (H : Hp) (C : Addr) (cl : List (Str × Addr)) (fp : List Addr), PTs (X.blk s H scope (compEnvC scope cl C X.env) fp) ifs (tDT (zp X W0) t))
    (hk : ∀ (s : Shared) (H : Hp) (C : Addr) (cl : List (Str × Addr)) (fp : List Addr), DE (X.blk s H scope (compEnvC scope cl C X.env) fp) W0 kx ek)
    (he : ∀ (s : Shared) (H : Hp) (C : Addr) (cl : List (Str × Addr)) (fp : List Addr), DE (X.blk s H scope (compEnvC scope cl C X.env) fp) W0 vx ev) (hs : ∀ x, foldedSetIterable iter X.env x = pure x := by intro _; rfl) :
    DE X W (.DictComp kx vx [⟨tg, iter, ifs, 0⟩] scope pos) (xDc vs it g t (inn1 ek ev)) := by
  subst hv
  exact pe_imp (pe_dcN (by omega) hc hN hi ok hg ht hk he hs) fun σ H Q h => tDc_op (Z := zp X W) (W0 := W0) hS ok_inn1 h
theorem de_dc2 (hu : X.A.units + 9 < cLine) (own : List (Str × Nat)) (hc : X.calm = true) (hN : X.N.Nodup) (ok : BlkOk X.N X.env.scope scope own) (hv : own.map (·.2) = vs) (hS : ∀ j ∈ S, j ∈ vs) (hsub : ∀ j ∈ vs1, j ∈ vs) (hS1 : ∀ j ∈ S1, j ∈ vs1) (hi : DI X W tg iter it)
    (hg : ∀ (s : Shared) (H : Hp) (C : Addr) (cl : List (Str × Addr)) (fp : List Addr), DG (X.blk s H scope (compEnvC scope cl C X.env) fp) W0 tg S g)
    (ht : ∀ (s : Shared) (H : Hp) (C : Addr) (cl : List (Str × Addr)) (fp : List Addr), PTs (X.blk s H scope (compEnvC scope cl C X.env) fp) ifs (tDT (zp X W0) t))
    (hi1 : ∀ (s : Shared) (H : Hp) (C : Addr) (cl : List (Str × Addr)) (fp : List Addr), DE (X.blk s H scope (compEnvC scope cl C X.env) fp) W0 iter1 ei)
    (hg1 : ∀ (s : Shared) (H : Hp) (C : Addr) (cl : List (Str × Addr)) (fp : List Addr), DG (X.blk s H scope (compEnvC scope cl C X.env) fp) W0 tg1 S1 g1)
    (ht1 : ∀ (s : Shared) (H : Hp) (C : Addr) (cl : List (Str × Addr)) (fp : List Addr), PTs (X.blk s H scope (compEnvC scope cl C X.env) fp) ifs1 (tDT (zp X W0) t1))
    (hk : ∀ (s : Shared) (H : Hp) (C : Addr) (cl : List (Str × Addr)) (fp : List Addr), DE (X.blk s H scope (compEnvC scope cl C X.env) fp) W0 kx ek)
    (he : ∀ (s : Shared) (H : Hp) (C : Addr) (cl : List (Str × Addr)) (fp : List Addr), DE (X.blk s H scope (compEnvC scope cl C X.env) fp) W0 vx ev) (hs : ∀ x, foldedSetIterable iter X.env x = pure x := by intro _; rfl) (hs1 : ∀ ce x, foldedSetIterable iter1 ce x = pure x := by intro _ _; rfl) :
    DE X W (.DictComp kx vx [⟨tg, iter, ifs, 0⟩, ⟨tg1, iter1, ifs1, 0⟩] scope pos) (xDc vs it g t (inn2 vs1 ei g1 t1 (inn1 ek ev))) := by
  subst hv
  exact pe_imp (pe_dcN2 (by omega) hc hN hi ok hsub hg ht (fun s H C cl fp => pi_tup (hi1 s H C cl fp)) hg1 ht1 hk he hs hs1) fun σ H Q h => tDc_op (Z := zp X W) (W0 := W0) hS (ok_inn2 (Z := zp X W) (W0 := W0) hsub hS1 ok_inn1) h
theorem ds_setDc {i : Nat} {y : Str} {py spos : Pos} (hu : X.A.units + 9 < cLine) (own : List (Str × Nat)) (hc : X.calm = true) (hN : X.N.Nodup) (hy : X.N[i]? = some y) (hyl : X.env.scope.names.lookup y = some .local)
    (hsw : swapsWith (.DictComp kx vx [⟨tg, iter, ifs, 0⟩] scope pos) (some (.Name y py)) spos.line X.env = pure true) (ok : BlkOk X.N X.env.scope scope own) (hv : own.map (·.2) = vs) (hS : ∀ j ∈ S, j ∈ vs) (hi : DI X W tg iter it)
    (hg : ∀ (s : Shared) (H : Hp) (C : Addr) (cl : List (Str × Addr)) (fp : List Addr), DG (X.blk s H scope (compEnvC scope cl C X.env) fp) W0 tg S g)
    (ht : ∀ (s : Shared) (H : Hp) (C : Addr) (cl : List (Str × Addr)) (fp : List Addr), PTs (X.blk s H scope (compEnvC scope cl C X.env) fp) ifs (tDT (zp X W0) t))
    (hk : ∀ (s : Shared) (H : Hp) (C : Addr) (cl : List (Str × Addr)) (fp : List Addr), DE (X.blk s H scope (compEnvC scope cl C X.env) fp) W0 kx ek)
    (he : ∀ (s : Shared) (H : Hp) (C : Addr) (cl : List (Str × Addr)) (fp : List Addr), DE (X.blk s H scope (compEnvC scope cl C X.env) fp) W0 vx ev) (hs : ∀ x, foldedSetIterable iter X.env x = pure x := by intro _; rfl) :
    DS X W (.Assign [.Name y py] (.DictComp kx vx [⟨tg, iter, ifs, 0⟩] scope pos) spos) (sAsg (xDc vs it g t (inn1 ek ev)) (gNm i)) := by
  subst hv
  refine ps_imp (ps_setDcN (g := gD (zp X W0) S g) (tt := tDT (zp X W0) t) (tk := tD (zp X W0) ek) (tv := tD (zp X W0) ev) (by omega) hc hN hy hyl hsw hi ok hg ht hk he hs) fun D σ H q => ?_
  have q := tAsg_op (Z := zp X W) (S := [i]) q
  have q2 : tD (zp X W) (xDc (own.map (·.2)) it g t (inn1 ek ev)) σ H (fun x H1 => gName i x σ H1 D.nx) := by
    obtain ⟨T, P, ρ, fs, r, q⟩ := q
    refine ⟨T, P, ρ, fs, r, ?_⟩
    cases e1 : (xDc (own.map (·.2)) it g t (inn1 ek ev)) ρ with
    | bad => rw [e1] at q; exact q
    | ex x ρ' => rw [e1] at q; exact q
    | ok a ρ1 => rw [e1] at q; exact fun v H1 fs1 l1 r1 f1 => gNm_name (q v H1 fs1 l1 r1 f1)
  exact tDc_op (Z := zp X W) (W0 := W0) hS (ok_inn1) q2
end
end Lay
namespace Lay
open PySem PySem.Spec L2
section
variable {X : Cx}
theorem cr_comb : CallR X (.builtin "math.comb") (fun xs H Q => ∃ i j, xs = [.int i, .int j] ∧ (0 ≤ i ∧ 0 ≤ j ∧ i ≤ 18000) ∧ Q (.int (PySem.W.mcComb i j)) H) := by
  intro pins s σ H xs us Q I r ⟨i, j, hx, ⟨h1, h2, h3⟩, q⟩
  subst hx
  obtain ⟨t, u, rfl⟩ := Vals.int2 r
  exact PySem.W.mc_comb h1 h2 (by omega) (.inr h3) fun _ => ⟨.int _, H, I.tok _, ⟨_, rfl⟩, q⟩
end
def opComb : List OT → Option OT
  | [.fz (.int i), .fz (.int j)] => if 0 ≤ i ∧ 0 ≤ j ∧ i ≤ 18000 then some (.fz (.int (PySem.W.mcComb i j))) else none
  | _ => none
theorem ok_comb {K : PySem.W.Frag} : CallOk K (fun xs H Q => ∃ i j, xs = [.int i, .int j] ∧ (0 ≤ i ∧ 0 ≤ j ∧ i ≤ 18000) ∧ Q (.int (PySem.W.mcComb i j)) H) opComb := fun G H os vs o Q e r c q => by
  unfold opComb at c
  split at c
  · rename_i i j
    split at c
    · rename_i h
      cases c
      obtain ⟨v, v', f, f', rfl, r1, r2⟩ := r.two
      cases (show v = .int _ from r1.2)
      cases (show v' = .int _ from r2.2)
      exact ⟨_, _, rfl, h, q.int⟩
    · cases c
  · cases c
mutual
theorem krep_rep {K : PySem.W.Frag} {G : Hp} : ∀ (k : NestedKey) (v : V), okN k = true → KRep K G k v → RepD K G (kN k) v
  | .none, _, _, h => h
  | .num _, _, _, h => h
  | .text _, _, h, _ => by cases h
  | .tup ks, _, o, h => by
    obtain ⟨a, vs, rfl, q, r⟩ := h
    exact ⟨a, vs, rfl, q, kreps_rep ks vs (by unfold okN at o; exact o) r⟩
theorem kreps_rep {K : PySem.W.Frag} {G : Hp} : ∀ (ks : List NestedKey) (vs : List V), okNs ks = true → KReps K G ks vs → RepDs K G (kNs ks) vs
  | [], _, _, h => h
  | k :: r, _, o, h => by
    obtain ⟨v, r', rfl, q1, q2⟩ := h
    unfold okNs at o
    rw [Bool.and_eq_true] at o
    exact ⟨v, r', rfl, krep_rep k v o.1 q1, kreps_rep r r' o.2 q2⟩
end
/-- a dict keyed by tuples: its table's keys -/
def dicK : OT → Option (List Dat)
  | .fz (.dic kvs) => if tupK kvs then some (kvs.map (·.1)) else none
  | .dic kvs => if tupK kvs then some (kvs.map (·.1)) else none
  | _ => none
theorem RepDk.keys {K : PySem.W.Frag} {G : Hp} : ∀ {kvs : List (Dat × Dat)} {ps : List (Dat × V)}, RepDk K G kvs ps → kvs.map (·.1) = ps.map (·.1)
  | [], _, h => by cases (show _ = [] from h); rfl
  | (k, d) :: r, _, h => by obtain ⟨v, r', rfl, _, q⟩ := h; rw [List.map_cons, List.map_cons, RepDk.keys q]
theorem RepOk.keys {K : PySem.W.Frag} {G H : Hp} : ∀ {kvs : List (Dat × OT)} {ps : List (Dat × V)} {f : List Addr}, RepOk K G H kvs ps f → kvs.map (·.1) = ps.map (·.1)
  | [], _, _, h => by cases h.1; rfl
  | (k, d) :: r, _, _, h => by obtain ⟨v, r', f1, f2, rfl, _, _, q⟩ := h; rw [List.map_cons, List.map_cons, RepOk.keys q]
theorem keys_rep {K : PySem.W.Frag} {G : Hp} : ∀ {es : List NEnt}, NKeys K G es → RepDs K G ((EP es).map (·.1)) (es.map fun e => .ref e.2.1)
  | [], _ => rfl
  | e :: es, n => ⟨_, _, rfl, krep_rep e.1 _ (n.key e List.mem_cons_self).2.1 (n.key e List.mem_cons_self).1, keys_rep (es := es) ⟨fun x hx => n.key x (List.mem_cons_of_mem _ hx), (List.nodup_cons.mp (by rw [← List.map_cons]; exact n.nodup)).2⟩⟩
theorem dicK_ok {K : PySem.W.Frag} {G H : Hp} {x : OT} {v : V} {f : List Addr} {ds : List Dat} (e : Ex G H) (r : RepO K G H x v f) (c : dicK x = some ds) : ∃ a es, v = .ref a ∧ NAt K H a es ∧ RepDs K G ds (es.map fun e => .ref e.2.1) := by
  unfold dicK at c
  split at c
  · rename_i kvs
    obtain ⟨_, a, ps, rfl, da, rk⟩ := r
    split at c
    · rename_i t
      cases c
      obtain ⟨es, _, kk, hp⟩ := DictAt.nowG (Ex.refl G) da (by rw [rk.tupK]; exact t)
      obtain ⟨es', hn', hp'⟩ := DictAt.now e (da.at (Ex.refl G) (e a)) (by rw [rk.tupK]; exact t)
      have : ∃ es, NAt K H a es ∧ NKeys K G es ∧ ps = EP es := by
        rcases da with ⟨ks, h, q⟩ | ⟨es, h, n, q⟩
        · cases ks with
          | nil => exact ⟨[], .inr ⟨.inl (e a _ h), rfl⟩, ⟨(fun x hx => nomatch hx), List.nodup_nil⟩, q⟩
          | cons k r =>
            have t2 : tupK ps = true := by rw [rk.tupK]; exact t
            rw [q] at t2
            obtain ⟨k, v⟩ := k
            cases k <;> cases t2
        · exact ⟨es, .inl ⟨.inl (e a _ h), n.mono e⟩, n, q⟩
      obtain ⟨es, hn, kk, hp⟩ := this
      refine ⟨a, es, rfl, hn, ?_⟩
      rw [rk.keys, hp]
      exact keys_rep kk
    · cases c
  · rename_i kvs
    obtain ⟨a, ps, g, rfl, _, da, rk⟩ := r
    split at c
    · rename_i t
      cases c
      obtain ⟨es, hn, kk, hp⟩ := DictAt.nowG e da (by rw [rk.tupK]; exact t)
      refine ⟨a, es, rfl, hn.at, ?_⟩
      rw [rk.keys, hp]
      exact keys_rep kk
    · cases c
  · cases c
section
variable {X : Cx}
theorem call_listN (hc : X.calm = true) : CallR X (.type "list") (fun xs H Q => ∃ a es, xs = [.ref a] ∧ NAt X.K H a es ∧ ∀ l, H l = none → Q (.ref l) (upd H l (.lst (es.map fun e => V.ref e.2.1)))) := by
  intro pins s σ H xs us Q I r ⟨a, es, hx, hn, q⟩
  subst hx
  obtain ⟨u, rfl, ru⟩ := vals1 r
  cases ru
  obtain ⟨hd, z, xs, rel, dd⟩ := nat_of I hn
  obtain ⟨en, ep, hr, hs, he⟩ := dd.raw
  have hl : es.length = xs.length := Paired.length rel
  refine PySem.W.kdl_call (KdlSrc.rawDict hd) (I.ok.hd hc) hr (by omega) fun h' tk acc c' kp e it => ?_
  refine ⟨.ref s.heap.objs.size, _, I.laid (t' := tk) kp (Nat.le_refl _) (show ObjOk X.prog X.w _ h' _ (.lst (es.map fun e => V.ref e.2.1)) from ⟨by rw [List.length_map]; exact z, acc.toList, c', ?_, ?_⟩), rfl, q _ (I.hok.fresh (Nat.le_refl _))⟩
  · -- the items
    have gen : ∀ (es : List NEnt) (xs : List (NestedKey × Addr × Value)) (l : List Value), NE es xs → l.length = xs.length → (∀ (j : Nat) (v : Value), l[j]? = some v → ∃ y : NestedKey × Addr × Value, xs[j]? = some y ∧ v = Value.ref y.2.1) → Vals (es.map fun e => V.ref e.2.1) l := by
      intro es
      induction es with
      | nil =>
        intro xs l r hl _
        cases r
        cases l with
        | nil => exact .nil
        | cons v l => cases hl
      | cons p es ih =>
        intro xs l r hl hj
        cases r with
        | @cons _ x _ xs h t =>
        cases l with
        | nil => cases hl
        | cons v l =>
          obtain ⟨y, hy, ev⟩ := hj 0 v rfl
          cases hy
          refine .cons ?_ (ih xs l t (Nat.succ.inj hl) fun j v hv => hj (j + 1) v hv)
          show v = Value.ref p.2.1
          rw [ev, h.2.1]
    refine gen es xs acc.toList rel (by rw [Array.length_toList, it.1, hs]) fun j v hv => ?_
    rw [Array.getElem?_toList] at hv
    obtain ⟨hi, ev⟩ := it.2 j v hv
    obtain ⟨y, hy, h1, _⟩ := he j hi
    exact ⟨y, hy, by rw [ev, h1]⟩
  · simpa using e
end
def opListK : List OT → Option OT
  | [x] => (dicK x).map fun ds => .lst (ds.map .fz)
  | _ => none
theorem ok_listK {K : PySem.W.Frag} : CallOk K (fun xs H Q => ∃ a es, xs = [.ref a] ∧ NAt K H a es ∧ ∀ l, H l = none → Q (.ref l) (upd H l (.lst (es.map fun e => V.ref e.2.1)))) opListK := fun G H os vs o Q e r c q => by
  unfold opListK at c
  split at c
  · rename_i x
    obtain ⟨v, r', f, rfl, r1, r2⟩ := r
    cases (show r' = [] from r2)
    cases cd : dicK x with
    | none => rw [cd] at c; cases c
    | some ds =>
      rw [cd] at c
      cases c
      obtain ⟨a, es, rfl, hn, rd⟩ := dicK_ok e r1 cd
      exact ⟨a, es, rfl, hn, fun l hl => Res.newL q rd hl⟩
  · cases c
def opLenK : List OT → Option OT
  | [x] => (dicK x).map fun ds => .fz (.int (ds.length : Int))
  | _ => none
theorem ok_lenK {K : PySem.W.Frag} : CallOk K (fun xs H Q => ∃ a es, xs = [.ref a] ∧ NAt K H a es ∧ Q (.int (es.length : Int)) H) opLenK := fun G H os vs o Q e r c q => by
  unfold opLenK at c
  split at c
  · rename_i x
    obtain ⟨v, r', f, rfl, r1, r2⟩ := r
    cases (show r' = [] from r2)
    cases cd : dicK x with
    | none => rw [cd] at c; cases c
    | some ds =>
      rw [cd] at c
      cases c
      obtain ⟨a, es, rfl, hn, rd⟩ := dicK_ok e r1 cd
      have := rd.length
      rw [List.length_map] at this
      refine ⟨a, es, rfl, hn, ?_⟩
      rw [this]
      exact q.int
  · cases c
def xDnew : M Arg := fun ρ => .ok (.tmp (.dic [])) ρ
section
variable {X : Cx} {W : WX} {pos tpos : Pos}
theorem de_dnew : DE X W (.Dict [] [] pos) xDnew := pe_imp pe_dnewK fun σ H Q ⟨T, P, ρ, fs, rp, q⟩ => fun p hp => by
  refine Rp.res (o := .dic []) (l0 := []) rp.tl0 (Fr.refl.imp fun x z => z.elim (fun z => nomatch z) id) q (.ref p) _ [p] (fun a o e => by rw [upd_ne (ne_of_none e hp)]; exact e) (List.nodup_cons.mpr ⟨List.not_mem_nil, .nil⟩) (fun b hb => by rw [List.mem_singleton.mp hb]; exact hp) fun G' ex nw => ⟨p, [], [], rfl, rfl, .inl ⟨[], upd_same, rfl⟩, rfl, rfl⟩
/-- x[k] changed, x a name: a statement -/
def sMuIx (i : Nat) (fk : M Arg) (op : OT → List OT → Option (OT × OT)) : SM := fun ρ => match slv ρ[i]? with
  | none => .bad
  | some _ => RS (fk ρ) fun a ρ1 => match look ρ1 a with
    | some (.fz k) => match slv ρ1[i]? with
      | none => .bad
      | some x => match op x [.fz k] with
        | none => .bad
        | some (x', _) => match putS ρ1 i x' with
          | none => .bad
          | some ρ2 => .nx ρ2
    | _ => .bad
theorem tMuIx_op {Z : Par} {ts : V → V → Hp → (Hp → Prop) → Prop} {op : OT → List OT → Option (OT × OT)} (ho : MutOk Z.K (fun x vs H Q => ∃ k, vs = [k] ∧ ts x k H fun H' => Q .non H') op) {i : Nat} {fk : M Arg} {D : Ends} {σ : St} {H : Hp}
    (h : tS Z (sMuIx i fk op) D σ H) : tVar i σ H fun x H1 => tD Z fk σ H1 fun y H2 => ts x y H2 fun H3 => D.nx σ H3 := by
  obtain ⟨T, P, ρ, fs, r, q⟩ := h
  unfold sMuIx at q
  cases c0 : slv ρ[i]? with
  | none => simp only [c0] at q; exact q.elim
  | some x0 =>
    simp only [c0] at q
    obtain ⟨vx, hv⟩ := r.has c0
    refine ⟨vx, hv, T, P, ρ, fs, r, ?_⟩
    cases e1 : fk ρ with
    | bad => rw [e1] at q; exact q
    | ex x ρ' => rw [e1] at q; exact q
    | ok a ρ1 =>
      rw [e1] at q
      simp only [RS] at q
      intro vk H1 fs1 l1 r1 f1
      cases c1 : look ρ1 a with
      | none => simp only [c1] at q; exact q.elim
      | some ok =>
        cases ok with
        | fz k =>
          simp only [c1] at q
          obtain ⟨g1, ⟨rfl, sk⟩, _⟩ := RpA.see r1.rp r1.ar c1
          cases c2 : slv ρ1[i]? with
          | none => simp only [c2] at q; exact q.elim
          | some x =>
            simp only [c2] at q
            cases c3 : op x [.fz k] with
            | none => simp only [c3] at q; exact q.elim
            | some p =>
              obtain ⟨x', o'⟩ := p
              simp only [c3] at q
              cases c4 : putS ρ1 i x' with
              | none => simp only [c4] at q; exact q.elim
              | some ρ2 =>
                simp only [c4] at q
                have rr : Rp Z.K (Tl T []) P ρ1 σ H1 fs1 := r1.rp.unl.tl0
                have gx : Ex (hide (Hd (Tl T l1) fs1) H1) (hide (Hd (Tl T []) fs1) H1) := hide_ex fun a y hn e => ⟨fun z => hn (by
                  rcases z with (z | z) | z
                  · exact .inl (.inl z)
                  · cases z
                  · exact .inr z), e⟩
                have ros : RepOs Z.K (hide (Hd (Tl T []) fs1) H1) H1 [.fz k] [vk] [] := ⟨vk, [], [], [], rfl, rfl, ⟨rfl, RepD.mono gx k vk sk⟩, rfl, rfl⟩
                have ff : Fr H (Own fs) H1 (Own fs1) := f1.imp fun x z => .inr z
                obtain ⟨q1, q2, q3⟩ := Rp.mutate (H0 := H) (fs0 := fs) (o' := o') (Q := fun w H' => D.nx σ H') rr .nil (fun _ z => nomatch z) c2 hv c4 (ff.imp fun x z => z.elim (fun z => nomatch z) id) fun w H' fs' l' rA fr => q σ H' fs' rA.rp.unl (fr.imp fun x z => .inr z)
                obtain ⟨k', e, z⟩ := ho _ H1 x vx (fs1 i) [.fz k] [vk] [] x' o' (fun w H' => D.nx σ H') hide_le q1 ros q2 c3 q3
                cases e
                exact z
        | _ => simp only [c1] at q; exact q.elim
theorem ds_delK (hu : X.A.units + 9 < cLine) {o i : Expr} {n : Nat} {fk : M Arg} (ho : PE X o (tVar n)) (hi : DE X W i fk) : DS X W (.Delete [.Subscript o i tpos] pos) (sMuIx n fk muDelK) :=
  ps_imp (ps_delN hu ho hi) fun D σ H q => tMuIx_op (Z := zp X W) mu_delK q
/-- what is a dict keyed by tuples -/
def isN : OT → Bool
  | .fz (.dic kvs) => tupK kvs
  | .dic kvs => tupK kvs
  | _ => false
theorem isN_ok {K : PySem.W.Frag} {G H : Hp} {x : OT} {v : V} {f : List Addr} (e : Ex G H) (r : RepO K G H x v f) (c : isN x = true) : ∃ a es, v = .ref a ∧ NAt K H a es := by
  have : ∃ ds, dicK x = some ds := by
    cases x with
    | fz d =>
      cases d with
      | dic kvs => exact ⟨_, if_pos (show tupK kvs = true from c)⟩
      | _ => cases c
    | dic kvs => exact ⟨_, if_pos (show tupK kvs = true from c)⟩
    | lst os => cases c
  obtain ⟨ds, h⟩ := this
  obtain ⟨a, es, h1, h2, _⟩ := dicK_ok e r h
  exact ⟨a, es, h1, h2⟩
def tBMN (K : PySem.W.Frag) (r : V → List V → Hp → VK → Prop) (to : TE) (t : TA) : TE := fun σ H Q => to σ H fun x H1 => (∃ a es, x = .ref a ∧ NAt K H1 a es) ∧ t σ H1 fun xs H2 => r x xs H2 Q
theorem pe_bmN {o e : Expr} {es : List Expr} {to : TE} {t : TA} {name : Str} {apos cpos : Pos} {id : String} {r : V → List V → Hp → VK → Prop} (slot : Slot "dict" name id) (hty : typeOf (.builtin id) = pure (.type "method_descriptor")) (hm : MtR X id r) (ho : PE X o to) (ha : PA X (e :: es) t)
    (hbase : attributeBase o name X.env (eval o X.env) = eval o X.env := by rfl)
    (hfew : ((backTo cpos (starEach (e :: es) X.env)).all (fun x => !x.1) && (backToKw cpos (keywordEach [] X.env)).all (fun x => x.1.isSome)
      && decide ((e :: es).length + ([] : List Keyword).length + (if ([] : List Keyword).isEmpty then 0 else 1) < 30)) = true := by rfl)
    (hline : (apos.endLine == cpos.line) = true := by rfl) (hs : starEach (e :: es) X.env = (false, eval e X.env) :: starEach es X.env := by rfl) (hplain : (backTo cpos (starEach es X.env)).any (·.1) = false := by rfl) :
    PE X (.Call (.Attribute o name apos) (e :: es) [] cpos) (tBMN X.K r to t) := by
  refine ⟨fun pins s σ H Q I h => ?_⟩
  refine wpAny_Call_method_late hbase hfew hline rfl (thn (ho.run pins s σ H _ I h) fun v s1 h1 => ?_)
  obtain ⟨x, H1, I1, r1, ⟨a, es', ea, hn⟩, q1⟩ := h1
  subst ea
  cases r1
  obtain ⟨_, _, xs, _, dd⟩ := nat_of I1 hn
  refine ⟨"dict", id, PySem.F.plainAttrs_dict, slot, hty, dd.typeIs, fun b eb => ?_, ?_⟩
  · cases eb
    obtain ⟨ob, _, _, hob, hex, _⟩ := dd
    exact ⟨ob, hob, hex.2.1⟩
  · have hA := ha.run cpos pins s1 σ H1 _ I1 q1
    rw [hs] at hA ⊢
    refine Calls.callWith_builtin (by show (false || (backTo cpos (starEach es X.env)).any (·.1)) = false; rw [hplain] <;> rfl) (Calls.evalArgs_plain ?_)
    exact thn hA fun us s2 ⟨vs, H2, I2, r2, q2⟩ => hm pins s2 σ H2 (.ref a) vs (.ref a) us Q I2 rfl r2 q2
def xTyN (f : M Arg) : M Arg := fun ρ => (f ρ).bind fun a ρ1 => match look ρ1 a with
  | some x => if isN x then .ok a ρ1 else .bad
  | none => .bad
theorem tMN_op {Z : Par} {r : V → List V → Hp → VK → Prop} {op : OT → List OT → Option OT} (ho : MethOk Z.K "dict" r op) {f : M Arg} {g : M (List Arg)} {σ : St} {H : Hp} {Q : VK} (h : tD Z (xM op (xTyN f) g) σ H Q) : tBMN Z.K r (tD Z f) (tDA Z g) σ H Q := by
  obtain ⟨T, P, ρ, fs, rp, q⟩ := h
  refine ⟨T, P, ρ, fs, rp, ?_⟩
  unfold xM xTyN at q
  cases e1 : f ρ with
  | bad => rw [e1] at q; exact q
  | ex x ρ' => rw [e1] at q; exact q
  | ok a ρ1 =>
    rw [e1] at q
    intro v1 H1 fs1 l1 r1 f1
    simp only [R.bind] at q
    cases c0 : look ρ1 a with
    | none => simp only [c0] at q; exact q.elim
    | some x0 =>
    simp only [c0] at q
    obtain ⟨g0, s0, _⟩ := RpA.see r1.rp r1.ar c0
    cases ct : isN x0 with
    | false => simp only [ct] at q; exact q.elim
    | true =>
    simp only [ct, if_true] at q
    refine ⟨isN_ok hide_le s0 ct, Tl T l1, P, ρ1, fs1, r1.rp, ?_⟩
    cases e2 : g ρ1 with
    | bad => rw [e2] at q; exact q
    | ex x ρ' => rw [e2] at q; exact onX.fr q f1
    | ok b ρ2 =>
      rw [e2] at q
      intro v2 H2 fs2 l2 r2 f2
      simp only at q
      have a1 := AR.step r1.ar r1.rp.noair f2
      cases c1 : look ρ2 a with
      | none => simp only [c1] at q; exact q.elim
      | some x =>
        cases c2 : looks ρ2 b with
        | none => simp only [c1, c2] at q; exact q.elim
        | some y =>
          simp only [c1, c2] at q
          obtain ⟨g1, s1, _⟩ := RpA.see r2.rp a1 c1
          have s2 := see_all r2.rp r2.ar c2
          cases c3 : op x y with
          | none => simp only [c3] at q; exact q.elim
          | some o =>
            simp only [c3] at q
            have rr := r2.rp
            have ff : Fr H (Own fs) H2 (Ow (l1 ++ l2) fs2) := fun b x e n => by
              obtain ⟨h1, n1⟩ := f1 b x e n
              obtain ⟨h2, n2⟩ := f2 b x h1 fun z => n1 (.inr z)
              refine ⟨h2, ?_⟩
              rintro (z | z)
              · exact (List.mem_append.mp z).elim (fun z => n1 (.inl z)) fun z => n2 (.inl z)
              · exact n2 (.inr z)
            rw [Tl_app] at s1 s2 rr
            exact ho _ H2 x y v1 v2 g1 o Q hide_le s1 s2 c3 (Rp.res rr ff q)
theorem de_getK (hu : X.A.units + 9 < cLine) {o : Expr} {es : List Expr} {fa : M Arg} {fs : M (List Arg)} {apos : Pos} (h : PE X (.Call (.Attribute o "get" apos) es [] pos) (tBMN X.K (rGetN X.K) (tD (zp X W) fa) (tDA (zp X W) fs))) :
    DE X W (.Call (.Attribute o "get" apos) es [] pos) (xM opGetk (xTyN fa) fs) := pe_imp h fun _ _ _ q => tMN_op (Z := zp X W) ok_getk q
end
end Lay
namespace Lay
open PySem PySem.Spec L2
section
variable {α : Type} {le : α → α → Bool}
def insL (le : α → α → Bool) (x : α) : List α → List α
  | [] => [x]
  | y :: r => if le x y then x :: y :: r else y :: insL le x r
def isortL (le : α → α → Bool) : List α → List α
  | [] => []
  | x :: r => insL le x (isortL le r)
theorem insL_mem (x : α) : ∀ (l : List α) (z : α), z ∈ insL le x l ↔ z = x ∨ z ∈ l
  | [], z => by simp [insL]
  | y :: r, z => by
    unfold insL
    split
    · simp
    · rw [List.mem_cons, insL_mem x r z, List.mem_cons]
      constructor <;> (rintro (h | h | h) <;> simp [h])
theorem isortL_mem : ∀ (l : List α) (z : α), z ∈ isortL le l ↔ z ∈ l
  | [], z => Iff.rfl
  | x :: r, z => by unfold isortL; rw [insL_mem, isortL_mem r z, List.mem_cons]
theorem insL_srt (h : PySem.W.TotalLe le) (x : α) : ∀ l : List α, l.Pairwise (fun a b => le a b = true) → (insL le x l).Pairwise (fun a b => le a b = true)
  | [], _ => List.pairwise_singleton _ _
  | y :: r, p => by
    unfold insL
    obtain ⟨p1, p2⟩ := List.pairwise_cons.mp p
    split
    · rename_i c
      refine List.pairwise_cons.mpr ⟨fun z hz => ?_, p⟩
      rcases List.mem_cons.mp hz with rfl | hz
      · exact c
      · exact h.trans _ _ _ c (p1 z hz)
    · rename_i c
      refine List.pairwise_cons.mpr ⟨fun z hz => ?_, insL_srt h x r p2⟩
      rcases (insL_mem x r z).mp hz with rfl | hz
      · exact (h.total z y).elim (fun e => absurd e c) id
      · exact p1 z hz
theorem insL_rank (h : PySem.W.TotalLe le) (c x : α) : ∀ l : List α, (insL le x l).filter (PySem.W.sameRank le c) = if PySem.W.sameRank le c x then x :: l.filter (PySem.W.sameRank le c) else l.filter (PySem.W.sameRank le c)
  | [] => by simp [insL, List.filter_cons]
  | y :: r => by
    unfold insL
    by_cases cc : le x y = true
    · rw [if_pos cc, List.filter_cons]
    · rw [if_neg cc, List.filter_cons, insL_rank h c x r, List.filter_cons (x := y)]
      by_cases hx : PySem.W.sameRank le c x = true
      · have hy : ¬ PySem.W.sameRank le c y = true := fun hy => by
          unfold PySem.W.sameRank at hx hy
          rw [Bool.and_eq_true] at hx hy
          exact cc (h.trans _ _ _ hx.2 hy.1)
        rw [if_pos hx, if_neg hy, if_neg hy, if_pos hx]
      · rw [if_neg hx, if_neg hx]
theorem isortL_srt (h : PySem.W.TotalLe le) : ∀ l : List α, (isortL le l).Pairwise (fun a b => le a b = true)
  | [] => List.Pairwise.nil
  | x :: r => insL_srt h x _ (isortL_srt h r)
theorem isortL_rank (h : PySem.W.TotalLe le) (c : α) : ∀ l : List α, (isortL le l).filter (PySem.W.sameRank le c) = l.filter (PySem.W.sameRank le c)
  | [] => rfl
  | x :: r => by
    unfold isortL
    rw [insL_rank h c x, isortL_rank h c r, List.filter_cons]
theorem isortL_eq (h : PySem.W.TotalLe le) (l : List α) : isortL le l = l.mergeSort le := PySem.W.sort_unique h (isortL_srt h l) fun c => isortL_rank h c l
theorem insL_congr {le' : α → α → Bool} (x : α) : ∀ l : List α, (∀ y ∈ l, le x y = le' x y) → insL le x l = insL le' x l
  | [], _ => rfl
  | y :: r, h => by
    unfold insL
    rw [h y List.mem_cons_self, insL_congr x r fun z hz => h z (List.mem_cons_of_mem _ hz)]
theorem isortL_congr {le' : α → α → Bool} : ∀ l : List α, (∀ x ∈ l, ∀ y ∈ l, le x y = le' x y) → isortL le l = isortL le' l
  | [], _ => rfl
  | x :: r, h => by
    unfold isortL
    rw [isortL_congr r fun a ha b hb => h a (List.mem_cons_of_mem _ ha) b (List.mem_cons_of_mem _ hb)]
    exact insL_congr x _ fun y hy => h x List.mem_cons_self y (List.mem_cons_of_mem _ ((isortL_mem r y).mp hy))
end
mutual
def pyS : Dat → PyData
  | .int i => .int i
  | .tup xs => .tuple (pySs xs)
  | _ => .none
def pySs : List Dat → List PyData
  | [] => []
  | d :: r => pyS d :: pySs r
end
mutual
/-- of the first's shape, not deeper than n -/
def fitS : Nat → Dat → Dat → Bool
  | _, .int _, .int _ => true
  | n + 1, .tup xs, .tup ys => fitSs n xs ys
  | _, _, _ => false
def fitSs : Nat → List Dat → List Dat → Bool
  | _, [], [] => true
  | n, x :: xs, y :: ys => fitS n x y && fitSs n xs ys
  | _, _, _ => false
end
mutual
def ltK : Dat → Dat → Bool
  | .int i, .int j => decide (i < j)
  | .tup xs, .tup ys => ltKs xs ys
  | _, _ => false
def ltKs : List Dat → List Dat → Bool
  | x :: xs, y :: ys => if keq x y then ltKs xs ys else ltK x y
  | _, _ => false
end
mutual
theorem fit_py : ∀ (n : Nat) (a d : Dat), fitS n a d = true → pyD n d = some (pyS d) ∧ (pyS d).depth ≤ n
  | n, .int _, .int i, _ => ⟨by cases n <;> rfl, Nat.zero_le _⟩
  | n + 1, .tup xs, .tup ys, h => by
    obtain ⟨h1, h2⟩ := fit_pys n xs ys (by unfold fitS at h; exact h)
    exact ⟨by unfold pyD pyS; rw [h1]; rfl, by unfold pyS; simp only [PyData.depth]; omega⟩
  | 0, .tup xs, .tup ys, h => by cases h
  | n, .int _, .non, h => by cases n <;> cases h
  | n, .int _, .bl _, h => by cases n <;> cases h
  | n, .int _, .str _, h => by cases n <;> cases h
  | n, .int _, .tup _, h => by cases n <;> cases h
  | n, .int _, .lst _, h => by cases n <;> cases h
  | n, .int _, .dic _, h => by cases n <;> cases h
  | n, .int _, .kst _, h => by cases n <;> cases h
  | n, .tup _, .non, h => by cases n <;> cases h
  | n, .tup _, .bl _, h => by cases n <;> cases h
  | n, .tup _, .int _, h => by cases n <;> cases h
  | n, .tup _, .str _, h => by cases n <;> cases h
  | n, .tup _, .lst _, h => by cases n <;> cases h
  | n, .tup _, .dic _, h => by cases n <;> cases h
  | n, .tup _, .kst _, h => by cases n <;> cases h
  | n, .non, d, h => by cases n <;> cases h
  | n, .bl _, d, h => by cases n <;> cases h
  | n, .str _, d, h => by cases n <;> cases h
  | n, .lst _, d, h => by cases n <;> cases h
  | n, .dic _, d, h => by cases n <;> cases h
  | n, .kst _, d, h => by cases n <;> cases h
theorem fit_pys : ∀ (n : Nat) (as ds : List Dat), fitSs n as ds = true → pyDs n ds = some (pySs ds) ∧ PyData.depthAll (pySs ds) ≤ n
  | n, [], [], _ => ⟨by cases n <;> rfl, Nat.zero_le _⟩
  | n, a :: as, d :: ds, h => by
    have h : (fitS n a d && fitSs n as ds) = true := by cases n <;> exact h
    rw [Bool.and_eq_true] at h
    obtain ⟨h1, h2⟩ := fit_py n a d h.1
    obtain ⟨h3, h4⟩ := fit_pys n as ds h.2
    refine ⟨?_, ?_⟩
    · have e : pyDs n (d :: ds) = (match pyD n d, pyDs n ds with | some x, some xs => some (x :: xs) | _, _ => none) := by cases n <;> rfl
      rw [e, h1, h3]; rfl
    · unfold pySs; simp only [PyData.depthAll]; omega
  | n, [], _ :: _, h => by cases n <;> cases h
  | n, _ :: _, [], h => by cases n <;> cases h
end
mutual
theorem fit_lt : ∀ (n : Nat) (a d e : Dat), fitS n a d = true → fitS n a e = true → PySem.W.alike (pyS d) (pyS e) = true ∧ PyData.eqv (pyS d) (pyS e) = keq d e ∧ PySem.W.dataLt (pyS d) (pyS e) = ltK d e
  | n, .int _, .int i, .int j, _, _ => ⟨rfl, by simp [pyS, PyData.eqv, keq]; rfl, by simp only [pyS, ltK]; exact PySem.W.dataLt_int i j⟩
  | n + 1, .tup xs, .tup ys, .tup zs, h1, h2 => by
    obtain ⟨k1, k2, k3⟩ := fit_lts n xs ys zs (by unfold fitS at h1; exact h1) (by unfold fitS at h2; exact h2)
    exact ⟨by simp only [pyS, PySem.W.alike]; exact k1, by simp only [pyS, PyData.eqv, keq]; exact k2, by simp only [pyS, ltK]; rw [PySem.W.dataLt_tuple]; exact k3⟩
  | n, .int _, d, e, h1, h2 => by
    cases d <;> first | (cases n <;> cases h1; done) | (cases e <;> first | (cases n <;> cases h2; done) | exact ⟨rfl, by simp [pyS, PyData.eqv, keq]; rfl, by simp only [pyS, ltK]; exact PySem.W.dataLt_int _ _⟩)
  | 0, .tup _, d, e, h1, h2 => by cases d <;> cases h1
  | n + 1, .tup xs, d, e, h1, h2 => by
    cases d with
    | tup ys =>
      cases e with
      | tup zs =>
        obtain ⟨k1, k2, k3⟩ := fit_lts n xs ys zs (by unfold fitS at h1; exact h1) (by unfold fitS at h2; exact h2)
        exact ⟨by simp only [pyS, PySem.W.alike]; exact k1, by simp only [pyS, PyData.eqv, keq]; exact k2, by simp only [pyS, ltK]; rw [PySem.W.dataLt_tuple]; exact k3⟩
      | _ => cases h2
    | _ => cases h1
  | n, .non, d, e, h1, h2 => by cases n <;> cases h1
  | n, .bl _, d, e, h1, h2 => by cases n <;> cases h1
  | n, .str _, d, e, h1, h2 => by cases n <;> cases h1
  | n, .lst _, d, e, h1, h2 => by cases n <;> cases h1
  | n, .dic _, d, e, h1, h2 => by cases n <;> cases h1
  | n, .kst _, d, e, h1, h2 => by cases n <;> cases h1
theorem fit_lts : ∀ (n : Nat) (as ds es : List Dat), fitSs n as ds = true → fitSs n as es = true → PySem.W.alikeAll (pySs ds) (pySs es) = true ∧ PyData.eqvAll (pySs ds) (pySs es) = keqs ds es ∧
    PyProof.Rows.lexLt PyProof.Rows.itemOrd (PySem.W.keyToksAll (pySs ds)) (PySem.W.keyToksAll (pySs es)) = ltKs ds es
  | n, [], [], [], _, _ => ⟨rfl, rfl, by simp only [pySs]; rw [ltKs]; exact PyProof.Rows.lex_irrefl _; all_goals simp⟩
  | n, a :: as, d :: ds, e :: es, h1, h2 => by
    have h1 : (fitS n a d && fitSs n as ds) = true := by cases n <;> exact h1
    have h2 : (fitS n a e && fitSs n as es) = true := by cases n <;> exact h2
    rw [Bool.and_eq_true] at h1 h2
    obtain ⟨k1, k2, k3⟩ := fit_lt n a d e h1.1 h2.1
    obtain ⟨l1, l2, l3⟩ := fit_lts n as ds es h1.2 h2.2
    refine ⟨by simp only [pySs, PySem.W.alikeAll]; rw [k1, l1]; rfl, by simp only [pySs, PyData.eqvAll, keqs]; rw [k2, l2], ?_⟩
    simp only [pySs]
    rw [PySem.W.dataLt_cons k1, k2, l3, k3, ltKs]
  | n, [], [], _ :: _, _, h => by cases n <;> cases h
  | n, [], _ :: _, _, h, _ => by cases n <;> cases h
  | n, _ :: _, [], _, h, _ => by cases n <;> cases h
  | n, _ :: _, _ :: _, [], _, h => by cases n <;> cases h
end
end Lay
namespace Lay
open PySem PySem.Spec L2
def leP (b c : V × Dat) : Bool := PySem.W.dataLe false (fun p : V × Dat => pyS p.2) b c
/-- sorted: the values xs read as the data ds -/
def rSortD (K : PySem.W.Frag) : List V → Hp → VK → Prop := fun vs H Q => ∃ (a : Addr) (bs : List (V × Dat)), vs = [.ref a] ∧ SqL K H a (bs.map (·.1)) ∧ (∀ b ∈ bs, Dp K H b.1 (pyS b.2) ∧ (pyS b.2).depth ≤ 60) ∧
  PySem.W.AllAlike (bs.map fun b => pyS b.2) ∧ PySem.W.Sortable (bs.map fun b => pyS b.2) ∧ ∀ p, H p = none → Q (.ref p) (upd H p (.lst ((bs.mergeSort leP).map (·.1))))
theorem cr_sortD {X : Cx} (hu : X.A.units + 65 < cLine) : CallR X (.builtin "sorted") (rSortD X.K) := by
  intro pins s σ H vs us Q I r h
  obtain ⟨a, bs, rfl, hs, hd, hal, hk, q⟩ := h
  obtain ⟨its, rv, hl, hz⟩ := I.list hs
  rw [Vals.ref1 r]
  have hlen : its.length = bs.length := by rw [← rv.length, List.length_map]
  have hz' : bs.length ≤ sizeLine := by rw [List.length_map] at hz; exact hz
  have e1 : ∀ (bs : List (V × Dat)) (its : List Value), Vals (bs.map (·.1)) its → PySem.W.EachIs (fun (u : Value) (b : V × Dat) => RelV b.1 u) its bs := by
    intro bs
    induction bs with
    | nil => intro its r; cases r; exact .nil
    | cons b bs ih => intro its r; cases r with | cons h t => exact .cons h (ih _ t)
  have e2 : ∀ (bs : List (V × Dat)) (its : List Value), (∀ b ∈ bs, Dp X.K H b.1 (pyS b.2) ∧ (pyS b.2).depth ≤ 60) → Vals (bs.map (·.1)) its → PySem.W.EachIs (fun (u : Value) (b : V × Dat) => ∃ as, Reads s.heap u (pyS b.2) as) its bs := by
    intro bs
    induction bs with
    | nil => intro its _ r; cases r; exact .nil
    | cons b bs ih => intro its h r; cases r with | cons h1 t => exact .cons (Dp.reads I _ _ _ (h b List.mem_cons_self).1 h1) (ih _ (fun c hc => h c (List.mem_cons_of_mem _ hc)) t)
  refine PySem.W.sorted_data hl.isList (e1 bs its rv) (e2 bs its hd rv) hal hk hz' (fun b hb => ?_) fun out ho eo => ?_
  · have := (hd b hb).2
    omega
  · obtain ⟨e, he⟩ := PyProof.Rows.sortedAll_at s.heap its (List.toArray out)
    have back : ∀ (cs : List (V × Dat)) (o : List Value), PySem.W.EachIs (fun (u : Value) (b : V × Dat) => RelV b.1 u) o cs → Vals (cs.map (·.1)) o := by
      intro cs
      induction cs with
      | nil => intro o h; cases h; exact .nil
      | cons c cs ih => intro o h; cases h with | cons h1 t => exact .cons h1 (ih _ t)
    refine ⟨.ref (s.heap.objs.size + 1), _, I.laid (t' := s.toks) (fun b o eb => PyProof.Rows.sortedAll_old eb) (Nat.le_succ _) (show ObjOk X.prog X.w _ _ _ (.lst ((bs.mergeSort leP).map (·.1))) from ⟨?_, out, e, back _ _ eo, he⟩), rfl, q _ (I.hok.fresh (Nat.le_succ _))⟩
    rw [List.length_map, List.length_mergeSort]
    exact hz'
def leK (x y : Dat) : Bool := !ltK y x
def sortOk : List Dat → Bool
  | [] => true
  | .int i :: r => r.all (fitS 0 (.int i))
  | .tup (x :: xs) :: r => fitS 60 (.tup (x :: xs)) (.tup (x :: xs)) && r.all (fitS 60 (.tup (x :: xs)))
  | _ => false
def opSorted : List OT → Option OT
  | [x] => match asL x with
    | some ds => if sortOk ds then some (.lst ((isortL leK ds).map .fz)) else none
    | none => none
  | _ => none
theorem sortOk_fit {ds : List Dat} (h : sortOk ds = true) : ∃ a, (∀ d ∈ ds, fitS 60 a d = true) ∧ ((∃ x xs, a = .tup (x :: xs)) ∨ ∃ i, a = .int i) := by
  unfold sortOk at h
  split at h
  · exact ⟨.int 0, (fun d hd => nomatch hd), .inr ⟨0, rfl⟩⟩
  · rename_i i r
    refine ⟨.int i, fun d hd => ?_, .inr ⟨i, rfl⟩⟩
    rcases List.mem_cons.mp hd with rfl | hd
    · rfl
    · have := List.all_eq_true.mp h d hd
      cases d <;> first | rfl | cases this
  · rename_i x xs r
    rw [Bool.and_eq_true] at h
    refine ⟨.tup (x :: xs), fun d hd => ?_, .inl ⟨x, xs, rfl⟩⟩
    rcases List.mem_cons.mp hd with rfl | hd
    · exact h.1
    · exact List.all_eq_true.mp h.2 d hd
  · cases h
theorem ok_sorted {K : PySem.W.Frag} : CallOk K (rSortD K) opSorted := fun G H os vs o Q e r c q => by
  unfold opSorted at c
  split at c
  · rename_i x
    obtain ⟨v, f, rfl, r1⟩ := r.one
    cases hx : asL x with
    | none => rw [hx] at c; cases c
    | some ds =>
      rw [hx] at c
      simp only at c
      split at c
      · rename_i hok
        cases c
        obtain ⟨a, ws, rfl, ha, ra⟩ := asL_ok e r1 hx
        obtain ⟨t, ht, hsh⟩ := sortOk_fit hok
        have hlen := ra.length
        have hm1 : (ws.zip ds).map (·.1) = ws := by rw [List.map_fst_zip (by omega)]
        have hm2 : (ws.zip ds).map (·.2) = ds := by rw [List.map_snd_zip (by omega)]
        have hz : ∀ (ds : List Dat) (ws : List V), RepDs K G ds ws → ∀ b ∈ ws.zip ds, RepD K G b.2 b.1 ∧ b.2 ∈ ds := by
          intro ds
          induction ds with
          | nil => intro ws _ b hb; rw [List.zip_nil_right] at hb; cases hb
          | cons d ds ih =>
            intro ws h b hb
            obtain ⟨w, r', rfl, q1, q2⟩ := h
            rw [List.zip_cons_cons] at hb
            rcases List.mem_cons.mp hb with rfl | hb
            · exact ⟨q1, List.mem_cons_self⟩
            · obtain ⟨h1, h2⟩ := ih r' q2 b hb
              exact ⟨h1, List.mem_cons_of_mem _ h2⟩
        have hb := hz ds ws ra
        have mp : (ws.zip ds).map (fun b => pyS b.2) = ds.map pyS := by
          have z := congrArg (List.map pyS) hm2
          rw [List.map_map] at z
          exact z
        refine ⟨a, ws.zip ds, rfl, .inl (.inl (by rw [hm1]; exact ha)), fun b hb' => ?_, ?_, ?_, fun p hp => ?_⟩
        · obtain ⟨h1, h2⟩ := hb b hb'
          obtain ⟨k1, k2⟩ := fit_py 60 t b.2 (ht _ h2)
          exact ⟨RepD.dp e b.2 60 b.1 _ k1 h1, k2⟩
        · rw [mp]
          intro d hd d' hd'
          obtain ⟨u, hu, rfl⟩ := List.mem_map.mp hd
          obtain ⟨u', hu', rfl⟩ := List.mem_map.mp hd'
          exact (fit_lt 60 t u u' (ht u hu) (ht u' hu')).1
        · rw [mp]
          rcases hsh with ⟨x, xs, rfl⟩ | ⟨i, rfl⟩
          · refine .inl fun d hd => ?_
            obtain ⟨u, hu, rfl⟩ := List.mem_map.mp hd
            have := ht u hu
            cases u with
            | tup ys =>
              cases ys with
              | nil => cases this
              | cons y ys => exact ⟨pyS y, pySs ys, by simp only [pyS, pySs]⟩
            | _ => cases this
          · refine .inr fun d hd => ?_
            obtain ⟨u, hu, rfl⟩ := List.mem_map.mp hd
            have := ht u hu
            cases u with
            | int j => exact ⟨(by simp [pyS]), fun xs => by simp [pyS]⟩
            | _ => cases this
        · -- the list that comes
          have tl : PySem.W.TotalLe leP := PySem.W.sortLe_total _ false _
          have e1 : (ws.zip ds).mergeSort leP = isortL leP (ws.zip ds) := (isortL_eq tl _).symm
          have e2 : isortL leP (ws.zip ds) = isortL (fun b c : V × Dat => leK b.2 c.2) (ws.zip ds) := isortL_congr _ fun b hb1 c hc1 => by
            have q1 := ht _ (hb b hb1).2
            have q2 := ht _ (hb c hc1).2
            show (!PySem.W.dataLt (pyS c.2) (pyS b.2)) = !ltK c.2 b.2
            rw [(fit_lt 60 t c.2 b.2 q2 q1).2.2]
          have gen : ∀ l : List (V × Dat), (isortL (fun b c : V × Dat => leK b.2 c.2) l).map (·.2) = isortL leK (l.map (·.2)) := by
            have ins : ∀ (x : V × Dat) (l : List (V × Dat)), (insL (fun b c : V × Dat => leK b.2 c.2) x l).map (·.2) = insL leK x.2 (l.map (·.2)) := by
              intro x l
              induction l with
              | nil => rfl
              | cons y r ih =>
                show (if leK x.2 y.2 = true then x :: y :: r else y :: insL (fun b c : V × Dat => leK b.2 c.2) x r).map (·.2) = if leK x.2 y.2 = true then x.2 :: y.2 :: r.map (·.2) else y.2 :: insL leK x.2 (r.map (·.2))
                split
                · rfl
                · rw [List.map_cons, ih]
            intro l
            induction l with
            | nil => rfl
            | cons x r ih =>
              unfold isortL
              rw [ins, ih]
              rw [List.map_cons]
          have rd : ∀ l : List (V × Dat), (∀ b ∈ l, RepD K G b.2 b.1) → RepDs K G (l.map (·.2)) (l.map (·.1)) := by
            intro l
            induction l with
            | nil => intro _; rfl
            | cons x r ih => intro h; exact ⟨_, _, rfl, h x List.mem_cons_self, ih fun b hb => h b (List.mem_cons_of_mem _ hb)⟩
          rw [e1, e2]
          refine Res.newL (ds := isortL leK ds) q ?_ hp
          have := rd (isortL (fun b c : V × Dat => leK b.2 c.2) (ws.zip ds)) fun b hb' => (hb b ((isortL_mem _ _).mp hb')).1
          rw [gen, hm2] at this
          exact this
      · cases c
  · cases c
def minI : Int → List Int → Int
  | m, [] => m
  | m, x :: r => minI (if x < m then x else m) r
def maxI : Int → List Int → Int
  | m, [] => m
  | m, x :: r => maxI (if m < x then x else m) r
theorem minI_le : ∀ (l : List Int) (m : Int), minI m l ≤ m ∧ (∀ y ∈ l, minI m l ≤ y) ∧ (minI m l = m ∨ minI m l ∈ l)
  | [], m => ⟨Int.le_refl _, (fun y hy => nomatch hy), .inl rfl⟩
  | x :: r, m => by
    unfold minI
    obtain ⟨h1, h2, h3⟩ := minI_le r (if x < m then x else m)
    by_cases c : x < m
    · rw [if_pos c] at h1 h2 h3 ⊢
      refine ⟨by omega, fun y hy => ?_, ?_⟩
      · rcases List.mem_cons.mp hy with rfl | hy
        · exact h1
        · exact h2 y hy
      · rcases h3 with h3 | h3
        · exact .inr (by rw [h3]; exact List.mem_cons_self)
        · exact .inr (List.mem_cons_of_mem _ h3)
    · rw [if_neg c] at h1 h2 h3 ⊢
      refine ⟨h1, fun y hy => ?_, ?_⟩
      · rcases List.mem_cons.mp hy with rfl | hy
        · omega
        · exact h2 y hy
      · exact h3.imp id (List.mem_cons_of_mem _)
theorem maxI_le : ∀ (l : List Int) (m : Int), m ≤ maxI m l ∧ (∀ y ∈ l, y ≤ maxI m l) ∧ (maxI m l = m ∨ maxI m l ∈ l)
  | [], m => ⟨Int.le_refl _, (fun y hy => nomatch hy), .inl rfl⟩
  | x :: r, m => by
    unfold maxI
    obtain ⟨h1, h2, h3⟩ := maxI_le r (if m < x then x else m)
    by_cases c : m < x
    · rw [if_pos c] at h1 h2 h3 ⊢
      refine ⟨by omega, fun y hy => ?_, ?_⟩
      · rcases List.mem_cons.mp hy with rfl | hy
        · exact h1
        · exact h2 y hy
      · rcases h3 with h3 | h3
        · exact .inr (by rw [h3]; exact List.mem_cons_self)
        · exact .inr (List.mem_cons_of_mem _ h3)
    · rw [if_neg c] at h1 h2 h3 ⊢
      refine ⟨h1, fun y hy => ?_, ?_⟩
      · rcases List.mem_cons.mp hy with rfl | hy
        · omega
        · exact h2 y hy
      · exact h3.imp id (List.mem_cons_of_mem _)
def opMinL : List OT → Option OT
  | [x] => match (asL x).bind intsD with
    | some (m :: r) => some (.fz (.int (minI m r)))
    | _ => none
  | _ => none
def opMaxL : List OT → Option OT
  | [x] => match (asL x).bind intsD with
    | some (m :: r) => some (.fz (.int (maxI m r)))
    | _ => none
  | _ => none
theorem ok_minL {K : PySem.W.Frag} : CallOk K (rMin K) opMinL := fun G H os vs o Q e r c q => by
  unfold opMinL at c
  split at c
  · rename_i x
    obtain ⟨v, f, rfl, r1⟩ := r.one
    split at c
    · rename_i m l h
      cases c
      obtain ⟨a, rfl, ha⟩ := ints_ok e r1 h
      refine ⟨a, m :: l, rfl, ha, Nat.succ_pos _, fun k h1 h2 => ?_⟩
      obtain ⟨k1, k2, k3⟩ := minI_le l m
      have e1 : minI m l ∈ m :: l := k3.elim (fun z => by rw [z]; exact List.mem_cons_self) (List.mem_cons_of_mem _)
      have e2 : minI m l ≤ k := by
        rcases List.mem_cons.mp h1 with rfl | h1
        · exact k1
        · exact k2 k h1
      have e3 := h2 _ e1
      have : k = minI m l := by omega
      rw [this]
      exact q.int
    · cases c
  · cases c
theorem ok_maxL {K : PySem.W.Frag} : CallOk K (rMax K) opMaxL := fun G H os vs o Q e r c q => by
  unfold opMaxL at c
  split at c
  · rename_i x
    obtain ⟨v, f, rfl, r1⟩ := r.one
    split at c
    · rename_i m l h
      cases c
      obtain ⟨a, rfl, ha⟩ := ints_ok e r1 h
      refine ⟨a, m :: l, rfl, ha, Nat.succ_pos _, fun k h1 h2 => ?_⟩
      obtain ⟨k1, k2, k3⟩ := maxI_le l m
      have e1 : maxI m l ∈ m :: l := k3.elim (fun z => by rw [z]; exact List.mem_cons_self) (List.mem_cons_of_mem _)
      have e2 : k ≤ maxI m l := by
        rcases List.mem_cons.mp h1 with rfl | h1
        · exact k1
        · exact k2 k h1
      have e3 := h2 _ e1
      have : k = maxI m l := by omega
      rw [this]
      exact q.int
    · cases c
  · cases c
end Lay
namespace Lay
open PySem PySem.Spec L2
def GDk (K : PySem.W.Frag) (w : World) (mgf : Str → Option Value) (x : Str) (kvs : List (Str × Dat)) : Prop :=
  ∃ a, mgf x = some (.ref a) ∧ ∀ s d, seen kvs s = some d → ∃ v, KDct K w a s v ∧ ∀ G, RepD K G d v
section
variable {X : Cx} {W : WX} {pos p : Pos} {x : Str} {kvs : List (Str × Dat)} {b : Expr} {fb : M Arg}
theorem de_gdk (h : GDk X.K X.w X.mg x kvs) (hg : Gl X x := by rfl) (hb : DE X W b fb) (hs : PlainIx b := by exact fun _ _ => rfl) (hd : (x == ("__debug__" : Str)) = false := by decide) : DE X W (.Subscript (.Name x p) b pos) (x1 (opDget kvs) fb) := by
  obtain ⟨a, hm, hv⟩ := h
  refine pe_imp (pe_ix ix_kdict (pe_glob (v := .ref a) hg hm rfl hd) hb hs) fun σ H Q q => ?_
  exact t1_op (Z := zp X W) (r := fun y H Q => rIxD X.K X.w (.ref a) y H Q) (fun G H o1 v1 f1 o Q e r c q => by
    unfold opDget at c
    split at c
    · rename_i s
      cases (show v1 = .str _ from r.2)
      cases e1 : seen kvs s with
      | none => rw [e1] at c; cases c
      | some d =>
        rw [e1] at c
        cases c
        obtain ⟨v, h1, h2⟩ := hv s d e1
        exact ⟨a, s, v, rfl, rfl, h1, q.same (h2 G)⟩
    · cases c) q
end
def xAll : List (M Arg) → M (List Arg)
  | [] => xNil
  | f :: r => xCons f (xAll r)
theorem tCons_op {Z : Par} {fa : M Arg} {fr : M (List Arg)} {σ : St} {H : Hp} {Q : List V → Hp → Prop} (h : tDA Z (xCons fa fr) σ H Q) : tD Z fa σ H fun v H1 => tDA Z fr σ H1 fun vs H2 => Q (v :: vs) H2 := by
  obtain ⟨T, P, ρ, fs, rp, q⟩ := h
  refine ⟨T, P, ρ, fs, rp, ?_⟩
  unfold xCons at q
  cases e1 : fa ρ with
  | bad => rw [e1] at q; exact q
  | ex x ρ' => rw [e1] at q; exact q
  | ok a ρ1 =>
    rw [e1] at q
    intro v1 H1 fs1 l1 r1 f1
    refine ⟨Tl T l1, P, ρ1, fs1, r1.rp, ?_⟩
    simp only [R.bind] at q
    cases e2 : fr ρ1 with
    | bad => rw [e2] at q; exact q
    | ex x ρ' => rw [e2] at q; exact onX.fr q f1
    | ok b ρ2 =>
      rw [e2] at q
      intro v2 H2 fs2 l2 r2 f2
      have a1 := AR.step r1.ar r1.rp.noair f2
      have r2p := r2.rp
      have r2a := r2.ar
      rw [Tl_app] at a1 r2p r2a
      refine q (v1 :: v2) H2 fs2 (l1 ++ l2) ⟨r2p, ?_, ?_, v1, v2, l1, l2, rfl, rfl, a1, r2a⟩ fun b x e n => ?_
      · refine List.nodup_append.mpr ⟨r1.nd, r2.nd, fun x hx y hy e => ?_⟩
        subst e
        exact r2.nt x hy (.inr hx)
      · intro b hb z
        exact (List.mem_append.mp hb).elim (fun hb => r1.nt b hb z) fun hb => r2.nt b hb (.inl z)
      · obtain ⟨h1, n1⟩ := f1 b x e n
        obtain ⟨h2, n2⟩ := f2 b x h1 fun z => n1 (.inr z)
        refine ⟨h2, ?_⟩
        rintro (z | z)
        · exact (List.mem_append.mp z).elim (fun z => n1 (.inl z)) fun z => n2 (.inl z)
        · exact n2 (.inr z)
/-- values given one by one -/
inductive PV (X : Cx) (W : WX) (pos : Pos) : List (Option Expr) → List Expr → List Str → List (M Arg) → Prop where
  | nil : PV X W pos [] [] [] []
  | cons {s : Str} {j : Nat} {p : Pos} {v : Expr} {f : M Arg} {ks : List (Option Expr)} {vs : List Expr} {ss : List Str} {fs : List (M Arg)} (h : DE X W v f) (r : PV X W pos ks vs ss fs) : PV X W pos (some (.Constant (.str s) j p) :: ks) (v :: vs) (s :: ss) (f :: fs)
def pvT (Z : Par) (ss : List Str) (fs : List (M Arg)) : List (TE × TE) := (ss.zip fs).map fun p => (tC (.str p.1), tD Z p.2)
theorem PV.pps {X : Cx} {W : WX} {pos : Pos} : ∀ {ks : List (Option Expr)} {vs : List Expr} {ss : List Str} {fs : List (M Arg)}, PV X W pos ks vs ss fs → PPs X pos ks vs (pvT (zp X W) ss fs)
  | _, _, _, _, .nil => pps_nil
  | _, _, _, _, .cons h r => pps_cons pe_str h r.pps
theorem PV.len {X : Cx} {W : WX} {pos : Pos} : ∀ {ks : List (Option Expr)} {vs : List Expr} {ss : List Str} {fs : List (M Arg)}, PV X W pos ks vs ss fs → ks.length = vs.length ∧ ss.length = fs.length ∧ ks.length = ss.length ∧ ks.all (·.isSome) = true
  | _, _, _, _, .nil => ⟨rfl, rfl, rfl, rfl⟩
  | _, _, _, _, .cons h r => by
    obtain ⟨a, b, c, d⟩ := r.len
    exact ⟨by simp [a], by simp [b], by simp [c], by simp [d]⟩
theorem tPairs_all {Z : Par} : ∀ (ss : List Str) (fs : List (M Arg)) {σ : St} {H : Hp} {Q : List (V × V) → Hp → Prop}, ss.length = fs.length → tDA Z (xAll fs) σ H (fun vs H1 => Q (List.zipWith (fun s v => (V.str s, v)) ss vs) H1) → tPairs (pvT Z ss fs) σ H Q
  | [], [], σ, H, Q, _, h => by
    obtain ⟨T, P, ρ, fs, rp, q⟩ := h
    exact q [] H fs [] ⟨rp.tl0, .nil, (fun _ z => nomatch z), rfl, rfl⟩ (Fr.refl.imp fun x z => z.elim (fun z => nomatch z) id)
  | s :: ss, f :: fs, σ, H, Q, hl, h => by
    have h := tCons_op h
    refine tD_mono h fun v H1 h1 => ?_
    exact tPairs_all ss fs (σ := σ) (H := H1) (Q := fun ps H3 => Q ((.str s, v) :: ps) H3) (by simpa using hl) h1
  | [], _ :: _, _, _, _, hl, _ => by cases hl
  | _ :: _, [], _, _, _, hl, _ => by cases hl
theorem valV_merge : ∀ (more acc : List (Key × V)) (j : Key), (more.map (·.1)).Nodup → valV (mergeK acc more) j = match valV more j with
    | some v => some v
    | none => valV acc j
  | [], acc, j, _ => rfl
  | p :: r, acc, j, h => by
    rw [List.map_cons, List.nodup_cons] at h
    show valV (mergeK (putK acc p.1 p.2) r) j = _
    rw [valV_merge r _ j h.2, valV_put]
    by_cases e : p.1 = j
    · have hn : valV r j = none := by
        unfold valV
        rw [Option.map_eq_none_iff, List.find?_eq_none]
        intro x hx hc
        exact h.1 (List.mem_map.mpr ⟨x, hx, by rw [of_decide_eq_true hc, e]⟩)
      rw [valV_pos e, hn, if_pos e.symm]
    · rw [valV_neg e, if_neg (fun z => e z.symm)]
def xDispIx (ss : List Str) (fs : List (M Arg)) (fb : M Arg) : M Arg := fun ρ => (xAll fs ρ).bind fun as ρ1 => match takes ρ1 as with
  | some (os, ρ2) => match allFz os with
    | some ds => x1 (opDget (ss.zip ds)) fb ρ2
    | none => .bad
  | none => .bad
theorem seen_val {K : PySem.W.Frag} {G : Hp} : ∀ {ss : List Str} {ds : List Dat} {vs : List V} {s : Str} {d : Dat}, RepDs K G ds vs → seen (ss.zip ds) s = some d → ∃ v, valV (List.zipWith (fun (s : Str) (v : V) => ((Sum.inr s : Key), v)) ss vs) (.inr s) = some v ∧ RepD K G d v
  | [], ds, vs, s, d, _, h => by cases h
  | _ :: _, [], vs, s, d, _, h => by cases h
  | k :: ss, e :: ds, vs, s, d, r, h => by
    obtain ⟨v, r', rfl, q1, q2⟩ := r
    by_cases c : k = s
    · subst c
      have : seen ((k :: ss).zip (e :: ds)) k = some e := by unfold seen; rw [List.zip_cons_cons, List.find?_cons_of_pos (by simp)]; rfl
      rw [this] at h
      cases h
      exact ⟨v, valV_pos (p := ((Sum.inr k : Key), v)) rfl, q1⟩
    · have : seen ((k :: ss).zip (e :: ds)) s = seen (ss.zip ds) s := by unfold seen; rw [List.zip_cons_cons, List.find?_cons_of_neg (by simpa using c)]
      rw [this] at h
      obtain ⟨w, h1, h2⟩ := seen_val q2 h
      exact ⟨w, by rw [List.zipWith_cons_cons]; exact (valV_neg (p := ((Sum.inr k : Key), v)) fun z => c (Sum.inr.inj z)).trans h1, h2⟩
section
variable {X : Cx} {W : WX} {pos dpos : Pos} {keys : List (Option Expr)} {values : List Expr} {ss : List Str} {fs : List (M Arg)} {b : Expr} {fb : M Arg}
theorem de_dispIx (hu : X.A.units + 65 < cLine) (hp : PV X W dpos keys values ss fs) (hb : DE X W b fb) (h0 : keys ≠ [] := by simp) (h15 : ss.length ≤ 15 := by decide) (nd : ss.Nodup := by decide) (hs : NoSl b := by exact fun _ _ => rfl) :
    DE X W (.Subscript (.Dict keys values dpos) b pos) (xDispIx ss fs fb) := by
  obtain ⟨l1, l2, l3, l4⟩ := hp.len
  refine pe_imp (pe_dget (by omega) (pe_disp hp.pps l4 l1 h0 (by omega)) hb hs) fun σ H Q q p hn => ?_
  refine tPairs_all ss fs l2 ?_
  obtain ⟨T, P, ρ, ff, rp, q⟩ := q
  have nf : ¬ Hd T ff p := rp.hd hn
  have r0 : Rp X.K (Tl T [p]) P ρ σ (upd H p (.dK [])) ff := rp.grow (fun b x e => by rw [upd_ne (ne_of_none e hn)]; exact e) fun a z => by
    rcases z with z | z
    · exact .inl z
    · cases List.mem_singleton.mp z
      exact .inr ⟨hn, _, upd_same⟩
  refine ⟨Tl T [p], P, ρ, ff, r0, ?_⟩
  have TP : ∀ {T' : Addr → Prop}, Tl (Tl T [p]) [] p := fun {_} => .inl (.inr List.mem_cons_self)
  have fr0 : ∀ {H2 : Hp} {own : Addr → Prop}, Fr (upd H p (.dK [])) (Own ff) H2 own → Fr H (Own ff) H2 own := fun {H2 own} g a x e n => g a x (upd_none_ne hn e) n
  unfold xDispIx at q
  cases e1 : xAll fs ρ with
  | bad => rw [e1] at q; exact q
  | ex x ρ' =>
    rw [e1] at q
    intro cls d σ' H' fs' rx rp' g
    have gx : Ex (hide (Hd (Tl T [p]) fs') H') (hide (Hd T fs') H') := hide_ex fun a y hn e => ⟨fun z => hn (z.imp Or.inl id), e⟩
    have mf : ∀ {l1 : List (Str × Dat)} {vs}, RepF X.K (hide (Hd (Tl T [p]) fs') H') l1 vs → RepF X.K (hide (Hd T fs') H') l1 vs := by
      intro l1
      induction l1 with
      | nil => intro vs h; exact h
      | cons p r ih =>
        intro vs h
        obtain ⟨n, dd⟩ := p
        obtain ⟨v, r', rfl, q, q2⟩ := h
        exact ⟨v, r', rfl, RepD.mono gx dd v q, ih q2⟩
    obtain ⟨rx1, vs, rx2, rx3⟩ := rx
    exact q cls d σ' H' fs' ⟨rx1, vs, mf rx2, rx3⟩ rp'.unl (fr0 g)
  | ok as ρ1 =>
  rw [e1] at q
  simp only [R.bind] at q
  intro vs H1 fs1 lv r1 f1
  cases ct : takes ρ1 as with
  | none => simp only [ct] at q; exact q.elim
  | some po =>
  obtain ⟨os, ρ2⟩ := po
  simp only [ct] at q
  cases ca : allFz os with
  | none => simp only [ca] at q; exact q.elim
  | some ds =>
  simp only [ca] at q
  obtain ⟨fs2, r2, s2, p2⟩ := takes_ok r1.rp r1.ar ct
  rw [allFz_eq ca] at p2
  have rds : RepDs X.K (hide (Hd (Tl (Tl T [p]) lv) fs2) H1) ds vs := RepOs.ds p2
  have hp1 : H1 p = some (.dK []) := (f1 p _ upd_same fun z => r0.tf p z (.inr List.mem_cons_self)).1
  have rT : Rp X.K (Tl T [p]) P ρ2 σ H1 fs2 := r2.unl
  have ex1 : Ex (hide (Hd (Tl (Tl T [p]) lv) fs2) H1) (hide (Hd (Tl T [p]) fs2) H1) := hide_ex fun a x n e => ⟨fun z => n (z.imp Or.inl id), e⟩
  have hlen : ss.length = ds.length ∨ ss.length ≤ 15 := .inr h15
  refine ⟨hp1, List.zipWith (fun (s : Str) (v : V) => ((Sum.inr s : Key), v)) ss vs, ?_, ?_, ?_⟩
  · rw [List.map_zipWith]; rfl
  · rw [List.length_zipWith]; omega
  · -- the key, and the reading
    have f01 : Fr H (Own ff) H1 (Own fs2) := fr0 (f1.imp fun x z => .inr (s2 x z))
    refine ⟨Tl T [p], P, ρ2, fs2, rT.updT (.inr List.mem_cons_self) _, ?_⟩
    unfold x1 at q
    cases e3 : fb ρ2 with
    | bad => rw [e3] at q; exact q
    | ex x ρ' =>
      rw [e3] at q
      intro cls d σ' H' fs' rx rp' g
      have gx : Ex (hide (Hd (Tl T [p]) fs') H') (hide (Hd T fs') H') := hide_ex fun a y hn e => ⟨fun z => hn (z.imp Or.inl id), e⟩
      have mf : ∀ {l1 : List (Str × Dat)} {vs}, RepF X.K (hide (Hd (Tl T [p]) fs') H') l1 vs → RepF X.K (hide (Hd T fs') H') l1 vs := by
        intro l1
        induction l1 with
        | nil => intro vs h; exact h
        | cons p r ih =>
          intro vs h
          obtain ⟨n, dd⟩ := p
          obtain ⟨v, r', rfl, q, q2⟩ := h
          exact ⟨v, r', rfl, RepD.mono gx dd v q, ih q2⟩
      obtain ⟨rx1, vs, rx2, rx3⟩ := rx
      refine q cls d σ' H' fs' ⟨rx1, vs, mf rx2, rx3⟩ rp'.unl fun a x e n => ?_
      obtain ⟨h1, n1⟩ := f01 a x e n
      exact g a x (by rw [upd_ne (ne_of_none e hn)]; exact h1) n1
    | ok a ρ3 =>
    rw [e3] at q
    simp only [R.bind] at q
    intro y H3 fs3 l3 r3 f3
    cases ck : look ρ3 a with
    | none => simp only [ck] at q; exact q.elim
    | some o =>
    simp only [ck] at q
    cases co : opDget (ss.zip ds) o with
    | none => simp only [co] at q; exact q.elim
    | some o' =>
    simp only [co] at q
    obtain ⟨g3, s3, _⟩ := RpA.see r3.rp r3.ar ck
    unfold opDget at co
    split at co
    · rename_i s
      cases (show y = .str s from s3.2)
      cases e5 : seen (ss.zip ds) s with
      | none => rw [e5] at co; cases co
      | some d =>
      rw [e5] at co
      cases co
      have hp3 : H3 p = some (.dK (mergeK [] (List.zipWith (fun (s : Str) (v : V) => ((Sum.inr s : Key), v)) ss vs))) := (f3 p _ upd_same fun z => rT.tf p z (.inr List.mem_cons_self)).1
      obtain ⟨v, hv, rd⟩ := seen_val (RepDs.mono ex1 ds vs rds) e5
      refine ⟨p, v, rfl, ?_, ?_⟩
      · have g := DGet.k (k := .inr s) hp3
        rw [valV_merge _ _ _ ?_, hv] at g
        · exact g
        · have gen : ∀ (ss : List Str) (vs : List V), ss.Nodup → ((List.zipWith (fun (s : Str) (v : V) => ((Sum.inr s : Key), v)) ss vs).map (·.1)).Nodup ∧ ∀ k ∈ (List.zipWith (fun (s : Str) (v : V) => ((Sum.inr s : Key), v)) ss vs).map (·.1), ∃ s ∈ ss, k = .inr s := by
            intro ss
            induction ss with
            | nil => intro vs _; exact ⟨List.nodup_nil, fun k hk => nomatch hk⟩
            | cons s ss ih =>
              intro vs h
              cases vs with
              | nil => exact ⟨List.nodup_nil, fun k hk => nomatch hk⟩
              | cons v vs =>
                obtain ⟨h1, h2⟩ := List.nodup_cons.mp h
                obtain ⟨g1, g2⟩ := ih vs h2
                rw [List.zipWith_cons_cons, List.map_cons]
                refine ⟨List.nodup_cons.mpr ⟨fun z => ?_, g1⟩, fun k hk => ?_⟩
                · obtain ⟨s', hs', e⟩ := g2 _ z
                  cases e
                  exact h1 hs'
                · rcases List.mem_cons.mp hk with rfl | hk
                  · exact ⟨s, List.mem_cons_self, rfl⟩
                  · obtain ⟨s', hs', e⟩ := g2 k hk
                    exact ⟨s', List.mem_cons_of_mem _ hs', e⟩
          exact (gen ss vs nd).1
      · have exu : Ex (hide (Hd (Tl T [p]) fs2) H1) (hide (Hd (Tl T []) fs3) H3) := hide_ex fun a x n e => by
          have ne : a ≠ p := fun z => n (.inl (.inr (by rw [z]; exact List.mem_cons_self)))
          obtain ⟨h1, n1⟩ := f3 a x (by rw [upd_ne ne]; exact e) fun z => n (.inr z)
          refine ⟨?_, h1⟩
          rintro ((z | z) | z)
          · exact n (.inl (.inl z))
          · cases z
          · exact n1 (.inr z)
        refine q v H3 fs3 [] ⟨r3.rp.unl.unl.tl0, .nil, (fun _ z => nomatch z), rfl, RepD.mono exu d v rd⟩ fun a x e n => ?_
        obtain ⟨h1, n1⟩ := f01 a x e n
        obtain ⟨h2, n2⟩ := f3 a x (by rw [upd_ne (ne_of_none e hn)]; exact h1) n1
        exact ⟨h2, fun z => z.elim (fun z => nomatch z) fun z => n2 (.inr z)⟩
    · cases co
end
end Lay
namespace Lay
open PySem PySem.Spec L2
theorem u9 {k : Nat} {A : Around} (hr : Room k A) : A.units + 9 < cLine := by have := hr.un; omega
theorem bt_sorted : bootBuiltins "sorted" = some (.builtin "sorted") := by decide +kernel
theorem bt_min : bootBuiltins "min" = some (.builtin "min") := by decide +kernel
theorem bt_max : bootBuiltins "max" = some (.builtin "max") := by decide +kernel
theorem seen_mem {kvs : List (Str × Dat)} {s : Str} {d : Dat} (h : seen kvs s = some d) : ∃ p ∈ kvs, p.1 = s ∧ p.2 = d := by
  unfold seen at h
  obtain ⟨p, hp, rfl⟩ := Option.map_eq_some_iff.mp h
  exact ⟨p, List.mem_of_find?_eq_some hp, by simpa using List.find?_some hp, rfl⟩
theorem gdk_mk {K : PySem.W.Frag} {w : World} {mgf : Str → Option Value} {x : Str} {kvs : List (Str × Dat)} {a : Addr} (hm : mgf x = some (.ref a)) (h : ∀ p ∈ kvs, ∃ v, KDct K w a p.1 v ∧ ∀ G, RepD K G p.2 v) : GDk K w mgf x kvs :=
  ⟨a, hm, fun s d e => by
    obtain ⟨p, hp, rfl, rfl⟩ := seen_mem e
    exact h p hp⟩
/-- values of the written part and the data that they are -/
inductive KV1 (K : PySem.W.Frag) : Value → Dat → Prop where
  | int (i : Int) (t : Tok) : KV1 K (.int i t) (.int i)
  | str (s : Str) (t : Tok) : KV1 K (.str s t) (.str s)
  | non : KV1 K .none .non
  | bl (b : Bool) : KV1 K (.bool b) (.bl b)
  | tup {T : Addr} {od : Option Addr} {its : Array Value} {n : Nat} {sl : Array (Option Value)} {ds : List Dat} (h : K.lookup T = some ⟨.type "tuple", od, .seq its n, sl⟩) (hz : its.size ≤ sizeLine) (l : its.size = ds.length) (r : ∀ p ∈ its.toList.zip ds, KV1 K p.1 p.2) : KV1 K (.ref T) (.tup ds)
theorem KV1.rep {K : PySem.W.Frag} {u : Value} {d : Dat} (h : KV1 K u d) : ∃ v, RelV v u ∧ ∀ G, RepD K G d v := by
  induction h with
  | int i t => exact ⟨.int i, ⟨t, rfl⟩, fun _ => rfl⟩
  | str s t => exact ⟨.str s, ⟨t, rfl⟩, fun _ => rfl⟩
  | non => exact ⟨.non, rfl, fun _ => rfl⟩
  | bl b => exact ⟨.bl b, rfl, fun _ => rfl⟩
  | @tup T od its n sl ds h hz l r ih =>
    have gen : ∀ (us : List Value) (ds : List Dat), us.length = ds.length → (∀ p ∈ us.zip ds, ∃ v, RelV v p.1 ∧ ∀ G, RepD K G p.2 v) → ∃ vs, Vals vs us ∧ ∀ G, RepDs K G ds vs := by
      intro us
      induction us with
      | nil => intro ds l _; cases ds with
        | nil => exact ⟨[], .nil, fun _ => rfl⟩
        | cons d ds => cases l
      | cons u us ih =>
        intro ds l h
        cases ds with
        | nil => cases l
        | cons d ds =>
          obtain ⟨v, h1, h2⟩ := h (u, d) List.mem_cons_self
          obtain ⟨vs, g1, g2⟩ := ih ds (by simpa using l) fun p hp => h p (List.mem_cons_of_mem _ hp)
          exact ⟨v :: vs, .cons h1 g1, fun G => ⟨v, vs, rfl, h2 G, g2 G⟩⟩
    obtain ⟨vs, g1, g2⟩ := gen its.toList ds (by simpa using l) fun p hp => ih p hp
    exact ⟨.ref T, rfl, fun G => ⟨T, vs, rfl, .inr ⟨_, its, n, h, rfl, rfl, hz, g1⟩, g2 G⟩⟩
theorem kdct_mk {K : PySem.W.Frag} {w : World} {a : Addr} {es : Array DictEntry} {n : Nat} {x : Str} {u : Value} {d : Dat} (hl : K.lookup a = some ⟨.type "dict", none, .dict es n, #[]⟩) (hk : PySem.W.KeysLit w.params es.toList) (e : PySem.W.nsIn K a x = some (some u)) (h : KV1 K u d) : ∃ v, KDct K w a x v ∧ ∀ G, RepD K G d v := by
  obtain ⟨v, h1, h2⟩ := h.rep
  exact ⟨v, ⟨es, n, u, hl, hk, e, h1⟩, h2⟩
end Lay
namespace Lay
open PySem PySem.Spec L2
theorem kv_nil {K : PySem.W.Frag} : ∀ p ∈ ([] : List Value).zip ([] : List Dat), KV1 K p.1 p.2 := fun p hp => nomatch hp
theorem kv_cons {K : PySem.W.Frag} {u : Value} {us : List Value} {d : Dat} {ds : List Dat} (h : KV1 K u d) (t : ∀ p ∈ us.zip ds, KV1 K p.1 p.2) : ∀ p ∈ (u :: us).zip (d :: ds), KV1 K p.1 p.2 := fun p hp => by
  rw [List.zip_cons_cons] at hp
  rcases List.mem_cons.mp hp with rfl | hp
  · exact h
  · exact t p hp
end Lay
namespace Lay
open PySem PySem.Spec L2
def sTupS (gs : List TM) (f : M (List Arg)) : SM := fun ρ => RS (f ρ) fun as ρ1 => match takes ρ1 as with
  | some (os, ρ2) => if os.length = gs.length ∧ os.length ≤ sizeLine then RS (gSeq gs os ρ2) fun _ ρ3 => .nx ρ3 else .bad
  | none => .bad
theorem tTupS_op {Z : Par} {S : List Nat} {gs : List TM} {f : M (List Arg)} {D : Ends} {σ : St} {H : Hp} (h : tS Z (sTupS gs f) D σ H) : tAsg (tTup (tDA Z f)) (gTup Z.K gs.length (gsD Z S gs)) D σ H := by
  obtain ⟨T, P, ρ, fs, r, q⟩ := h
  refine ⟨T, P, ρ, fs, r, ?_⟩
  unfold sTupS at q
  cases e1 : f ρ with
  | bad => rw [e1] at q; exact q
  | ex x ρ' => rw [e1] at q; exact q
  | ok as ρ1 =>
    rw [e1] at q
    simp only [RS] at q
    intro vs H1 fs1 l1 r1 f1
    cases c1 : takes ρ1 as with
    | none => simp only [c1] at q; exact q.elim
    | some p =>
      obtain ⟨os, ρ2⟩ := p
      simp only [c1] at q
      obtain ⟨fs2, r2, s2, p2⟩ := takes_ok r1.rp r1.ar c1
      by_cases hz : os.length = gs.length ∧ os.length ≤ sizeLine
      · rw [if_pos hz] at q
        have hl := RepOs.length p2
        refine ⟨by omega, fun t ht => ?_⟩
        have old : ∀ a o, H1 a = some o → upd H1 t (.tup vs) a = some o := fun a o e => by rw [upd_ne (ne_of_none e ht)]; exact e
        have r3 : Rp Z.K (Tl T l1) P ρ2 σ (upd H1 t (.tup vs)) fs2 := r2.grow old fun a z => .inl z
        have ff : Fr H (Own fs) (upd H1 t (.tup vs)) (Ow l1 fs2) := fun a x e n => by
          obtain ⟨h1, n1⟩ := f1 a x e n
          exact ⟨old a x h1, fun z => n1 (z.imp id (s2 a))⟩
        have ex : Ex (hide (Hd (Tl T l1) fs2) H1) (hide (Hd (Tl T l1) fs2) (upd H1 t (.tup vs))) := hide_ex fun a x n e => ⟨n, old a x e⟩
        refine ⟨t, vs, rfl, .inl (.inl upd_same), by omega, T, P, ρ2, fs2, os, l1, r3, r1.nd, r1.nt, RepOs.mono ex os vs l1 (fun b _ x e => old b x e) p2, ?_⟩
        cases e2 : gSeq gs os ρ2 with
        | bad => rw [e2] at q; exact q
        | ex x ρ' => rw [e2] at q; exact fun cls d σ' H' fs' rx rp fr => q cls d σ' H' fs' rx rp (ff.trans fr)
        | ok u ρ3 => rw [e2] at q; exact fun σ' H' fs' _ rp fr => q σ' H' fs' rp (ff.trans fr)
      · rw [if_neg hz] at q; exact q.elim
section
variable {X : Cx} {W : WX} {pos pt p2 : Pos} {es vs : List Expr} {k k2 : Nat} {S : List Nat} {gs : List TM} {f : M (List Arg)}
theorem ds_tupS (hc : X.calm = true) (ha : DA X W vs f) (hg : DGs X W es S gs) (hn : (assignEach es X.env).length = gs.length := by rfl) (hst : (assignEach es X.env).findIdx? (·.1) = none := by rfl)
    (hs : swapsWithSole [.Tuple es k pt] (.Tuple vs k2 p2) pos.line X.env = pure false := by rfl) (hw : swappedStores [.Tuple es k pt] (.Tuple vs k2 p2) X.env = pure none := by rfl)
    (h1 : (assignEach [.Tuple es k pt] X.env).map (·.2) = [assign (.Tuple es k pt) X.env] := by rfl) : DS X W (.Assign [.Tuple es k pt] (.Tuple vs k2 p2) pos) (sTupS gs f) :=
  ps_imp (ps_asg (pe_tup ha) (pg_tup hc hg hn hst) hs hw h1) fun D σ H q => tTupS_op (Z := zp X W) q
end
end Lay
namespace Com
open PySem PySem.Spec L2 Lay
def G__law_cell : SM :=
  (sSeq (sIf (xT (x2 opLt (xVar 1) (xN opLen (xCons (xVar 0) xNil)))) (sRet (x2 opIx (xVar 0) (xVar 1))) sNx)
  (sRet (xD (.int 0))))
def F__law_cell : FD := runF none 2 2 G__law_cell
def G__law_digits : SM :=
  (sSeq (sAsg (xLstF xNil) (gNm 3))
  (sSeq (sFor (iRg2 (xCons (xVar 1) (xCons (xVar 2) xNil))) (gNm 4) (sSeq (sAsg (xCallN 2 none F__law_cell (xCons (xVar 0) (xCons (xVar 4) xNil))) (gNm 5))
  (sSeq (sIf (xT (x2 opLt (xVar 5) (xD (.int 0)))) (sAsg (x2 opSub (xD (.int 1)) (x2 opMul (xD (.int 2)) (xVar 5))) (gNm 5)) sNx)
  (sSeq (sIf (xT (x2 opGt (xN opLen (xCons (xVar 3) xNil)) (xD (.int 1500)))) (sBk) sNx)
  (sIf (xT (x2 opGe (xVar 5) (x2 opPow (xD (.int 10)) (xD (.int 18))))) (sFor (iRg1 (xCons (xD (.int 60)) xNil)) (gNm 6) (sIf (xT (x2 opGt (xVar 5) (xD (.int 0)))) (sSeq (sExpr (xMut "list" 3 (muF muAppend) (xCons (x2 opMod (xN opInt (xCons (xVar 5) xNil)) (xD (.int 1000))) xNil)))
  (sAsg (x2 opFdiv (xVar 5) (xD (.int 1000))) (gNm 5))) sNx)) (sSeq (sAsg (x2 opMod (xN opInt (xCons (x2 opAdd (x2 opAdd (x2 opMul (xVar 5) (xD (.int 48271))) (x2 opMul (xVar 4) (xD (.int 69621)))) (xD (.int 11))) xNil)) (xD (.int 2147483647))) (gNm 7))
  (sFor (iRg1 (xCons (xD (.int 12)) xNil)) (gNm 6) (sSeq (sAsg (x2 opMod (xN opInt (xCons (x2 opAdd (x2 opAdd (x2 opMul (xVar 7) (xD (.int 16807))) (x2 opMul (xD (.int 7)) (xVar 6))) (xD (.int 1))) xNil)) (xD (.int 2147483647))) (gNm 7))
  (sExpr (xMut "list" 3 (muF muAppend) (xCons (x2 opMod (xN opInt (xCons (x2 opFdiv (xVar 7) (xD (.int 997))) xNil)) (xD (.int 1000))) xNil)))))))))))
  (sRet (xVar 3))))
def F__law_digits : FD := runF none 8 3 G__law_digits
def G__law_draw : SM :=
  (sSeq (sAsg (x2 opIx (xVar 0) (xD (.int 1))) (gNm 2))
  (sSeq (sAsg (x2 opAdd (xVar 2) (xD (.int 1))) (gIx 0 (xD (.int 1)) (muF muSetL)))
  (sSeq (sIf (xT (x2 opLt (xVar 2) (xN opLen (xCons (x2 opIx (xVar 0) (xD (.int 0))) xNil)))) (sRet (x2 opMod (xN opInt (xCons (x2 opIx (x2 opIx (xVar 0) (xD (.int 0))) (xVar 2)) xNil)) (xVar 1))) sNx)
  (sRet (x2 opMod (xN opInt (xCons (x2 opMul (xVar 2) (xD (.int 7))) xNil)) (xVar 1))))))
def F__law_draw : FD := runF (some 0) 3 2 G__law_draw
def G__law_like (self : FD) : SM :=
  (sSeq (sIf (xTru (x1 (opIsi "tuple") (xVar 1))) (sSeq (sIf (xOr (xNot (xTru (x1 (opIsi "tuple") (xVar 0)))) (xT (x2 opNe (xN opLen (xCons (xVar 0) xNil)) (xN opLen (xCons (xVar 1) xNil))))) (sRet (xD (.bl false))) sNx)
  (sRet (x2 opEq (xFz (xLc [2] (iRg1 (xCons (xN opLen (xCons (xVar 1) xNil)) xNil)) (gNm 2) (xNot (xTru (xCallN 2 none self (xCons (x2 opIx (xVar 0) (xVar 2)) (xCons (x2 opIx (xVar 1) (xVar 2)) xNil))))) (xD (.int 1)))) (xLstF xNil)))) sNx)
  (sSeq (sIf (xT (x2 (opIs false) (xVar 1) (xD .non))) (sRet (x2 (opIs false) (xVar 0) (xD .non))) sNx)
  (sSeq (sIf (xT (x2 (opIs false) (xVar 1) (xD (.bl true)))) (sRet (x2 (opIs false) (xVar 0) (xD (.bl true)))) sNx)
  (sSeq (sIf (xT (x2 (opIs false) (xVar 1) (xD (.bl false)))) (sRet (x2 (opIs false) (xVar 0) (xD (.bl false)))) sNx)
  (sSeq (sIf (xTru (x1 (opIsi "str") (xVar 1))) (sRet (xAndV (x1 (opIsi "str") (xVar 0)) (x2 opEq (xM opJoin (xTy "str" (xD (.str ""))) (xCons (xLstF (xCons (xVar 0) xNil)) xNil)) (xVar 1)))) sNx)
  (sRet (xAndV (x1 (opIsi "int") (xVar 0)) (xAndV (xNotV (x1 (opIsi "bool") (xVar 0))) (x2 opEq (xVar 0) (xVar 1))))))))))
def F__law_like : Nat → FD
  | 0 => fun _ => .bad
  | n + 1 => runF none 3 2 (G__law_like (F__law_like n))
def G__law_pick : SM :=
  (sRet (x2 opIx (xVar 1) (x2 opMod (xN opInt (xCons (xCallN 2 (some 0) F__law_draw (xCons (xVar 0) (xCons (xD (.int 900)) xNil))) xNil)) (xN opLen (xCons (xVar 1) xNil)))))
def F__law_pick : FD := runF (some 0) 2 2 G__law_pick
local macro_rules | `(tactic| walk_at "WP") => `(tactic| (repeat (first | apply_rules (transparency := .reducible) only [@wo_ev, @w_varE, w_D, w_Cons, w_x2, ws_seq, ws_asg, ws_if, ws_ret, ws_expr, ws_par, ws_nx, ws_raise, o_TT, ws_bk, ws_ct, ws_retN, ws_st_nil, ws_st_cons, w_x1, w_notV, w_Nil, w_N, w_M, w_Ty, w_Tup, w_LstF, w_Fz, w_T, w_Tru, w_And, w_Or, w_Not, w_If, w_OrV, w_AndV, w_Js_nil, w_Js_cons, w_Call, w_Mut, w_Yes, w_gIx, w_gS_nil, w_gS_cons, w_Sq, w_Rg1, w_Rg2, w_NoPart, w_Part, w_Sl, ws_aug, o_addI, o_find2, o_find3, o_add, o_sub, o_lt, o_le, o_gt, o_ge, o_eqI, o_neI, o_int, o_intB, o_gcd, o_lenT, o_lenL, o_lenK, o_lenO, o_isN, o_isB, o_isnN, o_isnB, o_neg, o_eqS, o_neS, @w_gNmE, @and_tt] | ((with_reducible refine id_o ?_); first | refine o_isi (by decide) (by first | rfl | assumption) ?_ | refine o_mul (by first | exact cMul_r (by omega) (by omega) | exact cMul_l (by omega) (by omega)) ?_ | refine o_mul (by assumption) ?_ | refine o_mod (by omega) ?_ | refine o_fdivS (by omega) (by omega) ?_ | refine o_absN ?_ | refine w_back rfl ?_ | refine wo rfl ?_) | ((with_reducible refine id_a ?_); first | refine ⟨⟨by omega, by omega⟩, ?_⟩ | refine ⟨⟨⟨by omega, by omega⟩, by omega, by omega⟩, ?_⟩ | refine ⟨@rfl _ _, ?_⟩ | refine ⟨⟨@rfl _ _, @rfl _ _⟩, ?_⟩ | refine ⟨⟨Nat.le_of_ble_eq_true rfl, fun _ h => nomatch h⟩, ?_⟩ | refine ⟨Nat.le_of_ble_eq_true rfl, ?_⟩) | ((with_reducible refine id_b ?_); first | refine br_true ?_ | refine br_false ?_) | ((with_reducible refine id_p ?_); first | refine w_gJ rfl (by assumption) ?_ | refine w_gS_cons ?_ | refine w_gS_nil ?_ | refine w_gLs rfl ?_ | refine w_gTu rfl ?_ | refine w_Js_cons ?_ | refine w_Js_nil ?_ | refine w_var rfl ?_ | refine w_gNm rfl ?_) | ((with_reducible refine id_e ?_); first | refine ⟨_, rfl, ?_⟩) | ((with_reducible refine id_s ?_); first | refine ws_st_cons ?_ | refine ws_st_nil ?_))))
local macro_rules | `(tactic| walk_at "WQ") => `(tactic| (repeat (first | apply_rules (transparency := .reducible) only [@wo_ev, @w_varE, w_D, w_Cons, w_x2, ws_seq, ws_asg, ws_ret, ws_expr, ws_par, ws_nx, ws_raise, o_TT, ws_bk, ws_ct, ws_retN, ws_st_nil, ws_st_cons, w_x1, w_notV, w_Nil, w_N, w_M, w_Ty, w_Tup, w_LstF, w_Fz, w_T, w_Tru, w_And, w_Or, w_Not, w_If, w_OrV, w_AndV, w_Js_nil, w_Js_cons, w_Call, w_Mut, w_Yes, w_gIx, w_gS_nil, w_gS_cons, w_Sq, w_Rg1, w_Rg2, w_NoPart, w_Part, w_Sl, ws_aug, o_addI, o_find2, o_find3, o_add, o_sub, o_lt, o_le, o_gt, o_ge, o_eqI, o_neI, o_int, o_intB, o_gcd, o_lenT, o_lenL, o_lenK, o_lenO, o_isN, o_isB, o_isnN, o_isnB, o_neg, o_eqS, o_neS, @w_gNmE, @and_tt] | ((with_reducible refine id_o ?_); first | refine o_isi (by decide) (by first | rfl | assumption) ?_ | refine o_mul (by first | exact cMul_r (by omega) (by omega) | exact cMul_l (by omega) (by omega)) ?_ | refine o_mul (by assumption) ?_ | refine o_mod (by omega) ?_ | refine o_fdivS (by omega) (by omega) ?_ | refine o_absN ?_ | refine w_back rfl ?_ | refine wo rfl ?_) | ((with_reducible refine id_a ?_); first | refine ⟨⟨by omega, by omega⟩, ?_⟩ | refine ⟨⟨⟨by omega, by omega⟩, by omega, by omega⟩, ?_⟩ | refine ⟨@rfl _ _, ?_⟩ | refine ⟨⟨@rfl _ _, @rfl _ _⟩, ?_⟩ | refine ⟨⟨Nat.le_of_ble_eq_true rfl, fun _ h => nomatch h⟩, ?_⟩ | refine ⟨Nat.le_of_ble_eq_true rfl, ?_⟩) | ((with_reducible refine id_b ?_); first | refine br_true ?_ | refine br_false ?_) | ((with_reducible refine id_p ?_); first | refine w_gJ rfl (by assumption) ?_ | refine w_gS_cons ?_ | refine w_gS_nil ?_ | refine w_gLs rfl ?_ | refine w_gTu rfl ?_ | refine w_Js_cons ?_ | refine w_Js_nil ?_ | refine w_var rfl ?_ | refine w_gNm rfl ?_) | ((with_reducible refine id_e ?_); first | refine ⟨_, rfl, ?_⟩) | ((with_reducible refine id_s ?_); first | refine ws_st_cons ?_ | refine ws_st_nil ?_))))
local macro_rules | `(tactic| walk_at "WI") => `(tactic| (repeat (first | apply_rules (transparency := .reducible) only [@wo_ev, @w_varE, w_D, w_Cons, w_x2, ws_seq, ws_asg, ws_if, ws_ret, ws_expr, ws_par, ws_nx, ws_raise, o_TT, ws_bk, ws_ct, ws_retN, ws_st_nil, ws_st_cons, w_x1, w_notV, w_Nil, w_N, w_M, w_Ty, w_Tup, w_LstF, w_Fz, w_T, w_Tru, w_And, w_Or, w_Not, w_OrV, w_AndV, w_Js_nil, w_Js_cons, w_Call, w_Mut, w_Yes, w_gIx, w_gS_nil, w_gS_cons, w_Sq, w_Rg1, w_Rg2, w_NoPart, w_Part, w_Sl, ws_aug, o_addI, o_find2, o_find3, o_add, o_sub, o_lt, o_le, o_gt, o_ge, o_eqI, o_neI, o_int, o_intB, o_gcd, o_lenT, o_lenL, o_lenK, o_lenO, o_isN, o_isB, o_isnN, o_isnB, o_neg, o_eqS, o_neS, @w_gNmE, @and_tt] | ((with_reducible refine id_o ?_); first | refine o_isi (by decide) (by first | rfl | assumption) ?_ | refine o_mul (by first | exact cMul_r (by omega) (by omega) | exact cMul_l (by omega) (by omega)) ?_ | refine o_mul (by assumption) ?_ | refine o_mod (by omega) ?_ | refine o_fdivS (by omega) (by omega) ?_ | refine o_absN ?_ | refine w_back rfl ?_ | refine wo rfl ?_) | ((with_reducible refine id_a ?_); first | refine ⟨⟨by omega, by omega⟩, ?_⟩ | refine ⟨⟨⟨by omega, by omega⟩, by omega, by omega⟩, ?_⟩ | refine ⟨@rfl _ _, ?_⟩ | refine ⟨⟨@rfl _ _, @rfl _ _⟩, ?_⟩ | refine ⟨⟨Nat.le_of_ble_eq_true rfl, fun _ h => nomatch h⟩, ?_⟩ | refine ⟨Nat.le_of_ble_eq_true rfl, ?_⟩) | ((with_reducible refine id_b ?_); first | refine br_true ?_ | refine br_false ?_) | ((with_reducible refine id_p ?_); first | refine w_gJ rfl (by assumption) ?_ | refine w_gS_cons ?_ | refine w_gS_nil ?_ | refine w_gLs rfl ?_ | refine w_gTu rfl ?_ | refine w_Js_cons ?_ | refine w_Js_nil ?_ | refine w_var rfl ?_ | refine w_gNm rfl ?_) | ((with_reducible refine id_e ?_); first | refine ⟨_, rfl, ?_⟩) | ((with_reducible refine id_s ?_); first | refine ws_st_cons ?_ | refine ws_st_nil ?_))))
local macro_rules | `(tactic| walk_at "NE") => `(tactic| (dsimp only [List.set_cons_succ, List.set_cons_zero, frz]))
local macro_rules | `(tactic| walk_at "FIN") => `(tactic| (first | rfl | exact ⟨rfl, rfl⟩ | exact trivial | exact ⟨trivial, rfl⟩ | exact ⟨trivial, trivial⟩ | exact ⟨rfl, trivial⟩))
/-- the box of draws -/
def Box (o : OT) : Prop := ∃ (ds : List Int) (at' : Int), o = .lst [.fz (.lst (ds.map .int)), .fz (.int at')] ∧ 0 ≤ at'
theorem get_map {ds : List Int} {i : Int} (h0 : 0 ≤ i) (h : i < (ds.length : Int)) : ∃ d, L2.atI (ds.map Dat.int) i = some (.int d) ∧ d ∈ ds := by
  have hk : i.toNat < ds.length := by omega
  exact ⟨ds[i.toNat], atI_int h0 (by rw [List.getElem?_map, List.getElem?_eq_getElem hk]; rfl), List.getElem_mem hk⟩
theorem cell_spec {ns : List Int} {k : Int} (h0 : 0 ≤ k) : Wf F__law_cell [.fz (.kst ns), .fz (.int k)] (fun r out => (∃ c, r = .fz (.int c)) ∧ out = .fz .non) nX := by
  refine Wf.run ?_
  show Ws G__law_cell [.vl _, .vl _] _
  unfold G__law_cell
  walk_at "WP"
  refine br_dec (fun h => ?_) (fun h => ?_)
  · have hk : k.toNat < ns.length := by omega
    walk_at "WP"
    refine o_ixK (atI_int h0 (List.getElem?_eq_getElem hk)) ?_
    walk_at "WP"
    exact ⟨⟨_, rfl⟩, rfl⟩
  · walk_at "WP"
    exact ⟨⟨_, rfl⟩, rfl⟩
theorem draw_spec {o : OT} {m : Int} (hb : Box o) (hm : 0 < m) : Wf F__law_draw [o, .fz (.int m)] (fun r out => Box out ∧ ∃ v, r = .fz (.int v) ∧ 0 ≤ v ∧ v < m) nX := by
  obtain ⟨ds, at', rfl, h0⟩ := hb
  refine Wf.run ?_
  show Ws G__law_draw [.io _, .vl _, .un] _
  unfold G__law_draw
  walk_at "WP"
  walk_at "NE"
  have fin : ∀ x : Int, Box (.lst [.fz (.lst (ds.map .int)), .fz (.int (at' + 1))]) ∧ ∃ v, OT.fz (.int (x % m)) = .fz (.int v) ∧ 0 ≤ v ∧ v < m := fun x =>
    ⟨⟨ds, at' + 1, rfl, by omega⟩, _, rfl, Int.emod_nonneg _ (by omega), Int.emod_lt_of_pos _ hm⟩
  refine br_dec (fun h => ?_) (fun h => ?_)
  · rw [List.length_map] at h
    obtain ⟨d, hd, _⟩ := get_map h0 h
    walk_at "WP"
    refine o_ixL hd ?_
    walk_at "WP"
    exact fin _
  · walk_at "WP"
    exact fin _
theorem mem_of_atI {α : Type} {xs : List α} {i : Int} {x : α} (h0 : 0 ≤ i) (h : i < (xs.length : Int)) : ∃ x, L2.atI xs i = some x ∧ x ∈ xs := by
  have hk : i.toNat < xs.length := by omega
  exact ⟨xs[i.toNat], atI_int h0 (List.getElem?_eq_getElem hk), List.getElem_mem hk⟩
theorem pick_specL {o : OT} {xs : List Dat} (hb : Box o) (hx : xs ≠ []) : Wf F__law_pick [o, .fz (.lst xs)] (fun r out => Box out ∧ ∃ d, r = .fz d ∧ d ∈ xs) nX := by
  refine Wf.run ?_
  show Ws G__law_pick [.io _, .vl _] _
  unfold G__law_pick
  have hl : 0 < xs.length := by cases xs with | nil => exact absurd rfl hx | cons a r => simp
  walk_at "WP"
  refine (draw_spec hb (by decide)).go fun r out h => ?_
  obtain ⟨⟨ds1, at1, rfl, hp1⟩, v, rfl, h1, h2⟩ := h
  walk_at "WP"
  have g1 := Int.emod_nonneg v (show ((xs.length : Nat) : Int) ≠ 0 by omega)
  have g2 := Int.emod_lt_of_pos v (show (0 : Int) < (xs.length : Nat) by omega)
  obtain ⟨x, e, hm⟩ := mem_of_atI (x := xs[0]) g1 g2
  refine o_ixL e ?_
  walk_at "WP"
  exact ⟨⟨ds1, at1, rfl, hp1⟩, x, rfl, hm⟩
theorem pick_specT {o : OT} {xs : List Dat} (hb : Box o) (hx : xs ≠ []) : Wf F__law_pick [o, .fz (.tup xs)] (fun r out => Box out ∧ ∃ d, r = .fz d ∧ d ∈ xs) nX := by
  refine Wf.run ?_
  show Ws G__law_pick [.io _, .vl _] _
  unfold G__law_pick
  have hl : 0 < xs.length := by cases xs with | nil => exact absurd rfl hx | cons a r => simp
  walk_at "WP"
  refine (draw_spec hb (by decide)).go fun r out h => ?_
  obtain ⟨⟨ds1, at1, rfl, hp1⟩, v, rfl, h1, h2⟩ := h
  walk_at "WP"
  have g1 := Int.emod_nonneg v (show ((xs.length : Nat) : Int) ≠ 0 by omega)
  have g2 := Int.emod_lt_of_pos v (show (0 : Int) < (xs.length : Nat) by omega)
  obtain ⟨x, e, hm⟩ := mem_of_atI (x := xs[0]) g1 g2
  refine o_ixT e ?_
  walk_at "WP"
  exact ⟨⟨ds1, at1, rfl, hp1⟩, x, rfl, hm⟩
/-- the digits that were made so far -/
def Dig (n : Nat) (o : OT) : Prop := ∃ ds : List Int, o = .lst (ds.map fun d => .fz (.int d)) ∧ ds.length ≤ n
theorem Dig.app {n m : Nat} {ds : List Int} {d : Int} (h : ds.length ≤ n) (hm : n + 1 ≤ m) : Dig m (.lst (ds.map (fun d => OT.fz (.int d)) ++ [.fz (.int d)])) := ⟨ds ++ [d], by simp, by simp; omega⟩
theorem Dig.mono {n m : Nat} {o : OT} (h : Dig n o) (hm : n ≤ m) : Dig m o := by
  obtain ⟨ds, rfl, h⟩ := h
  exact ⟨ds, rfl, Nat.le_trans h hm⟩
theorem digits_spec {ns : List Int} : Wf F__law_digits [.fz (.kst ns), .fz (.int 0), .fz (.int 63)] (fun r out => Dig 3780 r ∧ out = .fz .non) nX := by
  refine Wf.run ?_
  show Ws G__law_digits [.vl _, .vl _, .vl _, .un, .un, .un, .un, .un] _
  unfold G__law_digits
  walk_at "WP"
  walk_at "NE"
  refine ws_for ?_
  walk_at "WP"
  refine ⟨fun k ρ => ∃ o a b c d, Dig (60 * k) o ∧ Jk a ∧ Jk b ∧ Jk c ∧ Jk d ∧ ρ = [.vl (.fz (.kst ns)), .vl (.fz (.int 0)), .vl (.fz (.int 63)), .vl o, a, b, c, d], ?_, ?_, ?_⟩
  · exact ⟨_, _, _, _, _, ⟨[], rfl, Nat.le_refl _⟩, jk_un, jk_un, jk_un, jk_un, rfl⟩
  · rintro k d ρ hd ⟨o, a, b, c, e, ho, ha, hb, hc, he, rfl⟩
    obtain ⟨hk, rfl⟩ := rng_inv hd
    simp only [Int.zero_add]
    walk_at "WP"
    refine (cell_spec (by omega)).go fun r out h => ?_
    obtain ⟨⟨x, rfl⟩, rfl⟩ := h
    walk_at "WQ"
    walk_at "NE"
    refine ws_J (fun ρ => ∃ (y : Int) (b e : Sl), Jk b ∧ Jk e ∧ ρ = [.vl (.fz (.kst ns)), .vl (.fz (.int 0)), .vl (.fz (.int 63)), .vl o, .vl (.fz (.int (k : Int))), .vl (.fz (.int y)), b, e]) ?_ (fun ρ h => ?_)
    · walk_at "WP"
      refine br_dec (fun h => ?_) (fun h => ?_)
      · walk_at "WP"
        walk_at "NE"
        exact ⟨_, _, _, hc, he, rfl⟩
      · walk_at "WP"
        exact ⟨_, _, _, hc, he, rfl⟩
    obtain ⟨y, b, e, hb, he, rfl⟩ := h
    have hko : 60 * k ≤ 3780 := by omega
    obtain ⟨ds, rfl, hds⟩ := ho
    walk_at "WP"
    rw [List.length_map]
    refine br_dec (fun h => ?_) (fun h => ?_)
    · walk_at "WP"
      exact ⟨⟨ds, rfl, Nat.le_trans hds hko⟩, rfl⟩
    · walk_at "WP"
      refine br_dec (fun h => ?_) (fun h => ?_)
      · refine ws_for ?_
        walk_at "WP"
        refine ⟨fun j ρ => ∃ (o : OT) (y : Int) (b e : Sl), Dig (60 * k + j) o ∧ Jk b ∧ Jk e ∧ ρ = [.vl (.fz (.kst ns)), .vl (.fz (.int 0)), .vl (.fz (.int 63)), .vl o, .vl (.fz (.int (k : Int))), .vl (.fz (.int y)), b, e], ?_, ?_, ?_⟩
        · exact ⟨_, _, _, _, ⟨ds, rfl, hds⟩, hb, he, rfl⟩
        · rintro j d ρ hd ⟨o, y, b, e, ho, hb, he, rfl⟩
          obtain ⟨hj, rfl⟩ := rng_inv hd
          obtain ⟨ds, rfl, hds⟩ := ho
          walk_at "WP"
          refine br_dec (fun h => ?_) (fun h => ?_)
          · walk_at "WP"
            refine o_app ?_ ?_
            · rw [List.length_map]; show ds.length < 16777216; omega
            walk_at "WP"
            walk_at "NE"
            exact ⟨_, _, _, _, Dig.app hds (by omega), jk_vl, he, rfl⟩
          · walk_at "WP"
            walk_at "NE"
            exact ⟨_, _, _, _, ⟨ds, rfl, by omega⟩, jk_vl, he, rfl⟩
        · rintro ρ ⟨o, y, b, e, ho, hb, he, rfl⟩
          have ho : Dig (60 * k + 60) o := ho
          exact ⟨_, _, _, _, _, ho.mono (by omega), jk_vl, jk_vl, hb, he, rfl⟩
      · walk_at "WP"
        walk_at "NE"
        refine ws_for ?_
        walk_at "WP"
        refine ⟨fun j ρ => ∃ (o : OT) (y z : Int) (b : Sl), Dig (60 * k + j) o ∧ Jk b ∧ ρ = [.vl (.fz (.kst ns)), .vl (.fz (.int 0)), .vl (.fz (.int 63)), .vl o, .vl (.fz (.int (k : Int))), .vl (.fz (.int y)), b, .vl (.fz (.int z))], ?_, ?_, ?_⟩
        · exact ⟨_, _, _, _, ⟨ds, rfl, hds⟩, hb, rfl⟩
        · rintro j d ρ hd ⟨o, y, z, b, ho, hb, rfl⟩
          obtain ⟨hj, rfl⟩ := rng_inv hd
          obtain ⟨ds, rfl, hds⟩ := ho
          walk_at "WP"
          refine o_app ?_ ?_
          · rw [List.length_map]; show ds.length < 16777216; omega
          walk_at "WP"
          walk_at "NE"
          exact ⟨_, _, _, _, Dig.app hds (by omega), jk_vl, rfl⟩
        · rintro ρ ⟨o, y, z, b, ho, hb, rfl⟩
          have ho : Dig (60 * k + 12) o := ho
          exact ⟨_, _, _, _, _, ho.mono (by omega), jk_vl, jk_vl, hb, jk_vl, rfl⟩
  · rintro ρ ⟨o, a, b, c, e, ho, ha, hb, hc, he, rfl⟩
    walk_at "WP"
    exact ⟨ho, rfl⟩
/-- plain data, at most n deep -/
def plD : Nat → Dat → Bool
  | _, .non => true
  | _, .bl _ => true
  | _, .int _ => true
  | _, .str s => decide (s.length ≤ 16777216)
  | n + 1, .tup xs => decide (xs.length ≤ 16777216) && xs.all (plD n)
  | _, _ => false
theorem like_refl : ∀ (n : Nat) (d : Dat), plD n d = true → Wf (F__law_like (n + 1)) [.fz d, .fz d] (fun r out => r = .fz (.bl true) ∧ out = .fz .non) nX
  | n, .non, _ => by
    refine Wf.run ?_
    show Ws (G__law_like _) [.vl _, .vl _, .un] _
    unfold G__law_like
    walk_at "WP"
    rfl
  | n, .bl b, _ => by
    refine Wf.run ?_
    show Ws (G__law_like _) [.vl _, .vl _, .un] _
    unfold G__law_like
    walk_at "WP"
    cases b
    · walk_at "WP"
      rfl
    · walk_at "WP"
      rfl
  | n, .int i, _ => by
    refine Wf.run ?_
    show Ws (G__law_like _) [.vl _, .vl _, .un] _
    unfold G__law_like
    walk_at "WP"
    exact ⟨by simp, rfl⟩
  | n, .str s, h => by
    have hs : s.length ≤ 16777216 := by cases n <;> exact of_decide_eq_true h
    refine Wf.run ?_
    show Ws (G__law_like _) [.vl _, .vl _, .un] _
    unfold G__law_like
    walk_at "WP"
    refine o_join (ds := [.str s]) (ys := [s]) rfl rfl (by show s.length + 0 + 1 * (Str.ofString "").length ≤ _; rw [show (Str.ofString "").length = 0 from rfl]; omega) ?_
    walk_at "WP"
    have e : Txt.join (Str.ofString "") [s] = s := rfl
    exact ⟨by simp [e], rfl⟩
  | n + 1, .tup xs, h => by
    have h : (decide (xs.length ≤ 16777216) && xs.all (plD n)) = true := h
    simp only [Bool.and_eq_true, decide_eq_true_eq, List.all_eq_true] at h
    have h1 := h
    refine Wf.run ?_
    show Ws (G__law_like _) [.vl _, .vl _, .un] _
    unfold G__law_like
    walk_at "WP"
    refine br_not (br_dec (fun h => ?_) (fun h => absurd rfl h))
    walk_at "WP"
    refine w_LcP ?_
    walk_at "WP"
    refine ⟨⟨by rw [rngL_length]; show _ ≤ 16777216; omega, fun _ h => nomatch h⟩, fun _ => none, fun d hd => ?_, rfl, ?_⟩
    · obtain ⟨k, hk, rfl⟩ := rng_mem hd
      simp only [Int.zero_add]
      have hk : k < xs.length := by omega
      have hx := atI_int (xs := xs) (i := (k : Int)) (by omega) (by rw [Int.toNat_natCast]; exact List.getElem?_eq_getElem hk)
      have hm := List.getElem_mem hk
      walk_at "WP"
      refine o_ixT hx ?_
      walk_at "WP"
      refine o_ixT hx ?_
      walk_at "WP"
      refine (like_refl n _ (h1.2 _ hm)).go fun r out h => ?_
      obtain ⟨rfl, rfl⟩ := h
      walk_at "WP"
      exact ⟨trivial, rfl⟩
    · simp only [fm_none]
      walk_at "WP"
      rfl
  | n, .lst xs, h => by cases n <;> cases h
  | n, .dic xs, h => by cases n <;> cases h
  | n, .kst xs, h => by cases n <;> cases h
  | 0, .tup xs, h => by cases h
end Com
namespace K10
open PySem PySem.Spec L2 Lay
def top (i : Nat) : Stmt := PySem.Challenge.pw_tileyard_k10_diamonds_diamonds.main.body.getD i (.Pass ⟨0, 0, 0, 0⟩)
def C_GOING : List (Str × Dat) := [("up", .tup [.int (-1), .int 0]), ("right", .tup [.int 0, .int 1]), ("down", .tup [.int 1, .int 0]), ("left", .tup [.int 0, .int (-1)])]
structure Mg (w : World) (K : PySem.W.Frag) (mgf : Str → Option Value) : Prop where
  b_all : mgf "all" = none
  b_bool : mgf "bool" = none
  b_int : mgf "int" = none
  b_isinstance : mgf "isinstance" = none
  b_len : mgf "len" = none
  b_list : mgf "list" = none
  b_max : mgf "max" = none
  b_min : mgf "min" = none
  b_range : mgf "range" = none
  b_sorted : mgf "sorted" = none
  b_str : mgf "str" = none
  b_tuple : mgf "tuple" = none
  b_zip : mgf "zip" = none
  i_comb : mgf "comb" = some (.builtin "math.comb")
  c_GOING : GDk K w mgf "GOING" C_GOING
section
variable {P : Program} {w : World} {K : PySem.W.Frag} {mgf : Str → Option Value} {base : Heap} {f : Addr} {fd : FuncData}
abbrev F__law_draw := Com.F__law_draw
theorem sc__law_draw : FnScope ["box", "many", "at"] ["box", "many"] (defScope (top 24)) := ⟨rfl, rfl, rfl, by decide +kernel, rfl, by decide +kernel, by decide +kernel⟩
theorem ok__law_draw (mg : Mg w K mgf) (F : Fun K "_law_draw" "_law_draw" (top 24) f fd) (mf : mgf "_law_draw" = some (.ref f))  : FnD P w K mgf base "_law_draw" 1 (some 0) 2 F__law_draw := by
  have hN := sc__law_draw.nd
  exact ⟨f, fd, ["box", "many"], fn_rule F sc__law_draw rfl (by decide) (by simp) fun cdv A outer s H E hr =>
  (dss_cons (ds_set (ps_set hN rfl (Or.inl rfl) (de_ix ix_seq ok_ix (de_var 0 (pv 0)) (de_int) (fun _ _ => rfl))))
  (dss_cons (ds_asg (de_op op_addA ok_add (de_var 2 (pv 2)) (de_int)) (dg_ix mu_setL.fz (pg_sub (pv 0) (de_int) set_list)))
  (dss_cons (ds_if (dt_cmp op_lt (ok_cmp _) (de_var 2 (pv 2)) (de_cb ok_len (pe_callB call_len rfl mg.b_len bt_len (da_cons (de_ix ix_seq ok_ix (de_var 0 (pv 0)) (de_int) (fun _ _ => rfl)) da_nil)))) (dss_one (ds_ret (de_op op_mod ok_mod (de_cb ok_int (pe_callTy call_int1 rfl mg.b_int bt_int (da_cons (de_ix ix_seq ok_ix (de_ix ix_seq ok_ix (de_var 0 (pv 0)) (de_int) (fun _ _ => rfl)) (de_var 2 (pv 2)) (fun _ _ => rfl)) da_nil))) (de_var 1 (pv 1))))) dss_nil)
  (dss_one (ds_ret (de_op op_mod ok_mod (de_cb ok_int (pe_callTy call_int1 rfl mg.b_int bt_int (da_cons (de_op op_mulA ok_mul (de_var 2 (pv 2)) (de_int)) da_nil))) (de_var 1 (pv 1)))))))), mf, F.kp, F.binds fun _ _ _ _ _ _ us hl => match us, hl with | [_, _], _ => rfl, rfl⟩
abbrev F__law_pick := Com.F__law_pick
theorem sc__law_pick : FnScope ["box", "things"] ["box", "things"] (defScope (top 25)) := ⟨rfl, rfl, rfl, by decide +kernel, rfl, by decide +kernel, by decide +kernel⟩
theorem ok__law_pick (mg : Mg w K mgf) (F : Fun K "_law_pick" "_law_pick" (top 25) f fd) (mf : mgf "_law_pick" = some (.ref f)) (g__law_draw : FnD P w K mgf base "_law_draw" 1 (some 0) 2 F__law_draw) : FnD P w K mgf base "_law_pick" 2 (some 0) 2 F__law_pick := by
  have hN := sc__law_pick.nd
  exact ⟨f, fd, ["box", "things"], fn_rule F sc__law_pick rfl (by decide) (by simp) fun cdv A outer s H E hr =>
  (dss_one (ds_ret (de_ix ix_seq ok_ix (de_var 1 (pv 1)) (de_op op_mod ok_mod (de_cb ok_int (pe_callTy call_int1 rfl mg.b_int bt_int (da_cons (de_call g__law_draw (hr.mono (by omega)) (takes_of rfl rfl rfl rfl) (da_cons (de_var 0 (pv 0)) (da_cons (de_int) da_nil))) da_nil))) (de_cb ok_len (pe_callB call_len rfl mg.b_len bt_len (da_cons (de_var 1 (pv 1)) da_nil)))) (fun _ _ => rfl)))), mf, F.kp, F.binds fun _ _ _ _ _ _ us hl => match us, hl with | [_, _], _ => rfl, rfl⟩
abbrev F__law_like := Com.F__law_like
theorem sc__law_like : FnScope ["told", "due", "k"] ["told", "due"] (defScope (top 26)) := ⟨rfl, rfl, rfl, by decide +kernel, rfl, by decide +kernel, by decide +kernel⟩
theorem ok__law_like (mg : Mg w K mgf) (F : Fun K "_law_like" "_law_like" (top 26) f fd) (mf : mgf "_law_like" = some (.ref f))  : ∀ n : Nat, FnD P w K mgf base "_law_like" (n + 0) none 2 (F__law_like n)
  | 0 => FnD.none F sc__law_like mf (F.binds fun _ _ _ _ _ _ us hl => match us, hl with | [_, _], _ => rfl) rfl
  | n + 1 => by
    have g__law_like := ok__law_like mg F mf  n
    have hN := sc__law_like.nd
    exact ⟨f, fd, ["told", "due"], fn_rule (k := n + 0) F sc__law_like rfl (by decide) (by simp) fun cdv A outer s H E hr =>
  (dss_cons (ds_if (dt_tru (de_isi rfl mg.b_isinstance bt_isinstance (de_var 1 (pv 1)) rfl mg.b_tuple bt_tuple)) (dss_cons (ds_if (dt_bo (dw_or (dt_not (dt_tru (de_isi rfl mg.b_isinstance bt_isinstance (de_var 0 (pv 0)) rfl mg.b_tuple bt_tuple))) (dw_or1 (dt_cmp (op_neA hr.units) ok_ne (de_cb ok_len (pe_callB call_len rfl mg.b_len bt_len (da_cons (de_var 0 (pv 0)) da_nil))) (de_cb ok_len (pe_callB call_len rfl mg.b_len bt_len (da_cons (de_var 1 (pv 1)) da_nil))))))) (dss_one (ds_ret (de_bl))) dss_nil)
  (dss_one (ds_ret (de_cmp (op_eqA hr.units) ok_eq (de_fz (de_lcV [("k", 2)] rfl hN (blkOk_by (N := ["told", "due", "k"]) (sc := defScope (top 26)) (by decide +kernel)) rfl (by decide) (di_rng1 rfl mg.b_range (da_cons (de_cb ok_len (pe_callB call_len rfl mg.b_len bt_len (da_cons (de_var 1 (pv 1)) da_nil))) da_nil)) (fun _ _ _ _ _ => (dg_name (pg_name hN rfl (Or.inl rfl)))) (fun _ _ _ _ _ => (dts_one (dt_not (dt_tru (de_call g__law_like (hr.mono (by omega)) takes0 (da_cons (de_ix ix_seq ok_ix (de_var 0 (pv 0)) (de_var 2 (pv 2)) (fun _ _ => rfl)) (da_cons (de_ix ix_seq ok_ix (de_var 1 (pv 1)) (de_var 2 (pv 2)) (fun _ _ => rfl)) da_nil))))))) (fun _ _ _ _ _ => (de_int)))) (de_lstF da_nil))))) dss_nil)
  (dss_cons (ds_if (dt_cmp op_isA ok_is (de_var 1 (pv 1)) (de_non)) (dss_one (ds_ret (de_cmp op_isA ok_is (de_var 0 (pv 0)) (de_non)))) dss_nil)
  (dss_cons (ds_if (dt_cmp op_isA ok_is (de_var 1 (pv 1)) (de_bl)) (dss_one (ds_ret (de_cmp op_isA ok_is (de_var 0 (pv 0)) (de_bl)))) dss_nil)
  (dss_cons (ds_if (dt_cmp op_isA ok_is (de_var 1 (pv 1)) (de_bl)) (dss_one (ds_ret (de_cmp op_isA ok_is (de_var 0 (pv 0)) (de_bl)))) dss_nil)
  (dss_cons (ds_if (dt_tru (de_isi rfl mg.b_isinstance bt_isinstance (de_var 1 (pv 1)) rfl mg.b_str bt_str)) (dss_one (ds_ret (de_and (de_isi rfl mg.b_isinstance bt_isinstance (de_var 0 (pv 0)) rfl mg.b_str bt_str) (de_one (de_cmp (op_eqA hr.units) ok_eq (de_bm ok_join (pe_bm PySem.F.plainAttrs_str PySem.F.slot_str_join PySem.F.type_str_join mt_join (de_str) (da_cons (de_lstF (da_cons (de_var 0 (pv 0)) da_nil)) da_nil))) (de_var 1 (pv 1))))))) dss_nil)
  (dss_one (ds_ret (de_and (de_isi rfl mg.b_isinstance bt_isinstance (de_var 0 (pv 0)) rfl mg.b_int bt_int) (de_and (de_not (de_isi rfl mg.b_isinstance bt_isinstance (de_var 0 (pv 0)) rfl mg.b_bool bt_bool)) (de_one (de_cmp (op_eqA hr.units) ok_eq (de_var 0 (pv 0)) (de_var 1 (pv 1))))))))))))), mf, F.kp, F.binds fun _ _ _ _ _ _ us hl => match us, hl with | [_, _], _ => rfl, rfl⟩
abbrev F__law_cell := Com.F__law_cell
theorem sc__law_cell : FnScope ["script", "k"] ["script", "k"] (defScope (top 22)) := ⟨rfl, rfl, rfl, by decide +kernel, rfl, by decide +kernel, by decide +kernel⟩
theorem ok__law_cell (mg : Mg w K mgf) (F : Fun K "_law_cell" "_law_cell" (top 22) f fd) (mf : mgf "_law_cell" = some (.ref f))  : FnD P w K mgf base "_law_cell" 1 none 2 F__law_cell := by
  have hN := sc__law_cell.nd
  exact ⟨f, fd, ["script", "k"], fn_rule F sc__law_cell rfl (by decide) (by simp) fun cdv A outer s H E hr =>
  (dss_cons (ds_if (dt_cmp op_lt (ok_cmp _) (de_var 1 (pv 1)) (de_cb ok_len (pe_callB call_len rfl mg.b_len bt_len (da_cons (de_var 0 (pv 0)) da_nil)))) (dss_one (ds_ret (de_ix ix_seq ok_ix (de_var 0 (pv 0)) (de_var 1 (pv 1)) (fun _ _ => rfl)))) dss_nil)
  (dss_one (ds_ret (de_int)))), mf, F.kp, F.binds fun _ _ _ _ _ _ us hl => match us, hl with | [_, _], _ => rfl, rfl⟩
abbrev F__law_digits := Com.F__law_digits
theorem sc__law_digits : FnScope ["script", "first", "last", "digits", "k", "cell", "turn", "seed"] ["script", "first", "last"] (defScope (top 23)) := ⟨rfl, rfl, rfl, by decide +kernel, rfl, by decide +kernel, by decide +kernel⟩
theorem ok__law_digits (mg : Mg w K mgf) (F : Fun K "_law_digits" "_law_digits" (top 23) f fd) (mf : mgf "_law_digits" = some (.ref f)) (g__law_cell : FnD P w K mgf base "_law_cell" 1 none 2 F__law_cell) : FnD P w K mgf base "_law_digits" 2 none 3 F__law_digits := by
  have hN := sc__law_digits.nd
  exact ⟨f, fd, ["script", "first", "last"], fn_rule F sc__law_digits rfl (by decide) (by simp) fun cdv A outer s H E hr =>
  (dss_cons (ds_set (ps_set hN rfl (Or.inl rfl) (de_lstF da_nil)))
  (dss_cons (ds_for (passes_of rfl) rfl (di_rng2 rfl mg.b_range (da_cons (de_var 1 (pv 1)) (da_cons (de_var 2 (pv 2)) da_nil))) (dg_name (pg_name hN rfl (Or.inl rfl))) (dss_cons (ds_set (ps_set hN rfl (Or.inl rfl) (de_call g__law_cell (hr.mono (by omega)) (takes_of rfl rfl rfl rfl) (da_cons (de_var 0 (pv 0)) (da_cons (de_var 4 (pv 4)) da_nil)))))
  (dss_cons (ds_if (dt_cmp op_lt (ok_cmp _) (de_var 5 (pv 5)) (de_int)) (dss_one (ds_set (ps_set hN rfl (Or.inl rfl) (de_op op_sub ok_sub (de_int) (de_op op_mulA ok_mul (de_int) (de_var 5 (pv 5))))))) dss_nil)
  (dss_cons (ds_if (dt_cmp op_gt (ok_cmp _) (de_cb ok_len (pe_callB call_len rfl mg.b_len bt_len (da_cons (de_var 3 (pv 3)) da_nil))) (de_int)) (dss_one (ds_break)) dss_nil)
  (dss_one (ds_if (dt_cmp op_ge (ok_cmp _) (de_var 5 (pv 5)) (de_op op_pow ok_pow (de_int) (de_int))) (dss_one (ds_for (passes_of rfl) rfl (di_rng1 rfl mg.b_range (da_cons (de_int) da_nil)) (dg_name (pg_name hN rfl (Or.inl rfl))) (dss_one (ds_if (dt_cmp op_gt (ok_cmp _) (de_var 5 (pv 5)) (de_int)) (dss_cons (ds_expr (de_mut mu_append.fz (pe_bm PySem.F.plainAttrs_list PySem.F.slot_list_append PySem.F.type_list_append mt_append (pv 3) (da_cons (de_op op_mod ok_mod (de_cb ok_int (pe_callTy call_int1 rfl mg.b_int bt_int (da_cons (de_var 5 (pv 5)) da_nil))) (de_int)) da_nil))))
  (dss_one (ds_set (ps_set hN rfl (Or.inl rfl) (de_op op_fdivA ok_fdiv (de_var 5 (pv 5)) (de_int)))))) dss_nil)))) (dss_cons (ds_set (ps_set hN rfl (Or.inl rfl) (de_op op_mod ok_mod (de_cb ok_int (pe_callTy call_int1 rfl mg.b_int bt_int (da_cons (de_op op_addA ok_add (de_op op_addA ok_add (de_op op_mulA ok_mul (de_var 5 (pv 5)) (de_int)) (de_op op_mulA ok_mul (de_var 4 (pv 4)) (de_int))) (de_int)) da_nil))) (de_int))))
  (dss_one (ds_for (passes_of rfl) rfl (di_rng1 rfl mg.b_range (da_cons (de_int) da_nil)) (dg_name (pg_name hN rfl (Or.inl rfl))) (dss_cons (ds_set (ps_set hN rfl (Or.inl rfl) (de_op op_mod ok_mod (de_cb ok_int (pe_callTy call_int1 rfl mg.b_int bt_int (da_cons (de_op op_addA ok_add (de_op op_addA ok_add (de_op op_mulA ok_mul (de_var 7 (pv 7)) (de_int)) (de_op op_mulA ok_mul (de_int) (de_var 6 (pv 6)))) (de_int)) da_nil))) (de_int))))
  (dss_one (ds_expr (de_mut mu_append.fz (pe_bm PySem.F.plainAttrs_list PySem.F.slot_list_append PySem.F.type_list_append mt_append (pv 3) (da_cons (de_op op_mod ok_mod (de_cb ok_int (pe_callTy call_int1 rfl mg.b_int bt_int (da_cons (de_op op_fdivA ok_fdiv (de_var 7 (pv 7)) (de_int)) da_nil))) (de_int)) da_nil)))))))))))))))
  (dss_one (ds_ret (de_var 3 (pv 3)))))), mf, F.kp, F.binds fun _ _ _ _ _ _ us hl => match us, hl with | [_, _, _], _ => rfl, rfl⟩
def G__law_filled : SM :=
  (sSeq (sAsg (xN opList (xCons (xVar 0) xNil)) (gNm 5))
  (sSeq (sFor (iRg1 (xCons (xN opLen (xCons (xVar 1) xNil)) xNil)) (gNm 6) (sSeq (sAsg (x2 opIx (xVar 1) (xVar 6)) (gTu [(gNm 3), (gNm 4)]))
  (sIf (xT (x2 opEq (x2 opIx (xVar 2) (xVar 6)) (xD (.str "level")))) (sAsg (x2 opAdd (xVar 5) (xLstF (xCons (xTup (xCons (xTup (xCons (xVar 3) (xCons (xVar 4) xNil))) (xCons (xTup (xCons (xVar 3) (xCons (x2 opAdd (xVar 4) (xD (.int 1))) xNil))) xNil))) (xCons (xTup (xCons (xTup (xCons (x2 opAdd (xVar 3) (xD (.int 1))) (xCons (xVar 4) xNil))) (xCons (xTup (xCons (x2 opAdd (xVar 3) (xD (.int 1))) (xCons (x2 opAdd (xVar 4) (xD (.int 1))) xNil))) xNil))) xNil)))) (gNm 5)) (sAsg (x2 opAdd (xVar 5) (xLstF (xCons (xTup (xCons (xTup (xCons (xVar 3) (xCons (xVar 4) xNil))) (xCons (xTup (xCons (x2 opAdd (xVar 3) (xD (.int 1))) (xCons (xVar 4) xNil))) xNil))) (xCons (xTup (xCons (xTup (xCons (xVar 3) (xCons (x2 opAdd (xVar 4) (xD (.int 1))) xNil))) (xCons (xTup (xCons (x2 opAdd (xVar 3) (xD (.int 1))) (xCons (x2 opAdd (xVar 4) (xD (.int 1))) xNil))) xNil))) xNil)))) (gNm 5)))))
  (sRet (xTup (xCons (xD (.str "paving")) (xCons (xN opTuple (xCons (xN opSorted (xCons (xVar 5) xNil)) xNil)) xNil))))))
def F__law_filled : FD := runF none 7 3 G__law_filled
theorem sc__law_filled : FnScope ["some", "places", "words", "r", "c", "rows", "k"] ["some", "places", "words"] (defScope (top 33)) := ⟨rfl, rfl, rfl, by decide +kernel, rfl, by decide +kernel, by decide +kernel⟩
theorem ok__law_filled (mg : Mg w K mgf) (F : Fun K "_law_filled" "_law_filled" (top 33) f fd) (mf : mgf "_law_filled" = some (.ref f))  : FnD P w K mgf base "_law_filled" 1 none 3 F__law_filled := by
  have hN := sc__law_filled.nd
  exact ⟨f, fd, ["some", "places", "words"], fn_rule F sc__law_filled rfl (by decide) (by simp) fun cdv A outer s H E hr =>
  (dss_cons (ds_set (ps_set hN rfl (Or.inl rfl) (de_cb ok_list (pe_callTy call_list_of rfl mg.b_list bt_list (da_cons (de_var 0 (pv 0)) da_nil)))))
  (dss_cons (ds_for (passes_of rfl) rfl (di_rng1 rfl mg.b_range (da_cons (de_cb ok_len (pe_callB call_len rfl mg.b_len bt_len (da_cons (de_var 1 (pv 1)) da_nil))) da_nil)) (dg_name (pg_name hN rfl (Or.inl rfl))) (dss_cons (ds_asg (de_ix ix_seq ok_ix (de_var 1 (pv 1)) (de_var 6 (pv 6)) (fun _ _ => rfl)) (dg_tup rfl (dgs_cons (dg_name (pg_name hN rfl (Or.inl rfl))) (dgs_cons (dg_name (pg_name hN rfl (Or.inl rfl))) dgs_nil))))
  (dss_one (ds_if (dt_cmp (op_eqA hr.units) ok_eq (de_ix ix_seq ok_ix (de_var 2 (pv 2)) (de_var 6 (pv 6)) (fun _ _ => rfl)) (de_str)) (dss_one (ds_set (ps_set hN rfl (Or.inl rfl) (de_op op_addA ok_add (de_var 5 (pv 5)) (de_lstF (da_cons (de_tup (da_cons (de_tup (da_cons (de_var 3 (pv 3)) (da_cons (de_var 4 (pv 4)) da_nil))) (da_cons (de_tup (da_cons (de_var 3 (pv 3)) (da_cons (de_op op_addA ok_add (de_var 4 (pv 4)) (de_int)) da_nil))) da_nil))) (da_cons (de_tup (da_cons (de_tup (da_cons (de_op op_addA ok_add (de_var 3 (pv 3)) (de_int)) (da_cons (de_var 4 (pv 4)) da_nil))) (da_cons (de_tup (da_cons (de_op op_addA ok_add (de_var 3 (pv 3)) (de_int)) (da_cons (de_op op_addA ok_add (de_var 4 (pv 4)) (de_int)) da_nil))) da_nil))) da_nil))))))) (dss_one (ds_set (ps_set hN rfl (Or.inl rfl) (de_op op_addA ok_add (de_var 5 (pv 5)) (de_lstF (da_cons (de_tup (da_cons (de_tup (da_cons (de_var 3 (pv 3)) (da_cons (de_var 4 (pv 4)) da_nil))) (da_cons (de_tup (da_cons (de_op op_addA ok_add (de_var 3 (pv 3)) (de_int)) (da_cons (de_var 4 (pv 4)) da_nil))) da_nil))) (da_cons (de_tup (da_cons (de_tup (da_cons (de_var 3 (pv 3)) (da_cons (de_op op_addA ok_add (de_var 4 (pv 4)) (de_int)) da_nil))) (da_cons (de_tup (da_cons (de_op op_addA ok_add (de_var 3 (pv 3)) (de_int)) (da_cons (de_op op_addA ok_add (de_var 4 (pv 4)) (de_int)) da_nil))) da_nil))) da_nil)))))))))))
  (dss_one (ds_ret (de_tup (da_cons (de_str) (da_cons (de_cb ok_tuple (pe_callTy call_tuple_of rfl mg.b_tuple bt_tuple (da_cons (de_cb ok_sorted (pe_callB (cr_sortD (un65 hr)) rfl mg.b_sorted bt_sorted (da_cons (de_var 5 (pv 5)) da_nil))) da_nil))) da_nil))))))), mf, F.kp, F.binds fun _ _ _ _ _ _ us hl => match us, hl with | [_, _, _], _ => rfl, rfl⟩
def G__law_way : SM :=
  (sSeq (sAsg (xVar 1) (gTu [(gTu [(gNm 2), (gNm 4)]), (gNm 5)]))
  (sSeq (sAsg (x2 opEq (x2 opMod (xN opInt (xCons (x2 opAdd (x2 opSub (x2 opAdd (xVar 2) (xVar 4)) (xVar 0)) (xD (.int 1))) xNil)) (xD (.int 2))) (xD (.int 0))) (gNm 3))
  (sSeq (sIf (xT (x2 opEq (x2 opIx (xVar 5) (xD (.int 0))) (xVar 2))) (sRet (xIf (xTru (xVar 3)) (xD (.str "up")) (xD (.str "down")))) sNx)
  (sRet (xIf (xTru (xVar 3)) (xD (.str "left")) (xD (.str "right")))))))
def F__law_way : FD := runF none 6 2 G__law_way
theorem sc__law_way : FnScope ["n", "domino", "r", "same", "c", "other"] ["n", "domino"] (defScope (top 28)) := ⟨rfl, rfl, rfl, by decide +kernel, rfl, by decide +kernel, by decide +kernel⟩
theorem ok__law_way (mg : Mg w K mgf) (F : Fun K "_law_way" "_law_way" (top 28) f fd) (mf : mgf "_law_way" = some (.ref f))  : FnD P w K mgf base "_law_way" 1 none 2 F__law_way := by
  have hN := sc__law_way.nd
  exact ⟨f, fd, ["n", "domino"], fn_rule F sc__law_way rfl (by decide) (by simp) fun cdv A outer s H E hr =>
  (dss_cons (ds_asg (de_var 1 (pv 1)) (dg_tup rfl (dgs_cons (dg_tup rfl (dgs_cons (dg_name (pg_name hN rfl (Or.inl rfl))) (dgs_cons (dg_name (pg_name hN rfl (Or.inl rfl))) dgs_nil))) (dgs_cons (dg_name (pg_name hN rfl (Or.inl rfl))) dgs_nil))))
  (dss_cons (ds_set (ps_set hN rfl (Or.inl rfl) (de_cmp (op_eqA hr.units) ok_eq (de_op op_mod ok_mod (de_cb ok_int (pe_callTy call_int1 rfl mg.b_int bt_int (da_cons (de_op op_addA ok_add (de_op op_sub ok_sub (de_op op_addA ok_add (de_var 2 (pv 2)) (de_var 4 (pv 4))) (de_var 0 (pv 0))) (de_int)) da_nil))) (de_int)) (de_int))))
  (dss_cons (ds_if (dt_cmp (op_eqA hr.units) ok_eq (de_ix ix_seq ok_ix (de_var 5 (pv 5)) (de_int) (fun _ _ => rfl)) (de_var 2 (pv 2))) (dss_one (ds_ret (de_if (dt_tru (de_var 3 (pv 3))) (de_str) (de_str)))) dss_nil)
  (dss_one (ds_ret (de_if (dt_tru (de_var 3 (pv 3))) (de_str) (de_str))))))), mf, F.kp, F.binds fun _ _ _ _ _ _ us hl => match us, hl with | [_, _], _ => rfl, rfl⟩
def G__law_squares : SM :=
  (sSeq (sAsg (xLstF xNil) (gNm 6))
  (sSeq (sFor (iSeq (xVar 1)) (gNm 3) (sFor (iSeq (xVar 1)) (gNm 4) (sSeq (sAsg (x2 opEq (x2 opIx (x2 opIx (xVar 3) (xD (.int 1))) (xD (.int 0))) (x2 opIx (x2 opIx (xVar 3) (xD (.int 0))) (xD (.int 0)))) (gNm 5))
  (sSeq (sAsg (xIf (xTru (xVar 5)) (xTup (xCons (x2 opAdd (x2 opIx (x2 opIx (xVar 3) (xD (.int 0))) (xD (.int 0))) (xD (.int 1))) (xCons (x2 opIx (x2 opIx (xVar 3) (xD (.int 0))) (xD (.int 1))) xNil))) (xTup (xCons (x2 opIx (x2 opIx (xVar 3) (xD (.int 0))) (xD (.int 0))) (xCons (x2 opAdd (x2 opIx (x2 opIx (xVar 3) (xD (.int 0))) (xD (.int 1))) (xD (.int 1))) xNil)))) (gNm 7))
  (sIf (xAnd (xT (x2 opEq (x2 opIx (xVar 4) (xD (.int 0))) (xVar 7))) (xAnd (xT (x2 opEq (x2 opEq (x2 opIx (x2 opIx (xVar 4) (xD (.int 1))) (xD (.int 0))) (x2 opIx (x2 opIx (xVar 4) (xD (.int 0))) (xD (.int 0)))) (xVar 5))) (xT (x2 (opIn false) (xTup (xCons (xCallN 2 none F__law_way (xCons (xVar 0) (xCons (xVar 3) xNil))) (xCons (xCallN 2 none F__law_way (xCons (xVar 0) (xCons (xVar 4) xNil))) xNil))) (xVar 2))))) (sAsg (x2 opAdd (xVar 6) (xLstF (xCons (xVar 3) (xCons (xVar 4) xNil)))) (gNm 6)) sNx)))))
  (sRet (xVar 6))))
def F__law_squares : FD := runF none 8 3 G__law_squares
theorem sc__law_squares : FnScope ["n", "some", "pairs", "one", "other", "level", "found", "beside"] ["n", "some", "pairs"] (defScope (top 30)) := ⟨rfl, rfl, rfl, by decide +kernel, rfl, by decide +kernel, by decide +kernel⟩
theorem ok__law_squares (mg : Mg w K mgf) (F : Fun K "_law_squares" "_law_squares" (top 30) f fd) (mf : mgf "_law_squares" = some (.ref f)) (g__law_way : FnD P w K mgf base "_law_way" 1 none 2 F__law_way) : FnD P w K mgf base "_law_squares" 2 none 3 F__law_squares := by
  have hN := sc__law_squares.nd
  exact ⟨f, fd, ["n", "some", "pairs"], fn_rule F sc__law_squares rfl (by decide) (by simp) fun cdv A outer s H E hr =>
  (dss_cons (ds_set (ps_set hN rfl (Or.inl rfl) (de_lstF da_nil)))
  (dss_cons (ds_for (passes_of rfl) rfl (di_seq (de_var 1 (pv 1))) (dg_name (pg_name hN rfl (Or.inl rfl))) (dss_one (ds_for (passes_of rfl) rfl (di_seq (de_var 1 (pv 1))) (dg_name (pg_name hN rfl (Or.inl rfl))) (dss_cons (ds_set (ps_set hN rfl (Or.inl rfl) (de_cmp (op_eqA hr.units) ok_eq (de_ix ix_seq ok_ix (de_ix ix_seq ok_ix (de_var 3 (pv 3)) (de_int) (fun _ _ => rfl)) (de_int) (fun _ _ => rfl)) (de_ix ix_seq ok_ix (de_ix ix_seq ok_ix (de_var 3 (pv 3)) (de_int) (fun _ _ => rfl)) (de_int) (fun _ _ => rfl)))))
  (dss_cons (ds_set (ps_set hN rfl (Or.inl rfl) (de_if (dt_tru (de_var 5 (pv 5))) (de_tup (da_cons (de_op op_addA ok_add (de_ix ix_seq ok_ix (de_ix ix_seq ok_ix (de_var 3 (pv 3)) (de_int) (fun _ _ => rfl)) (de_int) (fun _ _ => rfl)) (de_int)) (da_cons (de_ix ix_seq ok_ix (de_ix ix_seq ok_ix (de_var 3 (pv 3)) (de_int) (fun _ _ => rfl)) (de_int) (fun _ _ => rfl)) da_nil))) (de_tup (da_cons (de_ix ix_seq ok_ix (de_ix ix_seq ok_ix (de_var 3 (pv 3)) (de_int) (fun _ _ => rfl)) (de_int) (fun _ _ => rfl)) (da_cons (de_op op_addA ok_add (de_ix ix_seq ok_ix (de_ix ix_seq ok_ix (de_var 3 (pv 3)) (de_int) (fun _ _ => rfl)) (de_int) (fun _ _ => rfl)) (de_int)) da_nil))))))
  (dss_one (ds_if (dt_bo (dw_and (dt_cmp (op_eqA hr.units) ok_eq (de_ix ix_seq ok_ix (de_var 4 (pv 4)) (de_int) (fun _ _ => rfl)) (de_var 7 (pv 7))) (dw_and (dt_cmp (op_eqA hr.units) ok_eq (de_cmp (op_eqA hr.units) ok_eq (de_ix ix_seq ok_ix (de_ix ix_seq ok_ix (de_var 4 (pv 4)) (de_int) (fun _ _ => rfl)) (de_int) (fun _ _ => rfl)) (de_ix ix_seq ok_ix (de_ix ix_seq ok_ix (de_var 4 (pv 4)) (de_int) (fun _ _ => rfl)) (de_int) (fun _ _ => rfl))) (de_var 5 (pv 5))) (dw_and1 (dt_cmp (op_inA (un65 hr)) ok_in (de_tup (da_cons (de_call g__law_way (hr.mono (by omega)) (takes_of rfl rfl rfl rfl) (da_cons (de_var 0 (pv 0)) (da_cons (de_var 3 (pv 3)) da_nil))) (da_cons (de_call g__law_way (hr.mono (by omega)) (takes_of rfl rfl rfl rfl) (da_cons (de_var 0 (pv 0)) (da_cons (de_var 4 (pv 4)) da_nil))) da_nil))) (de_var 2 (pv 2))))))) (dss_one (ds_set (ps_set hN rfl (Or.inl rfl) (de_op op_addA ok_add (de_var 6 (pv 6)) (de_lstF (da_cons (de_var 3 (pv 3)) (da_cons (de_var 4 (pv 4)) da_nil))))))) dss_nil)))))))
  (dss_one (ds_ret (de_var 6 (pv 6)))))), mf, F.kp, F.binds fun _ _ _ _ _ _ us hl => match us, hl with | [_, _, _], _ => rfl, rfl⟩
def G__law_step : SM :=
  (sRet (xDispIx ["up", "down", "left", "right"] [(xTup (xCons (x1 opNeg (xD (.int 1))) (xCons (xD (.int 0)) xNil))), (xTup (xCons (xD (.int 1)) (xCons (xD (.int 0)) xNil))), (xTup (xCons (xD (.int 0)) (xCons (x1 opNeg (xD (.int 1))) xNil))), (xTup (xCons (xD (.int 0)) (xCons (xD (.int 1)) xNil)))] (xVar 0)))
def F__law_step : FD := runF none 1 1 G__law_step
theorem sc__law_step : FnScope ["word"] ["word"] (defScope (top 29)) := ⟨rfl, rfl, rfl, by decide +kernel, rfl, by decide +kernel, by decide +kernel⟩
theorem ok__law_step (mg : Mg w K mgf) (F : Fun K "_law_step" "_law_step" (top 29) f fd) (mf : mgf "_law_step" = some (.ref f))  : FnD P w K mgf base "_law_step" 1 none 1 F__law_step := by
  have hN := sc__law_step.nd
  exact ⟨f, fd, ["word"], fn_rule F sc__law_step rfl (by decide) (by simp) fun cdv A outer s H E hr =>
  (dss_one (ds_ret (de_dispIx (un65 hr) (.cons (de_tup (da_cons (de_un un_neg ok_neg (de_int)) (da_cons (de_int) da_nil))) (.cons (de_tup (da_cons (de_int) (da_cons (de_int) da_nil))) (.cons (de_tup (da_cons (de_int) (da_cons (de_un un_neg ok_neg (de_int)) da_nil))) (.cons (de_tup (da_cons (de_int) (da_cons (de_int) da_nil))) .nil)))) (de_var 0 (pv 0))))), mf, F.kp, F.binds fun _ _ _ _ _ _ us hl => match us, hl with | [_], _ => rfl, rfl⟩
def G__law_moved : SM :=
  (sSeq (sAsg (xLstF xNil) (gNm 9))
  (sSeq (sFor (iSeq (xVar 0)) (gNm 8) (sSeq (sAsg (xCallN 1 none F__law_step (xCons (xCallN 2 none F__law_way (xCons (xVar 1) (xCons (xVar 8) xNil))) xNil)) (gTu [(gNm 6), (gNm 7)]))
  (sExpr (xMut "list" 9 (muF muAppend) (xCons (xN opTuple (xCons (xFz (xLc [4, 5] (iSeq (xVar 8)) (gTu [(gNm 4), (gNm 5)]) xYes (xTup (xCons (x2 opAdd (x2 opAdd (xVar 4) (x2 opMul (xVar 2) (xVar 6))) (xVar 3)) (xCons (x2 opAdd (x2 opAdd (xVar 5) (x2 opMul (xVar 2) (xVar 7))) (xVar 3)) xNil))))) xNil)) xNil)))))
  (sRet (xN opSorted (xCons (xVar 9) xNil)))))
def F__law_moved : FD := runF none 10 4 G__law_moved
theorem sc__law_moved : FnScope ["some", "n", "side", "shift", "r", "c", "down", "right", "domino", "found"] ["some", "n", "side", "shift"] (defScope (top 31)) := ⟨rfl, rfl, rfl, by decide +kernel, rfl, by decide +kernel, by decide +kernel⟩
theorem ok__law_moved (mg : Mg w K mgf) (F : Fun K "_law_moved" "_law_moved" (top 31) f fd) (mf : mgf "_law_moved" = some (.ref f)) (g__law_step : FnD P w K mgf base "_law_step" 1 none 1 F__law_step) (g__law_way : FnD P w K mgf base "_law_way" 1 none 2 F__law_way) : FnD P w K mgf base "_law_moved" 2 none 4 F__law_moved := by
  have hN := sc__law_moved.nd
  exact ⟨f, fd, ["some", "n", "side", "shift"], fn_rule F sc__law_moved rfl (by decide) (by simp) fun cdv A outer s H E hr =>
  (dss_cons (ds_set (ps_set hN rfl (Or.inl rfl) (de_lstF da_nil)))
  (dss_cons (ds_for (passes_of rfl) rfl (di_seq (de_var 0 (pv 0))) (dg_name (pg_name hN rfl (Or.inl rfl))) (dss_cons (ds_asg (de_call g__law_step (hr.mono (by omega)) (takes_of rfl rfl rfl rfl) (da_cons (de_call g__law_way (hr.mono (by omega)) (takes_of rfl rfl rfl rfl) (da_cons (de_var 1 (pv 1)) (da_cons (de_var 8 (pv 8)) da_nil))) da_nil)) (dg_tup rfl (dgs_cons (dg_name (pg_name hN rfl (Or.inr rfl))) (dgs_cons (dg_name (pg_name hN rfl (Or.inr rfl))) dgs_nil))))
  (dss_one (ds_expr (de_mut mu_append.fz (pe_bm PySem.F.plainAttrs_list PySem.F.slot_list_append PySem.F.type_list_append mt_append (pv 9) (da_cons (de_cb ok_tuple (pe_callTy call_tuple_of rfl mg.b_tuple bt_tuple (da_cons (de_fz (de_lcV [("r", 4), ("c", 5)] rfl hN (blkOk_by (N := ["some", "n", "side", "shift", "r", "c", "down", "right", "domino", "found"]) (sc := defScope (top 31)) (by decide +kernel)) rfl (by decide) (di_seq (de_var 8 (pv 8))) (fun _ _ _ _ _ => (dg_tup rfl (dgs_cons (dg_name (pg_name hN rfl (Or.inl rfl))) (dgs_cons (dg_name (pg_name hN rfl (Or.inl rfl))) dgs_nil)))) (fun _ _ _ _ _ => dts_nil) (fun _ _ _ _ _ => (de_tup (da_cons (de_op op_addA ok_add (de_op op_addA ok_add (de_var 4 (pv 4)) (de_op op_mulA ok_mul (de_var 2 (pv 2)) (de_var 6 (pv 6)))) (de_var 3 (pv 3))) (da_cons (de_op op_addA ok_add (de_op op_addA ok_add (de_var 5 (pv 5)) (de_op op_mulA ok_mul (de_var 2 (pv 2)) (de_var 7 (pv 7)))) (de_var 3 (pv 3))) da_nil)))))) da_nil))) da_nil)))))))
  (dss_one (ds_ret (de_cb ok_sorted (pe_callB (cr_sortD (un65 hr)) rfl mg.b_sorted bt_sorted (da_cons (de_var 9 (pv 9)) da_nil))))))), mf, F.kp, F.binds fun _ _ _ _ _ _ us hl => match us, hl with | [_, _, _, _], _ => rfl, rfl⟩
def G__law_rooms : SM :=
  (sSeq (sAsg (xLstF xNil) (gNm 7))
  (sSeq (sFor (iSeq (xVar 1)) (gNm 8) (sAsg (x2 opAdd (xVar 7) (xN opList (xCons (xVar 8) xNil))) (gNm 7)))
  (sSeq (sTupS [(gNm 3), (gNm 9)] (xCons (xFz (xLc [2] (iSeq (xVar 0)) (gNm 2) (xT (x2 (opIn true) (xVar 2) (xVar 7))) (xVar 2))) (xCons (xLstF xNil) xNil)))
  (sSeq (sFor (iRg1 (xCons (xN opLen (xCons (xVar 0) xNil)) xNil)) (gNm 10) (sSeq (sIf (xT (x2 opEq (xVar 3) (xLstF xNil))) (sBk) sNx)
  (sSeq (sAsg (x2 opIx (xVar 3) (xD (.int 0))) (gTu [(gNm 5), (gNm 6)]))
  (sSeq (sAsg (xLstF (xCons (xTup (xCons (xVar 5) (xCons (xVar 6) xNil))) (xCons (xTup (xCons (xVar 5) (xCons (x2 opAdd (xVar 6) (xD (.int 1))) xNil))) (xCons (xTup (xCons (x2 opAdd (xVar 5) (xD (.int 1))) (xCons (xVar 6) xNil))) (xCons (xTup (xCons (x2 opAdd (xVar 5) (xD (.int 1))) (xCons (x2 opAdd (xVar 6) (xD (.int 1))) xNil))) xNil))))) (gNm 4))
  (sSeq (sIf (xT (x2 opNe (xFz (xLc [2] (iSeq (xVar 4)) (gNm 2) (xT (x2 (opIn true) (xVar 2) (xVar 3))) (xVar 2))) (xLstF xNil))) (sRet (xD .non)) sNx)
  (sSeq (sExpr (xMut "list" 9 (muF muAppend) (xCons (xTup (xCons (xVar 5) (xCons (xVar 6) xNil))) xNil)))
  (sAsg (xFz (xLc [2] (iSeq (xVar 3)) (gNm 2) (xT (x2 (opIn true) (xVar 2) (xVar 4))) (xVar 2))) (gNm 3))))))))
  (sRet (xN opTuple (xCons (xVar 9) xNil)))))))
def F__law_rooms : FD := runF none 11 2 G__law_rooms
theorem sc__law_rooms : FnScope ["cells", "some", "cell", "free", "square", "r", "c", "taken", "domino", "found", "turn"] ["cells", "some"] (defScope (top 32)) := ⟨rfl, rfl, rfl, by decide +kernel, rfl, by decide +kernel, by decide +kernel⟩
theorem ok__law_rooms (mg : Mg w K mgf) (F : Fun K "_law_rooms" "_law_rooms" (top 32) f fd) (mf : mgf "_law_rooms" = some (.ref f))  : FnD P w K mgf base "_law_rooms" 1 none 2 F__law_rooms := by
  have hN := sc__law_rooms.nd
  exact ⟨f, fd, ["cells", "some"], fn_rule F sc__law_rooms rfl (by decide) (by simp) fun cdv A outer s H E hr =>
  (dss_cons (ds_set (ps_set hN rfl (Or.inr rfl) (de_lstF da_nil)))
  (dss_cons (ds_for (passes_of rfl) rfl (di_seq (de_var 1 (pv 1))) (dg_name (pg_name hN rfl (Or.inl rfl))) (dss_one (ds_set (ps_set hN rfl (Or.inr rfl) (de_op op_addA ok_add (de_var 7 (pv 7)) (de_cb ok_list (pe_callTy call_list_of rfl mg.b_list bt_list (da_cons (de_var 8 (pv 8)) da_nil))))))))
  (dss_cons (ds_tupS rfl (da_cons (de_fz (de_lcV [("cell", 2)] rfl hN (blkOk_by (N := ["cells", "some", "cell", "free", "square", "r", "c", "taken", "domino", "found", "turn"]) (sc := defScope (top 32)) (by decide +kernel)) rfl (by decide) (di_seq (de_var 0 (pv 0))) (fun _ _ _ _ _ => (dg_name (pg_name hN rfl (Or.inl rfl)))) (fun _ _ _ _ _ => (dts_one (dt_cmp (op_notInA (un65 hr)) ok_in (de_var 2 (pv 2)) (de_var 7 (pv 7))))) (fun _ _ _ _ _ => (de_var 2 (pv 2))))) (da_cons (de_lstF da_nil) da_nil)) (dgs_cons (dg_name (pg_name hN rfl (Or.inr rfl))) (dgs_cons (dg_name (pg_name hN rfl (Or.inl rfl))) dgs_nil)))
  (dss_cons (ds_for (passes_of rfl) rfl (di_rng1 rfl mg.b_range (da_cons (de_cb ok_len (pe_callB call_len rfl mg.b_len bt_len (da_cons (de_var 0 (pv 0)) da_nil))) da_nil)) (dg_name (pg_name hN rfl (Or.inl rfl))) (dss_cons (ds_if (dt_cmp (op_eqA hr.units) ok_eq (de_var 3 (pv 3)) (de_lstF da_nil)) (dss_one (ds_break)) dss_nil)
  (dss_cons (ds_asg (de_ix ix_seq ok_ix (de_var 3 (pv 3)) (de_int) (fun _ _ => rfl)) (dg_tup rfl (dgs_cons (dg_name (pg_name hN rfl (Or.inl rfl))) (dgs_cons (dg_name (pg_name hN rfl (Or.inl rfl))) dgs_nil))))
  (dss_cons (ds_set (ps_set hN rfl (Or.inr rfl) (de_lstF (da_cons (de_tup (da_cons (de_var 5 (pv 5)) (da_cons (de_var 6 (pv 6)) da_nil))) (da_cons (de_tup (da_cons (de_var 5 (pv 5)) (da_cons (de_op op_addA ok_add (de_var 6 (pv 6)) (de_int)) da_nil))) (da_cons (de_tup (da_cons (de_op op_addA ok_add (de_var 5 (pv 5)) (de_int)) (da_cons (de_var 6 (pv 6)) da_nil))) (da_cons (de_tup (da_cons (de_op op_addA ok_add (de_var 5 (pv 5)) (de_int)) (da_cons (de_op op_addA ok_add (de_var 6 (pv 6)) (de_int)) da_nil))) da_nil)))))))
  (dss_cons (ds_if (dt_cmp (op_neA hr.units) ok_ne (de_fz (de_lcV [("cell", 2)] rfl hN (blkOk_by (N := ["cells", "some", "cell", "free", "square", "r", "c", "taken", "domino", "found", "turn"]) (sc := defScope (top 32)) (by decide +kernel)) rfl (by decide) (di_seq (de_var 4 (pv 4))) (fun _ _ _ _ _ => (dg_name (pg_name hN rfl (Or.inl rfl)))) (fun _ _ _ _ _ => (dts_one (dt_cmp (op_notInA (un65 hr)) ok_in (de_var 2 (pv 2)) (de_var 3 (pv 3))))) (fun _ _ _ _ _ => (de_var 2 (pv 2))))) (de_lstF da_nil)) (dss_one (ds_ret (de_non))) dss_nil)
  (dss_cons (ds_expr (de_mut mu_append.fz (pe_bm PySem.F.plainAttrs_list PySem.F.slot_list_append PySem.F.type_list_append mt_append (pv 9) (da_cons (de_tup (da_cons (de_var 5 (pv 5)) (da_cons (de_var 6 (pv 6)) da_nil))) da_nil))))
  (dss_one (ds_set (ps_set hN rfl (Or.inr rfl) (de_fz (de_lcV [("cell", 2)] rfl hN (blkOk_by (N := ["cells", "some", "cell", "free", "square", "r", "c", "taken", "domino", "found", "turn"]) (sc := defScope (top 32)) (by decide +kernel)) rfl (by decide) (di_seq (de_var 3 (pv 3))) (fun _ _ _ _ _ => (dg_name (pg_name hN rfl (Or.inl rfl)))) (fun _ _ _ _ _ => (dts_one (dt_cmp (op_notInA (un65 hr)) ok_in (de_var 2 (pv 2)) (de_var 4 (pv 4))))) (fun _ _ _ _ _ => (de_var 2 (pv 2))))))))))))))
  (dss_one (ds_ret (de_cb ok_tuple (pe_callTy call_tuple_of rfl mg.b_tuple bt_tuple (da_cons (de_var 9 (pv 9)) da_nil))))))))), mf, F.kp, F.binds fun _ _ _ _ _ _ us hl => match us, hl with | [_, _], _ => rfl, rfl⟩
def G__law_diamond : SM :=
  (sSeq (sAsg (xLstF xNil) (gNm 4))
  (sSeq (sFor (iRg1 (xCons (x2 opMul (xD (.int 2)) (xVar 0)) xNil)) (gNm 2) (sSeq (sAsg (xIf (xT (x2 opLt (xVar 2) (xVar 0))) (x2 opMul (xD (.int 2)) (x2 opAdd (xVar 2) (xD (.int 1)))) (x2 opMul (xD (.int 2)) (x2 opSub (x2 opMul (xD (.int 2)) (xVar 0)) (xVar 2)))) (gNm 3))
  (sAsg (x2 opAdd (xVar 4) (xFz (xLc [1] (iRg1 (xCons (xVar 3) xNil)) (gNm 1) xYes (xTup (xCons (xVar 2) (xCons (x2 opAdd (x2 opSub (xVar 0) (x2 opFdiv (xVar 3) (xD (.int 2)))) (xVar 1)) xNil)))))) (gNm 4))))
  (sRet (xN opTuple (xCons (xVar 4) xNil)))))
def F__law_diamond : FD := runF none 5 1 G__law_diamond
theorem sc__law_diamond : FnScope ["n", "c", "r", "width", "cells"] ["n"] (defScope (top 27)) := ⟨rfl, rfl, rfl, by decide +kernel, rfl, by decide +kernel, by decide +kernel⟩
theorem ok__law_diamond (mg : Mg w K mgf) (F : Fun K "_law_diamond" "_law_diamond" (top 27) f fd) (mf : mgf "_law_diamond" = some (.ref f))  : FnD P w K mgf base "_law_diamond" 1 none 1 F__law_diamond := by
  have hN := sc__law_diamond.nd
  exact ⟨f, fd, ["n"], fn_rule F sc__law_diamond rfl (by decide) (by simp) fun cdv A outer s H E hr =>
  (dss_cons (ds_set (ps_set hN rfl (Or.inl rfl) (de_lstF da_nil)))
  (dss_cons (ds_for (passes_of rfl) rfl (di_rng1 rfl mg.b_range (da_cons (de_op op_mulA ok_mul (de_int) (de_var 0 (pv 0))) da_nil)) (dg_name (pg_name hN rfl (Or.inr rfl))) (dss_cons (ds_set (ps_set hN rfl (Or.inr rfl) (de_if (dt_cmp op_lt (ok_cmp _) (de_var 2 (pv 2)) (de_var 0 (pv 0))) (de_op op_mulA ok_mul (de_int) (de_op op_addA ok_add (de_var 2 (pv 2)) (de_int))) (de_op op_mulA ok_mul (de_int) (de_op op_sub ok_sub (de_op op_mulA ok_mul (de_int) (de_var 0 (pv 0))) (de_var 2 (pv 2)))))))
  (dss_one (ds_set (ps_set hN rfl (Or.inl rfl) (de_op op_addA ok_add (de_var 4 (pv 4)) (de_fz (de_lcV [("c", 1)] rfl hN (blkOk_by (N := ["n", "c", "r", "width", "cells"]) (sc := defScope (top 27)) (by decide +kernel)) rfl (by decide) (di_rng1 rfl mg.b_range (da_cons (de_var 3 (pv 3)) da_nil)) (fun _ _ _ _ _ => (dg_name (pg_name hN rfl (Or.inl rfl)))) (fun _ _ _ _ _ => dts_nil) (fun _ _ _ _ _ => (de_tup (da_cons (de_var 2 (pv 2)) (da_cons (de_op op_addA ok_add (de_op op_sub ok_sub (de_var 0 (pv 0)) (de_op op_fdivA ok_fdiv (de_var 3 (pv 3)) (de_int))) (de_var 1 (pv 1))) da_nil))))))))))))
  (dss_one (ds_ret (de_cb ok_tuple (pe_callTy call_tuple_of rfl mg.b_tuple bt_tuple (da_cons (de_var 4 (pv 4)) da_nil))))))), mf, F.kp, F.binds fun _ _ _ _ _ _ us hl => match us, hl with | [_], _ => rfl, rfl⟩
def G_diamond : SM :=
  (sSeq (sAsg (xLstF xNil) (gNm 3))
  (sSeq (sFor (iRg1 (xCons (x2 opMul (xD (.int 2)) (xVar 0)) xNil)) (gNm 2) (sFor (iRg1 (xCons (x2 opMul (xD (.int 2)) (xVar 0)) xNil)) (gNm 1) (sIf (xAnd (xT (xChain opLe opLe (x2 opSub (xVar 0) (xD (.int 1))) (x2 opAdd (xVar 2) (xVar 1)) (x2 opSub (x2 opMul (xD (.int 3)) (xVar 0)) (xD (.int 1))))) (xT (xChain opLe opLe (x1 opNeg (xVar 0)) (x2 opSub (xVar 2) (xVar 1)) (xVar 0)))) (sExpr (xMut "list" 3 (muF muAppend) (xCons (xTup (xCons (xVar 2) (xCons (xVar 1) xNil))) xNil))) sNx)))
  (sRet (xTup (xCons (xD (.str "yard")) (xCons (xN opTuple (xCons (xVar 3) xNil)) xNil))))))
def F_diamond : FD := runF none 4 1 G_diamond
theorem sc_diamond : FnScope ["n", "c", "r", "cells"] ["n"] (defScope (top 5)) := ⟨rfl, rfl, rfl, by decide +kernel, rfl, by decide +kernel, by decide +kernel⟩
theorem ok_diamond (mg : Mg w K mgf) (F : Fun K "diamond" "diamond" (top 5) f fd) (mf : mgf "diamond" = some (.ref f))  : FnD P w K mgf base "diamond" 1 none 1 F_diamond := by
  have hN := sc_diamond.nd
  exact ⟨f, fd, ["n"], fn_rule F sc_diamond rfl (by decide) (by simp) fun cdv A outer s H E hr =>
  (dss_cons (ds_set (ps_set hN rfl (Or.inl rfl) (de_lstF da_nil)))
  (dss_cons (ds_for (passes_of rfl) rfl (di_rng1 rfl mg.b_range (da_cons (de_op op_mulA ok_mul (de_int) (de_var 0 (pv 0))) da_nil)) (dg_name (pg_name hN rfl (Or.inl rfl))) (dss_one (ds_for (passes_of rfl) rfl (di_rng1 rfl mg.b_range (da_cons (de_op op_mulA ok_mul (de_int) (de_var 0 (pv 0))) da_nil)) (dg_name (pg_name hN rfl (Or.inl rfl))) (dss_one (ds_if (dt_bo (dw_and (dt_chain op_le op_le (cmp_II _) (ok_cmp _) (de_op op_sub ok_sub (de_var 0 (pv 0)) (de_int)) (de_op op_addA ok_add (de_var 2 (pv 2)) (de_var 1 (pv 1))) (de_op op_sub ok_sub (de_op op_mulA ok_mul (de_int) (de_var 0 (pv 0))) (de_int))) (dw_and1 (dt_chain op_le op_le (cmp_II _) (ok_cmp _) (de_un un_neg ok_neg (de_var 0 (pv 0))) (de_op op_sub ok_sub (de_var 2 (pv 2)) (de_var 1 (pv 1))) (de_var 0 (pv 0)))))) (dss_one (ds_expr (de_mut mu_append.fz (pe_bm PySem.F.plainAttrs_list PySem.F.slot_list_append PySem.F.type_list_append mt_append (pv 3) (da_cons (de_tup (da_cons (de_var 2 (pv 2)) (da_cons (de_var 1 (pv 1)) da_nil))) da_nil))))) dss_nil)))))
  (dss_one (ds_ret (de_tup (da_cons (de_str) (da_cons (de_cb ok_tuple (pe_callTy call_tuple_of rfl mg.b_tuple bt_tuple (da_cons (de_var 3 (pv 3)) da_nil))) da_nil))))))), mf, F.kp, F.binds fun _ _ _ _ _ _ us hl => match us, hl with | [_], _ => rfl, rfl⟩
def G_way : SM :=
  (sSeq (sAsg (xVar 1) (gTu [(gTu [(gNm 2), (gNm 4)]), (gNm 5)]))
  (sSeq (sAsg (x2 opEq (x2 opMod (x2 opAdd (x2 opSub (x2 opAdd (xVar 2) (xVar 4)) (xVar 0)) (xD (.int 1))) (xD (.int 2))) (xD (.int 0))) (gNm 3))
  (sSeq (sIf (xT (x2 opEq (x2 opIx (xVar 5) (xD (.int 0))) (xVar 2))) (sRet (xIf (xTru (xVar 3)) (xD (.str "up")) (xD (.str "down")))) sNx)
  (sRet (xIf (xTru (xVar 3)) (xD (.str "left")) (xD (.str "right")))))))
def F_way : FD := runF none 6 2 G_way
theorem sc_way : FnScope ["n", "domino", "r", "is_even", "c", "other"] ["n", "domino"] (defScope (top 6)) := ⟨rfl, rfl, rfl, by decide +kernel, rfl, by decide +kernel, by decide +kernel⟩
theorem ok_way (mg : Mg w K mgf) (F : Fun K "way" "way" (top 6) f fd) (mf : mgf "way" = some (.ref f))  : FnD P w K mgf base "way" 1 none 2 F_way := by
  have hN := sc_way.nd
  exact ⟨f, fd, ["n", "domino"], fn_rule F sc_way rfl (by decide) (by simp) fun cdv A outer s H E hr =>
  (dss_cons (ds_asg (de_var 1 (pv 1)) (dg_tup rfl (dgs_cons (dg_tup rfl (dgs_cons (dg_name (pg_name hN rfl (Or.inl rfl))) (dgs_cons (dg_name (pg_name hN rfl (Or.inl rfl))) dgs_nil))) (dgs_cons (dg_name (pg_name hN rfl (Or.inl rfl))) dgs_nil))))
  (dss_cons (ds_set (ps_set hN rfl (Or.inl rfl) (de_cmp (op_eqA hr.units) ok_eq (de_op op_mod ok_mod (de_op op_addA ok_add (de_op op_sub ok_sub (de_op op_addA ok_add (de_var 2 (pv 2)) (de_var 4 (pv 4))) (de_var 0 (pv 0))) (de_int)) (de_int)) (de_int))))
  (dss_cons (ds_if (dt_cmp (op_eqA hr.units) ok_eq (de_ix ix_seq ok_ix (de_var 5 (pv 5)) (de_int) (fun _ _ => rfl)) (de_var 2 (pv 2))) (dss_one (ds_ret (de_if (dt_tru (de_var 3 (pv 3))) (de_str) (de_str)))) dss_nil)
  (dss_one (ds_ret (de_if (dt_tru (de_var 3 (pv 3))) (de_str) (de_str))))))), mf, F.kp, F.binds fun _ _ _ _ _ _ us hl => match us, hl with | [_, _], _ => rfl, rfl⟩
def G_is_at_edge : SM :=
  (sSeq (sAsg (xFz (xLc [3, 4] (iSeq (xVar 1)) (gTu [(gNm 3), (gNm 4)]) xYes (xVar 3))) (gNm 6))
  (sSeq (sAsg (xFz (xLc [4, 5] (iSeq (xVar 1)) (gTu [(gNm 4), (gNm 5)]) xYes (xVar 5))) (gNm 7))
  (sSeq (sIf (xT (x2 opEq (xVar 2) (xD (.str "up")))) (sRet (x2 opEq (xN opMinL (xCons (xVar 6) xNil)) (xD (.int 0)))) sNx)
  (sSeq (sIf (xT (x2 opEq (xVar 2) (xD (.str "down")))) (sRet (x2 opEq (xN opMaxL (xCons (xVar 6) xNil)) (x2 opSub (x2 opMul (xD (.int 2)) (xVar 0)) (xD (.int 1))))) sNx)
  (sRet (xIf (xT (x2 opEq (xVar 2) (xD (.str "left")))) (x2 opEq (xN opMinL (xCons (xVar 7) xNil)) (xD (.int 0))) (x2 opEq (xN opMaxL (xCons (xVar 7) xNil)) (x2 opSub (x2 opMul (xD (.int 2)) (xVar 0)) (xD (.int 1))))))))))
def F_is_at_edge : FD := runF none 8 3 G_is_at_edge
theorem sc_is_at_edge : FnScope ["n", "domino", "word", "r", "_", "c", "rows", "columns"] ["n", "domino", "word"] (defScope (top 16)) := ⟨rfl, rfl, rfl, by decide +kernel, rfl, by decide +kernel, by decide +kernel⟩
theorem ok_is_at_edge (mg : Mg w K mgf) (F : Fun K "is_at_edge" "is_at_edge" (top 16) f fd) (mf : mgf "is_at_edge" = some (.ref f))  : FnD P w K mgf base "is_at_edge" 1 none 3 F_is_at_edge := by
  have hN := sc_is_at_edge.nd
  exact ⟨f, fd, ["n", "domino", "word"], fn_rule F sc_is_at_edge rfl (by decide) (by simp) fun cdv A outer s H E hr =>
  (dss_cons (ds_setLcV [("r", 3), ("_", 4)] rfl hN rfl rfl (sw_true rfl rfl rfl rfl) (blkOk_by (N := ["n", "domino", "word", "r", "_", "c", "rows", "columns"]) (sc := defScope (top 16)) (by decide +kernel)) rfl (by decide) (di_seq (de_var 1 (pv 1))) (fun _ _ _ _ _ => (dg_tup rfl (dgs_cons (dg_name (pg_name hN rfl (Or.inl rfl))) (dgs_cons (dg_name (pg_name hN rfl (Or.inl rfl))) dgs_nil)))) (fun _ _ _ _ _ => dts_nil) (fun _ _ _ _ _ => (de_var 3 (pv 3))))
  (dss_cons (ds_setLcV [("_", 4), ("c", 5)] rfl hN rfl rfl (sw_true rfl rfl rfl rfl) (blkOk_by (N := ["n", "domino", "word", "r", "_", "c", "rows", "columns"]) (sc := defScope (top 16)) (by decide +kernel)) rfl (by decide) (di_seq (de_var 1 (pv 1))) (fun _ _ _ _ _ => (dg_tup rfl (dgs_cons (dg_name (pg_name hN rfl (Or.inl rfl))) (dgs_cons (dg_name (pg_name hN rfl (Or.inl rfl))) dgs_nil)))) (fun _ _ _ _ _ => dts_nil) (fun _ _ _ _ _ => (de_var 5 (pv 5))))
  (dss_cons (ds_if (dt_cmp (op_eqA hr.units) ok_eq (de_var 2 (pv 2)) (de_str)) (dss_one (ds_ret (de_cmp (op_eqA hr.units) ok_eq (de_cb ok_minL (pe_callB (cr_min rfl) rfl mg.b_min bt_min (da_cons (de_var 6 (pv 6)) da_nil))) (de_int)))) dss_nil)
  (dss_cons (ds_if (dt_cmp (op_eqA hr.units) ok_eq (de_var 2 (pv 2)) (de_str)) (dss_one (ds_ret (de_cmp (op_eqA hr.units) ok_eq (de_cb ok_maxL (pe_callB (cr_max rfl) rfl mg.b_max bt_max (da_cons (de_var 6 (pv 6)) da_nil))) (de_op op_sub ok_sub (de_op op_mulA ok_mul (de_int) (de_var 0 (pv 0))) (de_int))))) dss_nil)
  (dss_one (ds_ret (de_if (dt_cmp (op_eqA hr.units) ok_eq (de_var 2 (pv 2)) (de_str)) (de_cmp (op_eqA hr.units) ok_eq (de_cb ok_minL (pe_callB (cr_min rfl) rfl mg.b_min bt_min (da_cons (de_var 7 (pv 7)) da_nil))) (de_int)) (de_cmp (op_eqA hr.units) ok_eq (de_cb ok_maxL (pe_callB (cr_max rfl) rfl mg.b_max bt_max (da_cons (de_var 7 (pv 7)) da_nil))) (de_op op_sub ok_sub (de_op op_mulA ok_mul (de_int) (de_var 0 (pv 0))) (de_int)))))))))), mf, F.kp, F.binds fun _ _ _ _ _ _ us hl => match us, hl with | [_, _, _], _ => rfl, rfl⟩
def G_moved_by : SM :=
  (sRet (xN opTuple (xCons (xFz (xLc [3, 4] (iSeq (xVar 0)) (gTu [(gNm 3), (gNm 4)]) xYes (xTup (xCons (x2 opAdd (xVar 3) (xVar 1)) (xCons (x2 opAdd (xVar 4) (xVar 2)) xNil))))) xNil)))
def F_moved_by : FD := runF none 5 3 G_moved_by
theorem sc_moved_by : FnScope ["domino", "down", "right", "r", "c"] ["domino", "down", "right"] (defScope (top 9)) := ⟨rfl, rfl, rfl, by decide +kernel, rfl, by decide +kernel, by decide +kernel⟩
theorem ok_moved_by (mg : Mg w K mgf) (F : Fun K "moved_by" "moved_by" (top 9) f fd) (mf : mgf "moved_by" = some (.ref f))  : FnD P w K mgf base "moved_by" 1 none 3 F_moved_by := by
  have hN := sc_moved_by.nd
  exact ⟨f, fd, ["domino", "down", "right"], fn_rule F sc_moved_by rfl (by decide) (by simp) fun cdv A outer s H E hr =>
  (dss_one (ds_ret (de_cb ok_tuple (pe_callTy call_tuple_of rfl mg.b_tuple bt_tuple (da_cons (de_fz (de_lcV [("r", 3), ("c", 4)] rfl hN (blkOk_by (N := ["domino", "down", "right", "r", "c"]) (sc := defScope (top 9)) (by decide +kernel)) rfl (by decide) (di_seq (de_var 0 (pv 0))) (fun _ _ _ _ _ => (dg_tup rfl (dgs_cons (dg_name (pg_name hN rfl (Or.inl rfl))) (dgs_cons (dg_name (pg_name hN rfl (Or.inl rfl))) dgs_nil)))) (fun _ _ _ _ _ => dts_nil) (fun _ _ _ _ _ => (de_tup (da_cons (de_op op_addA ok_add (de_var 3 (pv 3)) (de_var 1 (pv 1))) (da_cons (de_op op_addA ok_add (de_var 4 (pv 4)) (de_var 2 (pv 2))) da_nil)))))) da_nil))))), mf, F.kp, F.binds fun _ _ _ _ _ _ us hl => match us, hl with | [_, _, _], _ => rfl, rfl⟩
def G_frozen_of : SM :=
  (sSeq (sAsg (xFz (xLc [5] (iSeq (xVar 1)) (gNm 5) (xT (x2 opEq (xCallN 2 none F_way (xCons (xVar 0) (xCons (xVar 5) xNil))) (xVar 2))) (xVar 5))) (gNm 12))
  (sSeq (sAsg (xDc [5, 4] (iSeq (xVar 1)) (gNm 5) xYes (inn2 [4] (xVar 5) (gNm 4) xYes (inn1 (xVar 4) (xVar 5)))) (gNm 7))
  (sSeq (sAsg (x1 (opDget C_GOING) (xVar 2)) (gTu [(gNm 10), (gNm 11)]))
  (sSeq (sAsg (xDc [5] (iSeq (xVar 12)) (gNm 5) xYes (inn1 (xVar 5) (xD (.bl true)))) (gNm 6))
  (sSeq (sAsg (xD (.bl true)) (gNm 9))
  (sSeq (sWhile (xTru (xVar 9)) (sSeq (sAsg (xD (.bl false)) (gNm 9))
  (sFor (iSeq (xVar 12)) (gNm 5) (sIf (xAnd (xT (x2 (opInk false) (xVar 5) (xVar 6))) (xNot (xTru (xCallN 3 none F_is_at_edge (xCons (xVar 0) (xCons (xVar 5) (xCons (xVar 2) xNil))))))) (sSeq (sAsg (xFz (xLc [4] (iSeq (xCallN 3 none F_moved_by (xCons (xVar 5) (xCons (xVar 10) (xCons (xVar 11) xNil))))) (gNm 4) xYes (xM opGetk (xTyN (xVar 7)) (xCons (xVar 4) xNil)))) (gNm 8))
  (sIf (xNot (xTru (xN opAll (xCons (xFz (xLc [3] (iSeq (xVar 8)) (gNm 3) xYes (xOrV (x2 (opIs false) (xVar 3) (xD .non)) (xOrV (x2 opEq (xVar 3) (xVar 5)) (x2 (opInk false) (xVar 3) (xVar 6)))))) xNil)))) (sSeq (sMuIx 6 (xVar 5) muDelK)
  (sAsg (xD (.bl true)) (gNm 9))) sNx)) sNx))))
  (sRet (xN opLenK (xCons (xVar 6) xNil)))))))))
def F_frozen_of : FD := runF none 13 3 G_frozen_of
theorem sc_frozen_of : FnScope ["n", "row", "word", "one", "cell", "domino", "kept", "owner", "ahead", "going", "down", "right", "mine"] ["n", "row", "word"] (defScope (top 17)) := ⟨rfl, rfl, rfl, by decide +kernel, rfl, by decide +kernel, by decide +kernel⟩
theorem ok_frozen_of (mg : Mg w K mgf) (F : Fun K "frozen_of" "frozen_of" (top 17) f fd) (mf : mgf "frozen_of" = some (.ref f)) (g_way : FnD P w K mgf base "way" 1 none 2 F_way) (g_is_at_edge : FnD P w K mgf base "is_at_edge" 1 none 3 F_is_at_edge) (g_moved_by : FnD P w K mgf base "moved_by" 1 none 3 F_moved_by) : FnD P w K mgf base "frozen_of" 2 none 3 F_frozen_of := by
  have hN := sc_frozen_of.nd
  exact ⟨f, fd, ["n", "row", "word"], fn_rule F sc_frozen_of rfl (by decide) (by simp) fun cdv A outer s H E hr =>
  (dss_cons (ds_setLcV [("domino", 5)] rfl hN rfl rfl (sw_true rfl rfl rfl rfl) (blkOk_by (N := ["n", "row", "word", "one", "cell", "domino", "kept", "owner", "ahead", "going", "down", "right", "mine"]) (sc := defScope (top 17)) (by decide +kernel)) rfl (by decide) (di_seq (de_var 1 (pv 1))) (fun _ _ _ _ _ => (dg_name (pg_name hN rfl (Or.inl rfl)))) (fun _ _ _ _ _ => (dts_one (dt_cmp (op_eqA hr.units) ok_eq (de_call g_way (hr.mono (by omega)) takes0 (da_cons (de_var 0 (pv 0)) (da_cons (de_var 5 (pv 5)) da_nil))) (de_var 2 (pv 2))))) (fun _ _ _ _ _ => (de_var 5 (pv 5))))
  (dss_cons (ds_set (ps_set hN rfl (Or.inr rfl) (de_dc2 (vs1 := [4]) (u9 hr) [("domino", 5), ("cell", 4)] rfl hN (blkOk_by (N := ["n", "row", "word", "one", "cell", "domino", "kept", "owner", "ahead", "going", "down", "right", "mine"]) (sc := defScope (top 17)) (by decide +kernel)) rfl (by decide) (by decide) (by decide) (di_seq (de_var 1 (pv 1))) (fun _ _ _ _ _ => (dg_name (pg_name hN rfl (Or.inl rfl)))) (fun _ _ _ _ _ => dts_nil) (fun _ _ _ _ _ => (de_var 5 (pv 5))) (fun _ _ _ _ _ => (dg_name (pg_name hN rfl (Or.inl rfl)))) (fun _ _ _ _ _ => dts_nil) (fun _ _ _ _ _ => (de_var 4 (pv 4))) (fun _ _ _ _ _ => (de_var 5 (pv 5))))))
  (dss_cons (ds_asg (de_gdk mg.c_GOING rfl (de_var 2 (pv 2))) (dg_tup rfl (dgs_cons (dg_name (pg_name hN rfl (Or.inl rfl))) (dgs_cons (dg_name (pg_name hN rfl (Or.inl rfl))) dgs_nil))))
  (dss_cons (ds_set (ps_set hN rfl (Or.inr rfl) (de_dc (u9 hr) [("domino", 5)] rfl hN (blkOk_by (N := ["n", "row", "word", "one", "cell", "domino", "kept", "owner", "ahead", "going", "down", "right", "mine"]) (sc := defScope (top 17)) (by decide +kernel)) rfl (by decide) (di_seq (de_var 12 (pv 12))) (fun _ _ _ _ _ => (dg_name (pg_name hN rfl (Or.inl rfl)))) (fun _ _ _ _ _ => dts_nil) (fun _ _ _ _ _ => (de_var 5 (pv 5))) (fun _ _ _ _ _ => (de_bl)))))
  (dss_cons (ds_set (ps_set hN rfl (Or.inl rfl) (de_bl)))
  (dss_cons (ds_while (passes_of rfl) (dt_tru (de_var 9 (pv 9))) (dss_cons (ds_set (ps_set hN rfl (Or.inl rfl) (de_bl)))
  (dss_one (ds_for (passes_of rfl) rfl (di_seq (de_var 12 (pv 12))) (dg_name (pg_name hN rfl (Or.inr rfl))) (dss_one (ds_if (dt_bo (dw_and (dt_cmp (or_inN (u9 hr)) ok_ink (de_var 5 (pv 5)) (de_var 6 (pv 6))) (dw_and1 (dt_not (dt_tru (de_call g_is_at_edge (hr.mono (by omega)) (takes_of rfl rfl rfl rfl) (da_cons (de_var 0 (pv 0)) (da_cons (de_var 5 (pv 5)) (da_cons (de_var 2 (pv 2)) da_nil))))))))) (dss_cons (ds_setLcV [("cell", 4)] rfl hN rfl rfl (sw_true rfl rfl rfl rfl) (blkOk_by (N := ["n", "row", "word", "one", "cell", "domino", "kept", "owner", "ahead", "going", "down", "right", "mine"]) (sc := defScope (top 17)) (by decide +kernel)) rfl (by decide) (di_seq (de_call g_moved_by (hr.mono (by omega)) (takes_of rfl rfl rfl rfl) (da_cons (de_var 5 (pv 5)) (da_cons (de_var 10 (pv 10)) (da_cons (de_var 11 (pv 11)) da_nil))))) (fun _ _ _ _ _ => (dg_name (pg_name hN rfl (Or.inl rfl)))) (fun _ _ _ _ _ => dts_nil) (fun _ _ _ _ _ => (de_getK (u9 hr) (pe_bmN PySem.F.slot_dict_get PySem.F.type_dict_get (mt_getN (u9 hr)) (de_var 7 (pv 7)) (da_cons (de_var 4 (pv 4)) da_nil)))))
  (dss_one (ds_if (dt_not (dt_tru (de_cb ok_all (pe_callB (cr_all rfl) rfl mg.b_all bt_all (da_cons (de_fz (de_lcV [("one", 3)] rfl hN (blkOk_by (N := ["n", "row", "word", "one", "cell", "domino", "kept", "owner", "ahead", "going", "down", "right", "mine"]) (sc := defScope (top 17)) (by decide +kernel)) rfl (by decide) (di_seq (de_var 8 (pv 8))) (fun _ _ _ _ _ => (dg_name (pg_name hN rfl (Or.inl rfl)))) (fun _ _ _ _ _ => dts_nil) (fun _ _ _ _ _ => (de_or (de_cmp op_isA ok_is (de_var 3 (pv 3)) (de_non)) (de_or (de_cmp (op_eqA hr.units) ok_eq (de_var 3 (pv 3)) (de_var 5 (pv 5))) (de_one (de_cmp (or_inN (u9 hr)) ok_ink (de_var 3 (pv 3)) (de_var 6 (pv 6))))))))) da_nil))))) (dss_cons (ds_delK (u9 hr) (pv 6) (de_var 5 (pv 5)))
  (dss_one (ds_set (ps_set hN rfl (Or.inl rfl) (de_bl))))) dss_nil))) dss_nil))))))
  (dss_one (ds_ret (de_cb ok_lenK (pe_callB call_lenN rfl mg.b_len bt_len (da_cons (de_var 6 (pv 6)) da_nil))))))))))), mf, F.kp, F.binds fun _ _ _ _ _ _ us hl => match us, hl with | [_, _, _], _ => rfl, rfl⟩
def G_frozen : SM :=
  (sRet (xN opTuple (xCons (xFz (xLc [2] (iSeq (xTup (xCons (xD (.str "up")) (xCons (xD (.str "right")) (xCons (xD (.str "down")) (xCons (xD (.str "left")) xNil)))))) (gNm 2) xYes (xCallN 3 none F_frozen_of (xCons (xVar 0) (xCons (x2 opIx (xVar 1) (xD (.int 1))) (xCons (xVar 2) xNil)))))) xNil)))
def F_frozen : FD := runF none 3 2 G_frozen
theorem sc_frozen : FnScope ["n", "paving", "word"] ["n", "paving"] (defScope (top 18)) := ⟨rfl, rfl, rfl, by decide +kernel, rfl, by decide +kernel, by decide +kernel⟩
theorem ok_frozen (mg : Mg w K mgf) (F : Fun K "frozen" "frozen" (top 18) f fd) (mf : mgf "frozen" = some (.ref f)) (g_frozen_of : FnD P w K mgf base "frozen_of" 2 none 3 F_frozen_of) : FnD P w K mgf base "frozen" 3 none 2 F_frozen := by
  have hN := sc_frozen.nd
  exact ⟨f, fd, ["n", "paving"], fn_rule F sc_frozen rfl (by decide) (by simp) fun cdv A outer s H E hr =>
  (dss_one (ds_ret (de_cb ok_tuple (pe_callTy call_tuple_of rfl mg.b_tuple bt_tuple (da_cons (de_fz (de_lcV [("word", 2)] rfl hN (blkOk_by (N := ["n", "paving", "word"]) (sc := defScope (top 18)) (by decide +kernel)) rfl (by decide) (di_seq (de_tup (da_cons (de_str) (da_cons (de_str) (da_cons (de_str) (da_cons (de_str) da_nil)))))) (fun _ _ _ _ _ => (dg_name (pg_name hN rfl (Or.inl rfl)))) (fun _ _ _ _ _ => dts_nil) (fun _ _ _ _ _ => (de_call g_frozen_of (hr.mono (by omega)) takes0 (da_cons (de_var 0 (pv 0)) (da_cons (de_ix ix_seq ok_ix (de_var 1 (pv 1)) (de_int) (fun _ _ => rfl)) (da_cons (de_var 2 (pv 2)) da_nil))))))) da_nil))))), mf, F.kp, F.binds fun _ _ _ _ _ _ us hl => match us, hl with | [_, _], _ => rfl, rfl⟩
def G__law_is_frozen : SM :=
  (sSeq (sAsg (xVar 2) (gTu [(gTu [(gNm 6), (gNm 7)]), (gTu [(gNm 8), (gNm 9)])]))
  (sSeq (sAsg (xDispIx ["up", "down", "left", "right"] [(x2 opEq (xVar 6) (xD (.int 0))), (x2 opEq (xVar 8) (x2 opSub (x2 opMul (xD (.int 2)) (xVar 0)) (xD (.int 1)))), (x2 opEq (xVar 7) (xD (.int 0))), (x2 opEq (xVar 9) (x2 opSub (x2 opMul (xD (.int 2)) (xVar 0)) (xD (.int 1))))] (xVar 1)) (gNm 10))
  (sRet (xOrV (xVar 10) (x2 opEq (xFz (xLc [5] (iSeq (xVar 3)) (gNm 5) (xAnd (xT (x2 (opIs true) (xVar 5) (xD .non))) (xT (x2 (opIn true) (xVar 5) (xVar 4)))) (xVar 5))) (xLstF xNil))))))
def F__law_is_frozen : FD := runF none 11 5 G__law_is_frozen
theorem sc__law_is_frozen : FnScope ["n", "word", "domino", "beyond", "found", "one", "r", "c", "a", "b", "at_edge"] ["n", "word", "domino", "beyond", "found"] (defScope (top 35)) := ⟨rfl, rfl, rfl, by decide +kernel, rfl, by decide +kernel, by decide +kernel⟩
theorem ok__law_is_frozen (mg : Mg w K mgf) (F : Fun K "_law_is_frozen" "_law_is_frozen" (top 35) f fd) (mf : mgf "_law_is_frozen" = some (.ref f))  : FnD P w K mgf base "_law_is_frozen" 1 none 5 F__law_is_frozen := by
  have hN := sc__law_is_frozen.nd
  exact ⟨f, fd, ["n", "word", "domino", "beyond", "found"], fn_rule F sc__law_is_frozen rfl (by decide) (by simp) fun cdv A outer s H E hr =>
  (dss_cons (ds_asg (de_var 2 (pv 2)) (dg_tup rfl (dgs_cons (dg_tup rfl (dgs_cons (dg_name (pg_name hN rfl (Or.inl rfl))) (dgs_cons (dg_name (pg_name hN rfl (Or.inl rfl))) dgs_nil))) (dgs_cons (dg_tup rfl (dgs_cons (dg_name (pg_name hN rfl (Or.inl rfl))) (dgs_cons (dg_name (pg_name hN rfl (Or.inl rfl))) dgs_nil))) dgs_nil))))
  (dss_cons (ds_set (ps_set hN rfl (Or.inl rfl) (de_dispIx (un65 hr) (.cons (de_cmp (op_eqA hr.units) ok_eq (de_var 6 (pv 6)) (de_int)) (.cons (de_cmp (op_eqA hr.units) ok_eq (de_var 8 (pv 8)) (de_op op_sub ok_sub (de_op op_mulA ok_mul (de_int) (de_var 0 (pv 0))) (de_int))) (.cons (de_cmp (op_eqA hr.units) ok_eq (de_var 7 (pv 7)) (de_int)) (.cons (de_cmp (op_eqA hr.units) ok_eq (de_var 9 (pv 9)) (de_op op_sub ok_sub (de_op op_mulA ok_mul (de_int) (de_var 0 (pv 0))) (de_int))) .nil)))) (de_var 1 (pv 1)))))
  (dss_one (ds_ret (de_or (de_var 10 (pv 10)) (de_one (de_cmp (op_eqA hr.units) ok_eq (de_fz (de_lcV [("one", 5)] rfl hN (blkOk_by (N := ["n", "word", "domino", "beyond", "found", "one", "r", "c", "a", "b", "at_edge"]) (sc := defScope (top 35)) (by decide +kernel)) rfl (by decide) (di_seq (de_var 3 (pv 3))) (fun _ _ _ _ _ => (dg_name (pg_name hN rfl (Or.inl rfl)))) (fun _ _ _ _ _ => (dts_one (dt_bo (dw_and (dt_cmp op_isNotA ok_is (de_var 5 (pv 5)) (de_non)) (dw_and1 (dt_cmp (op_notInA (un65 hr)) ok_in (de_var 5 (pv 5)) (de_var 4 (pv 4)))))))) (fun _ _ _ _ _ => (de_var 5 (pv 5))))) (de_lstF da_nil)))))))), mf, F.kp, F.binds fun _ _ _ _ _ _ us hl => match us, hl with | [_, _, _, _, _], _ => rfl, rfl⟩
def G__law_frozen : SM :=
  (sSeq (sTupS [(gNm 16), (gNm 6)] (xCons (xCallN 1 none F__law_diamond (xCons (xVar 0) xNil)) (xCons (xDnew) xNil)))
  (sSeq (sFor (iSeq (xVar 1)) (gNm 5) (sFor (iSeq (xVar 5)) (gNm 2) (sAsg (xVar 5) (gIx 6 (xVar 2) (muF muSetK)))))
  (sSeq (sAsg (xLstF xNil) (gNm 15))
  (sSeq (sFor (iSeq (xTup (xCons (xD (.str "up")) (xCons (xD (.str "right")) (xCons (xD (.str "down")) (xCons (xD (.str "left")) xNil)))))) (gNm 12) (sSeq (sAsg (xCallN 1 none F__law_step (xCons (xVar 12) xNil)) (gTu [(gNm 7), (gNm 8)]))
  (sSeq (sAsg (xFz (xLc [5] (iSeq (xVar 1)) (gNm 5) (xT (x2 opEq (xCallN 2 none F__law_way (xCons (xVar 0) (xCons (xVar 5) xNil))) (xVar 12))) (xVar 5))) (gNm 13))
  (sSeq (sAsg (xLstF xNil) (gNm 9))
  (sSeq (sFor (iRg1 (xCons (x2 opMul (xD (.int 2)) (xVar 0)) xNil)) (gNm 14) (sFor (iSeq (xVar 13)) (gNm 5) (sSeq (sAsg (xFz (xLc [3, 4] (iSeq (xVar 5)) (gTu [(gNm 3), (gNm 4)]) xYes (xTup (xCons (x2 opAdd (xVar 3) (xVar 7)) (xCons (x2 opAdd (xVar 4) (xVar 8)) xNil))))) (gNm 10))
  (sSeq (sAsg (xFz (xLc [2] (iSeq (xVar 10)) (gNm 2) (xT (x2 (opIn true) (xVar 2) (xVar 5))) (xVar 2))) (gNm 11))
  (sIf (xAnd (xT (x2 (opIn true) (xVar 5) (xVar 9))) (xTru (xCallN 5 none F__law_is_frozen (xCons (xVar 0) (xCons (xVar 12) (xCons (xVar 5) (xCons (xFz (xLc [2] (iSeq (xVar 11)) (gNm 2) xYes (xM opGetk (xTyN (xVar 6)) (xCons (xVar 2) (xCons (xD .non) xNil))))) (xCons (xVar 9) xNil)))))))) (sExpr (xMut "list" 9 (muF muAppend) (xCons (xVar 5) xNil))) sNx)))))
  (sExpr (xMut "list" 15 (muF muAppend) (xCons (xN opLen (xCons (xVar 9) xNil)) xNil))))))))
  (sRet (xN opTuple (xCons (xVar 15) xNil)))))))
def F__law_frozen : FD := runF none 17 2 G__law_frozen
theorem sc__law_frozen : FnScope ["n", "some", "cell", "r", "c", "domino", "by", "down", "right", "found", "beyond", "outer", "word", "own", "turn", "counts", "cells"] ["n", "some"] (defScope (top 34)) := ⟨rfl, rfl, rfl, by decide +kernel, rfl, by decide +kernel, by decide +kernel⟩
theorem ok__law_frozen (mg : Mg w K mgf) (F : Fun K "_law_frozen" "_law_frozen" (top 34) f fd) (mf : mgf "_law_frozen" = some (.ref f)) (g__law_diamond : FnD P w K mgf base "_law_diamond" 1 none 1 F__law_diamond) (g__law_step : FnD P w K mgf base "_law_step" 1 none 1 F__law_step) (g__law_way : FnD P w K mgf base "_law_way" 1 none 2 F__law_way) (g__law_is_frozen : FnD P w K mgf base "_law_is_frozen" 1 none 5 F__law_is_frozen) : FnD P w K mgf base "_law_frozen" 2 none 2 F__law_frozen := by
  have hN := sc__law_frozen.nd
  exact ⟨f, fd, ["n", "some"], fn_rule F sc__law_frozen rfl (by decide) (by simp) fun cdv A outer s H E hr =>
  (dss_cons (ds_tupS rfl (da_cons (de_call g__law_diamond (hr.mono (by omega)) (takes_of rfl rfl rfl rfl) (da_cons (de_var 0 (pv 0)) da_nil)) (da_cons (de_dnew) da_nil)) (dgs_cons (dg_name (pg_name hN rfl (Or.inl rfl))) (dgs_cons (dg_name (pg_name hN rfl (Or.inr rfl))) dgs_nil)))
  (dss_cons (ds_for (passes_of rfl) rfl (di_seq (de_var 1 (pv 1))) (dg_name (pg_name hN rfl (Or.inr rfl))) (dss_one (ds_for (passes_of rfl) rfl (di_seq (de_var 5 (pv 5))) (dg_name (pg_name hN rfl (Or.inl rfl))) (dss_one (ds_asg (de_var 5 (pv 5)) (dg_ix mu_setK.fz (pg_sub (pv 6) (de_var 2 (pv 2)) (set_n (u9 hr)))))))))
  (dss_cons (ds_set (ps_set hN rfl (Or.inl rfl) (de_lstF da_nil)))
  (dss_cons (ds_for (passes_of rfl) rfl (di_seq (de_tup (da_cons (de_str) (da_cons (de_str) (da_cons (de_str) (da_cons (de_str) da_nil)))))) (dg_name (pg_name hN rfl (Or.inr rfl))) (dss_cons (ds_asg (de_call g__law_step (hr.mono (by omega)) (takes_of rfl rfl rfl rfl) (da_cons (de_var 12 (pv 12)) da_nil)) (dg_tup rfl (dgs_cons (dg_name (pg_name hN rfl (Or.inr rfl))) (dgs_cons (dg_name (pg_name hN rfl (Or.inr rfl))) dgs_nil))))
  (dss_cons (ds_setLcV [("domino", 5)] rfl hN rfl rfl (sw_true rfl rfl rfl rfl) (blkOk_by (N := ["n", "some", "cell", "r", "c", "domino", "by", "down", "right", "found", "beyond", "outer", "word", "own", "turn", "counts", "cells"]) (sc := defScope (top 34)) (by decide +kernel)) rfl (by decide) (di_seq (de_var 1 (pv 1))) (fun _ _ _ _ _ => (dg_name (pg_name hN rfl (Or.inl rfl)))) (fun _ _ _ _ _ => (dts_one (dt_cmp (op_eqA hr.units) ok_eq (de_call g__law_way (hr.mono (by omega)) takes0 (da_cons (de_var 0 (pv 0)) (da_cons (de_var 5 (pv 5)) da_nil))) (de_var 12 (pv 12))))) (fun _ _ _ _ _ => (de_var 5 (pv 5))))
  (dss_cons (ds_set (ps_set hN rfl (Or.inl rfl) (de_lstF da_nil)))
  (dss_cons (ds_for (passes_of rfl) rfl (di_rng1 rfl mg.b_range (da_cons (de_op op_mulA ok_mul (de_int) (de_var 0 (pv 0))) da_nil)) (dg_name (pg_name hN rfl (Or.inl rfl))) (dss_one (ds_for (passes_of rfl) rfl (di_seq (de_var 13 (pv 13))) (dg_name (pg_name hN rfl (Or.inr rfl))) (dss_cons (ds_setLcV [("r", 3), ("c", 4)] rfl hN rfl rfl (sw_true rfl rfl rfl rfl) (blkOk_by (N := ["n", "some", "cell", "r", "c", "domino", "by", "down", "right", "found", "beyond", "outer", "word", "own", "turn", "counts", "cells"]) (sc := defScope (top 34)) (by decide +kernel)) rfl (by decide) (di_seq (de_var 5 (pv 5))) (fun _ _ _ _ _ => (dg_tup rfl (dgs_cons (dg_name (pg_name hN rfl (Or.inl rfl))) (dgs_cons (dg_name (pg_name hN rfl (Or.inl rfl))) dgs_nil)))) (fun _ _ _ _ _ => dts_nil) (fun _ _ _ _ _ => (de_tup (da_cons (de_op op_addA ok_add (de_var 3 (pv 3)) (de_var 7 (pv 7))) (da_cons (de_op op_addA ok_add (de_var 4 (pv 4)) (de_var 8 (pv 8))) da_nil)))))
  (dss_cons (ds_setLcV [("cell", 2)] rfl hN rfl rfl (sw_true rfl rfl rfl rfl) (blkOk_by (N := ["n", "some", "cell", "r", "c", "domino", "by", "down", "right", "found", "beyond", "outer", "word", "own", "turn", "counts", "cells"]) (sc := defScope (top 34)) (by decide +kernel)) rfl (by decide) (di_seq (de_var 10 (pv 10))) (fun _ _ _ _ _ => (dg_name (pg_name hN rfl (Or.inl rfl)))) (fun _ _ _ _ _ => (dts_one (dt_cmp (op_notInA (un65 hr)) ok_in (de_var 2 (pv 2)) (de_var 5 (pv 5))))) (fun _ _ _ _ _ => (de_var 2 (pv 2))))
  (dss_one (ds_if (dt_bo (dw_and (dt_cmp (op_notInA (un65 hr)) ok_in (de_var 5 (pv 5)) (de_var 9 (pv 9))) (dw_and1 (dt_tru (de_call g__law_is_frozen (hr.mono (by omega)) (takes_of rfl rfl rfl rfl) (da_cons (de_var 0 (pv 0)) (da_cons (de_var 12 (pv 12)) (da_cons (de_var 5 (pv 5)) (da_cons (de_fz (de_lcV [("cell", 2)] rfl hN (blkOk_by (N := ["n", "some", "cell", "r", "c", "domino", "by", "down", "right", "found", "beyond", "outer", "word", "own", "turn", "counts", "cells"]) (sc := defScope (top 34)) (by decide +kernel)) rfl (by decide) (di_seq (de_var 11 (pv 11))) (fun _ _ _ _ _ => (dg_name (pg_name hN rfl (Or.inl rfl)))) (fun _ _ _ _ _ => dts_nil) (fun _ _ _ _ _ => (de_getK (u9 hr) (pe_bmN PySem.F.slot_dict_get PySem.F.type_dict_get (mt_getN (u9 hr)) (de_var 6 (pv 6)) (da_cons (de_var 2 (pv 2)) (da_cons (de_non) da_nil))))))) (da_cons (de_var 9 (pv 9)) da_nil)))))))))) (dss_one (ds_expr (de_mut mu_append.fz (pe_bm PySem.F.plainAttrs_list PySem.F.slot_list_append PySem.F.type_list_append mt_append (pv 9) (da_cons (de_var 5 (pv 5)) da_nil))))) dss_nil)))))))
  (dss_one (ds_expr (de_mut mu_append.fz (pe_bm PySem.F.plainAttrs_list PySem.F.slot_list_append PySem.F.type_list_append mt_append (pv 15) (da_cons (de_cb ok_len (pe_callB call_len rfl mg.b_len bt_len (da_cons (de_var 9 (pv 9)) da_nil))) da_nil))))))))))
  (dss_one (ds_ret (de_cb ok_tuple (pe_callTy call_tuple_of rfl mg.b_tuple bt_tuple (da_cons (de_var 15 (pv 15)) da_nil))))))))), mf, F.kp, F.binds fun _ _ _ _ _ _ us hl => match us, hl with | [_, _], _ => rfl, rfl⟩
def G_power_of : SM :=
  (sSeq (sAsg (xD (.int 1)) (gNm 2))
  (sSeq (sFor (iRg1 (xCons (xVar 1) xNil)) (gNm 3) (sAug 2 opMul (xVar 0)))
  (sRet (xVar 2))))
def F_power_of : FD := runF none 4 2 G_power_of
theorem sc_power_of : FnScope ["base", "many", "told", "_"] ["base", "many"] (defScope (top 2)) := ⟨rfl, rfl, rfl, by decide +kernel, rfl, by decide +kernel, by decide +kernel⟩
theorem ok_power_of (mg : Mg w K mgf) (F : Fun K "power_of" "power_of" (top 2) f fd) (mf : mgf "power_of" = some (.ref f))  : FnD P w K mgf base "power_of" 1 none 2 F_power_of := by
  have hN := sc_power_of.nd
  exact ⟨f, fd, ["base", "many"], fn_rule F sc_power_of rfl (by decide) (by simp) fun cdv A outer s H E hr =>
  (dss_cons (ds_set (ps_set hN rfl (Or.inl rfl) (de_int)))
  (dss_cons (ds_for (passes_of rfl) rfl (di_rng1 rfl mg.b_range (da_cons (de_var 1 (pv 1)) da_nil)) (dg_name (pg_name hN rfl (Or.inl rfl))) (dss_one (ds_aug ipk_mul (ps_aug hN rfl (Or.inl rfl) (de_var 0 (pv 0)) ip_mulA))))
  (dss_one (ds_ret (de_var 2 (pv 2)))))), mf, F.kp, F.binds fun _ _ _ _ _ _ us hl => match us, hl with | [_, _], _ => rfl, rfl⟩
def G_how_many_diamond : SM :=
  (sRet (xCallN 2 none F_power_of (xCons (xD (.int 2)) (xCons (x2 opFdiv (x2 opMul (xVar 0) (x2 opAdd (xVar 0) (xD (.int 1)))) (xD (.int 2))) xNil))))
def F_how_many_diamond : FD := runF none 1 1 G_how_many_diamond
theorem sc_how_many_diamond : FnScope ["n"] ["n"] (defScope (top 19)) := ⟨rfl, rfl, rfl, by decide +kernel, rfl, by decide +kernel, by decide +kernel⟩
theorem ok_how_many_diamond (mg : Mg w K mgf) (F : Fun K "how_many_diamond" "how_many_diamond" (top 19) f fd) (mf : mgf "how_many_diamond" = some (.ref f)) (g_power_of : FnD P w K mgf base "power_of" 1 none 2 F_power_of) : FnD P w K mgf base "how_many_diamond" 2 none 1 F_how_many_diamond := by
  have hN := sc_how_many_diamond.nd
  exact ⟨f, fd, ["n"], fn_rule F sc_how_many_diamond rfl (by decide) (by simp) fun cdv A outer s H E hr =>
  (dss_one (ds_ret (de_call g_power_of (hr.mono (by omega)) (takes_of rfl rfl rfl rfl) (da_cons (de_int) (da_cons (de_op op_fdivA ok_fdiv (de_op op_mulA ok_mul (de_var 0 (pv 0)) (de_op op_addA ok_add (de_var 0 (pv 0)) (de_int))) (de_int)) da_nil))))), mf, F.kp, F.binds fun _ _ _ _ _ _ us hl => match us, hl with | [_], _ => rfl, rfl⟩
def G_with_level : SM :=
  (sRet (xN opComb (xCons (x2 opFdiv (x2 opMul (xVar 0) (x2 opAdd (xVar 0) (xD (.int 1)))) (xD (.int 2))) (xCons (xVar 1) xNil))))
def F_with_level : FD := runF none 2 2 G_with_level
theorem sc_with_level : FnScope ["n", "k"] ["n", "k"] (defScope (top 20)) := ⟨rfl, rfl, rfl, by decide +kernel, rfl, by decide +kernel, by decide +kernel⟩
theorem ok_with_level (mg : Mg w K mgf) (F : Fun K "with_level" "with_level" (top 20) f fd) (mf : mgf "with_level" = some (.ref f))  : FnD P w K mgf base "with_level" 1 none 2 F_with_level := by
  have hN := sc_with_level.nd
  exact ⟨f, fd, ["n", "k"], fn_rule F sc_with_level rfl (by decide) (by simp) fun cdv A outer s H E hr =>
  (dss_one (ds_ret (de_cb ok_comb (pe_callBfun cr_comb rfl mg.i_comb (da_cons (de_op op_fdivA ok_fdiv (de_op op_mulA ok_mul (de_var 0 (pv 0)) (de_op op_addA ok_add (de_var 0 (pv 0)) (de_int))) (de_int)) (da_cons (de_var 1 (pv 1)) da_nil)))))), mf, F.kp, F.binds fun _ _ _ _ _ _ us hl => match us, hl with | [_, _], _ => rfl, rfl⟩
def G__law_chosen : SM :=
  (sSeq (sAsg (xD (.int 1)) (gNm 3))
  (sSeq (sFor (iRg1 (xCons (xVar 1) xNil)) (gNm 2) (sAsg (x2 opFdiv (x2 opMul (xVar 3) (x2 opSub (xVar 0) (xVar 2))) (x2 opAdd (xVar 2) (xD (.int 1)))) (gNm 3)))
  (sRet (xVar 3))))
def F__law_chosen : FD := runF none 4 2 G__law_chosen
theorem sc__law_chosen : FnScope ["n", "k", "j", "found"] ["n", "k"] (defScope (top 36)) := ⟨rfl, rfl, rfl, by decide +kernel, rfl, by decide +kernel, by decide +kernel⟩
theorem ok__law_chosen (mg : Mg w K mgf) (F : Fun K "_law_chosen" "_law_chosen" (top 36) f fd) (mf : mgf "_law_chosen" = some (.ref f))  : FnD P w K mgf base "_law_chosen" 1 none 2 F__law_chosen := by
  have hN := sc__law_chosen.nd
  exact ⟨f, fd, ["n", "k"], fn_rule F sc__law_chosen rfl (by decide) (by simp) fun cdv A outer s H E hr =>
  (dss_cons (ds_set (ps_set hN rfl (Or.inl rfl) (de_int)))
  (dss_cons (ds_for (passes_of rfl) rfl (di_rng1 rfl mg.b_range (da_cons (de_var 1 (pv 1)) da_nil)) (dg_name (pg_name hN rfl (Or.inl rfl))) (dss_one (ds_set (ps_set hN rfl (Or.inl rfl) (de_op op_fdivA ok_fdiv (de_op op_mulA ok_mul (de_var 3 (pv 3)) (de_op op_sub ok_sub (de_var 0 (pv 0)) (de_var 2 (pv 2)))) (de_op op_addA ok_add (de_var 2 (pv 2)) (de_int)))))))
  (dss_one (ds_ret (de_var 3 (pv 3)))))), mf, F.kp, F.binds fun _ _ _ _ _ _ us hl => match us, hl with | [_, _], _ => rfl, rfl⟩
def G_partner_of : SM :=
  (sSeq (sAsg (xVar 1) (gTu [(gTu [(gNm 4), (gNm 5)]), (gNm 7)]))
  (sSeq (sAsg (x2 opEq (x2 opIx (xVar 7) (xD (.int 0))) (xVar 4)) (gNm 8))
  (sSeq (sAsg (xIf (xTru (xVar 8)) (xTup (xCons (xTup (xCons (x2 opAdd (xVar 4) (xD (.int 1))) (xCons (xVar 5) xNil))) (xCons (xTup (xCons (x2 opAdd (xVar 4) (xD (.int 1))) (xCons (x2 opAdd (xVar 5) (xD (.int 1))) xNil))) xNil))) (xTup (xCons (xTup (xCons (xVar 4) (xCons (x2 opAdd (xVar 5) (xD (.int 1))) xNil))) (xCons (xTup (xCons (x2 opAdd (xVar 4) (xD (.int 1))) (xCons (x2 opAdd (xVar 5) (xD (.int 1))) xNil))) xNil)))) (gNm 6))
  (sRet (xIf (xT (x2 (opIn false) (xTup (xCons (xCallN 2 none F_way (xCons (xVar 0) (xCons (xVar 1) xNil))) (xCons (xCallN 2 none F_way (xCons (xVar 0) (xCons (xVar 6) xNil))) xNil))) (xTup (xCons (xVar 2) (xCons (xVar 3) xNil))))) (xVar 6) (xD .non))))))
def F_partner_of : FD := runF none 9 4 G_partner_of
theorem sc_partner_of : FnScope ["n", "domino", "first", "second", "r", "c", "beside", "other", "is_level"] ["n", "domino", "first", "second"] (defScope (top 7)) := ⟨rfl, rfl, rfl, by decide +kernel, rfl, by decide +kernel, by decide +kernel⟩
theorem ok_partner_of (mg : Mg w K mgf) (F : Fun K "partner_of" "partner_of" (top 7) f fd) (mf : mgf "partner_of" = some (.ref f)) (g_way : FnD P w K mgf base "way" 1 none 2 F_way) : FnD P w K mgf base "partner_of" 2 none 4 F_partner_of := by
  have hN := sc_partner_of.nd
  exact ⟨f, fd, ["n", "domino", "first", "second"], fn_rule F sc_partner_of rfl (by decide) (by simp) fun cdv A outer s H E hr =>
  (dss_cons (ds_asg (de_var 1 (pv 1)) (dg_tup rfl (dgs_cons (dg_tup rfl (dgs_cons (dg_name (pg_name hN rfl (Or.inl rfl))) (dgs_cons (dg_name (pg_name hN rfl (Or.inl rfl))) dgs_nil))) (dgs_cons (dg_name (pg_name hN rfl (Or.inl rfl))) dgs_nil))))
  (dss_cons (ds_set (ps_set hN rfl (Or.inl rfl) (de_cmp (op_eqA hr.units) ok_eq (de_ix ix_seq ok_ix (de_var 7 (pv 7)) (de_int) (fun _ _ => rfl)) (de_var 4 (pv 4)))))
  (dss_cons (ds_set (ps_set hN rfl (Or.inl rfl) (de_if (dt_tru (de_var 8 (pv 8))) (de_tup (da_cons (de_tup (da_cons (de_op op_addA ok_add (de_var 4 (pv 4)) (de_int)) (da_cons (de_var 5 (pv 5)) da_nil))) (da_cons (de_tup (da_cons (de_op op_addA ok_add (de_var 4 (pv 4)) (de_int)) (da_cons (de_op op_addA ok_add (de_var 5 (pv 5)) (de_int)) da_nil))) da_nil))) (de_tup (da_cons (de_tup (da_cons (de_var 4 (pv 4)) (da_cons (de_op op_addA ok_add (de_var 5 (pv 5)) (de_int)) da_nil))) (da_cons (de_tup (da_cons (de_op op_addA ok_add (de_var 4 (pv 4)) (de_int)) (da_cons (de_op op_addA ok_add (de_var 5 (pv 5)) (de_int)) da_nil))) da_nil))))))
  (dss_one (ds_ret (de_if (dt_cmp (op_inA (un65 hr)) ok_in (de_tup (da_cons (de_call g_way (hr.mono (by omega)) (takes_of rfl rfl rfl rfl) (da_cons (de_var 0 (pv 0)) (da_cons (de_var 1 (pv 1)) da_nil))) (da_cons (de_call g_way (hr.mono (by omega)) (takes_of rfl rfl rfl rfl) (da_cons (de_var 0 (pv 0)) (da_cons (de_var 6 (pv 6)) da_nil))) da_nil))) (de_tup (da_cons (de_var 2 (pv 2)) (da_cons (de_var 3 (pv 3)) da_nil)))) (de_var 6 (pv 6)) (de_non))))))), mf, F.kp, F.binds fun _ _ _ _ _ _ us hl => match us, hl with | [_, _, _, _], _ => rfl, rfl⟩
def G_without_squares : SM :=
  (sSeq (sAsg (xDc [4] (iSeq (xVar 1)) (gNm 4) xYes (inn1 (xVar 4) (xD (.bl true)))) (gNm 7))
  (sSeq (sAsg (xDnew) (gNm 6))
  (sSeq (sFor (iSeq (xVar 1)) (gNm 4) (sSeq (sAsg (xCallN 4 none F_partner_of (xCons (xVar 0) (xCons (xVar 4) (xCons (xVar 2) (xCons (xVar 3) xNil))))) (gNm 5))
  (sIf (xAnd (xT (x2 (opIs true) (xVar 5) (xD .non))) (xT (x2 (opInk false) (xVar 5) (xVar 7)))) (sSeq (sAsg (xD (.bl true)) (gIx 6 (xVar 4) (muF muSetK)))
  (sAsg (xD (.bl true)) (gIx 6 (xVar 5) (muF muSetK)))) sNx)))
  (sRet (xFz (xLc [4] (iSeq (xVar 1)) (gNm 4) (xT (x2 (opInk true) (xVar 4) (xVar 6))) (xVar 4)))))))
def F_without_squares : FD := runF none 8 4 G_without_squares
theorem sc_without_squares : FnScope ["n", "row", "first", "second", "domino", "beside", "gone", "there"] ["n", "row", "first", "second"] (defScope (top 8)) := ⟨rfl, rfl, rfl, by decide +kernel, rfl, by decide +kernel, by decide +kernel⟩
theorem ok_without_squares (mg : Mg w K mgf) (F : Fun K "without_squares" "without_squares" (top 8) f fd) (mf : mgf "without_squares" = some (.ref f)) (g_partner_of : FnD P w K mgf base "partner_of" 2 none 4 F_partner_of) : FnD P w K mgf base "without_squares" 3 none 4 F_without_squares := by
  have hN := sc_without_squares.nd
  exact ⟨f, fd, ["n", "row", "first", "second"], fn_rule F sc_without_squares rfl (by decide) (by simp) fun cdv A outer s H E hr =>
  (dss_cons (ds_setDc (u9 hr) [("domino", 4)] rfl hN rfl rfl (sw_trueD rfl rfl rfl rfl) (blkOk_by (N := ["n", "row", "first", "second", "domino", "beside", "gone", "there"]) (sc := defScope (top 8)) (by decide +kernel)) rfl (by decide) (di_seq (de_var 1 (pv 1))) (fun _ _ _ _ _ => (dg_name (pg_name hN rfl (Or.inl rfl)))) (fun _ _ _ _ _ => dts_nil) (fun _ _ _ _ _ => (de_var 4 (pv 4))) (fun _ _ _ _ _ => (de_bl)))
  (dss_cons (ds_set (ps_set hN rfl (Or.inr rfl) (de_dnew)))
  (dss_cons (ds_for (passes_of rfl) rfl (di_seq (de_var 1 (pv 1))) (dg_name (pg_name hN rfl (Or.inl rfl))) (dss_cons (ds_set (ps_set hN rfl (Or.inl rfl) (de_call g_partner_of (hr.mono (by omega)) (takes_of rfl rfl rfl rfl) (da_cons (de_var 0 (pv 0)) (da_cons (de_var 4 (pv 4)) (da_cons (de_var 2 (pv 2)) (da_cons (de_var 3 (pv 3)) da_nil)))))))
  (dss_one (ds_if (dt_bo (dw_and (dt_cmp op_isNotA ok_is (de_var 5 (pv 5)) (de_non)) (dw_and1 (dt_cmp (or_inN (u9 hr)) ok_ink (de_var 5 (pv 5)) (de_var 7 (pv 7)))))) (dss_cons (ds_asg (de_bl) (dg_ix mu_setK.fz (pg_sub (pv 6) (de_var 4 (pv 4)) (set_n (u9 hr)))))
  (dss_one (ds_asg (de_bl) (dg_ix mu_setK.fz (pg_sub (pv 6) (de_var 5 (pv 5)) (set_n (u9 hr))))))) dss_nil))))
  (dss_one (ds_ret (de_fz (de_lcV [("domino", 4)] rfl hN (blkOk_by (N := ["n", "row", "first", "second", "domino", "beside", "gone", "there"]) (sc := defScope (top 8)) (by decide +kernel)) rfl (by decide) (di_seq (de_var 1 (pv 1))) (fun _ _ _ _ _ => (dg_name (pg_name hN rfl (Or.inl rfl)))) (fun _ _ _ _ _ => (dts_one (dt_cmp (or_notInN (u9 hr)) ok_ink (de_var 4 (pv 4)) (de_var 6 (pv 6))))) (fun _ _ _ _ _ => (de_var 4 (pv 4)))))))))), mf, F.kp, F.binds fun _ _ _ _ _ _ us hl => match us, hl with | [_, _, _, _], _ => rfl, rfl⟩
def G_free_squares : SM :=
  (sSeq (sAsg (xDc [2] (iSeq (x2 opIx (xCallN 1 none F_diamond (xCons (xVar 0) xNil)) (xD (.int 1)))) (gNm 2) xYes (inn1 (xVar 2) (xD (.bl true)))) (gNm 3))
  (sSeq (sFor (iSeq (xVar 1)) (gNm 6) (sFor (iSeq (xVar 6)) (gNm 2) (sMuIx 3 (xVar 2) muDelK)))
  (sSeq (sAsg (xLstF xNil) (gNm 7))
  (sSeq (sFor (iSeq (xN opListK (xCons (xVar 3) xNil))) (gTu [(gNm 4), (gNm 5)]) (sIf (xT (x2 (opInk false) (xTup (xCons (xVar 4) (xCons (xVar 5) xNil))) (xVar 3))) (sSeq (sExpr (xMut "list" 7 (muF muAppend) (xCons (xTup (xCons (xVar 4) (xCons (xVar 5) xNil))) xNil)))
  (sFor (iSeq (xTup (xCons (xTup (xCons (xVar 4) (xCons (xVar 5) xNil))) (xCons (xTup (xCons (xVar 4) (xCons (x2 opAdd (xVar 5) (xD (.int 1))) xNil))) (xCons (xTup (xCons (x2 opAdd (xVar 4) (xD (.int 1))) (xCons (xVar 5) xNil))) (xCons (xTup (xCons (x2 opAdd (xVar 4) (xD (.int 1))) (xCons (x2 opAdd (xVar 5) (xD (.int 1))) xNil))) xNil)))))) (gNm 2) (sMuIx 3 (xVar 2) muDelK))) sNx))
  (sRet (xVar 7))))))
def F_free_squares : FD := runF none 8 2 G_free_squares
theorem sc_free_squares : FnScope ["n", "row", "cell", "left", "r", "c", "domino", "told"] ["n", "row"] (defScope (top 10)) := ⟨rfl, rfl, rfl, by decide +kernel, rfl, by decide +kernel, by decide +kernel⟩
theorem ok_free_squares (mg : Mg w K mgf) (F : Fun K "free_squares" "free_squares" (top 10) f fd) (mf : mgf "free_squares" = some (.ref f)) (g_diamond : FnD P w K mgf base "diamond" 1 none 1 F_diamond) : FnD P w K mgf base "free_squares" 2 none 2 F_free_squares := by
  have hN := sc_free_squares.nd
  exact ⟨f, fd, ["n", "row"], fn_rule F sc_free_squares rfl (by decide) (by simp) fun cdv A outer s H E hr =>
  (dss_cons (ds_setDc (u9 hr) [("cell", 2)] rfl hN rfl rfl (sw_trueD rfl rfl rfl rfl) (blkOk_by (N := ["n", "row", "cell", "left", "r", "c", "domino", "told"]) (sc := defScope (top 10)) (by decide +kernel)) rfl (by decide) (di_seq (de_ix ix_seq ok_ix (de_call g_diamond (hr.mono (by omega)) (takes_of rfl rfl rfl rfl) (da_cons (de_var 0 (pv 0)) da_nil)) (de_int) (fun _ _ => rfl))) (fun _ _ _ _ _ => (dg_name (pg_name hN rfl (Or.inl rfl)))) (fun _ _ _ _ _ => dts_nil) (fun _ _ _ _ _ => (de_var 2 (pv 2))) (fun _ _ _ _ _ => (de_bl)))
  (dss_cons (ds_for (passes_of rfl) rfl (di_seq (de_var 1 (pv 1))) (dg_name (pg_name hN rfl (Or.inl rfl))) (dss_one (ds_for (passes_of rfl) rfl (di_seq (de_var 6 (pv 6))) (dg_name (pg_name hN rfl (Or.inl rfl))) (dss_one (ds_delK (u9 hr) (pv 3) (de_var 2 (pv 2)))))))
  (dss_cons (ds_set (ps_set hN rfl (Or.inl rfl) (de_lstF da_nil)))
  (dss_cons (ds_for (passes_of rfl) rfl (di_seq (de_cb ok_listK (pe_callTy (call_listN rfl) rfl mg.b_list bt_list (da_cons (de_var 3 (pv 3)) da_nil)))) (dg_tup rfl (dgs_cons (dg_name (pg_name hN rfl (Or.inl rfl))) (dgs_cons (dg_name (pg_name hN rfl (Or.inl rfl))) dgs_nil))) (dss_one (ds_if (dt_cmp (or_inN (u9 hr)) ok_ink (de_tup (da_cons (de_var 4 (pv 4)) (da_cons (de_var 5 (pv 5)) da_nil))) (de_var 3 (pv 3))) (dss_cons (ds_expr (de_mut mu_append.fz (pe_bm PySem.F.plainAttrs_list PySem.F.slot_list_append PySem.F.type_list_append mt_append (pv 7) (da_cons (de_tup (da_cons (de_var 4 (pv 4)) (da_cons (de_var 5 (pv 5)) da_nil))) da_nil))))
  (dss_one (ds_for (passes_of rfl) rfl (di_seq (de_tup (da_cons (de_tup (da_cons (de_var 4 (pv 4)) (da_cons (de_var 5 (pv 5)) da_nil))) (da_cons (de_tup (da_cons (de_var 4 (pv 4)) (da_cons (de_op op_addA ok_add (de_var 5 (pv 5)) (de_int)) da_nil))) (da_cons (de_tup (da_cons (de_op op_addA ok_add (de_var 4 (pv 4)) (de_int)) (da_cons (de_var 5 (pv 5)) da_nil))) (da_cons (de_tup (da_cons (de_op op_addA ok_add (de_var 4 (pv 4)) (de_int)) (da_cons (de_op op_addA ok_add (de_var 5 (pv 5)) (de_int)) da_nil))) da_nil)))))) (dg_name (pg_name hN rfl (Or.inl rfl))) (dss_one (ds_delK (u9 hr) (pv 3) (de_var 2 (pv 2))))))) dss_nil)))
  (dss_one (ds_ret (de_var 7 (pv 7)))))))), mf, F.kp, F.binds fun _ _ _ _ _ _ us hl => match us, hl with | [_, _], _ => rfl, rfl⟩
def G_shrunk : SM :=
  (sSeq (sAsg (xCallN 4 none F_without_squares (xCons (xVar 0) (xCons (x2 opIx (xVar 1) (xD (.int 1))) (xCons (xTup (xCons (xD (.str "up")) (xCons (xD (.str "down")) xNil))) (xCons (xTup (xCons (xD (.str "left")) (xCons (xD (.str "right")) xNil))) xNil))))) (gNm 6))
  (sSeq (sAsg (xLstF xNil) (gNm 5))
  (sSeq (sFor (iSeq (xVar 6)) (gNm 2) (sSeq (sAsg (x1 (opDget C_GOING) (xCallN 2 none F_way (xCons (xVar 0) (xCons (xVar 2) xNil)))) (gTu [(gNm 3), (gNm 4)]))
  (sExpr (xMut "list" 5 (muF muAppend) (xCons (xCallN 3 none F_moved_by (xCons (xVar 2) (xCons (x2 opSub (x1 opNeg (xD (.int 1))) (xVar 3)) (xCons (x2 opSub (x1 opNeg (xD (.int 1))) (xVar 4)) xNil)))) xNil)))))
  (sRet (xTup (xCons (xN opTuple (xCons (xN opSorted (xCons (xVar 5) xNil)) xNil)) (xCons (xN opTuple (xCons (xN opSorted (xCons (xCallN 2 none F_free_squares (xCons (x2 opSub (xVar 0) (xD (.int 1))) (xCons (xVar 5) xNil))) xNil)) xNil)) xNil)))))))
def F_shrunk : FD := runF none 7 2 G_shrunk
theorem sc_shrunk : FnScope ["n", "paving", "domino", "down", "right", "told", "rest"] ["n", "paving"] (defScope (top 15)) := ⟨rfl, rfl, rfl, by decide +kernel, rfl, by decide +kernel, by decide +kernel⟩
theorem ok_shrunk (mg : Mg w K mgf) (F : Fun K "shrunk" "shrunk" (top 15) f fd) (mf : mgf "shrunk" = some (.ref f)) (g_without_squares : FnD P w K mgf base "without_squares" 3 none 4 F_without_squares) (g_way : FnD P w K mgf base "way" 1 none 2 F_way) (g_moved_by : FnD P w K mgf base "moved_by" 1 none 3 F_moved_by) (g_free_squares : FnD P w K mgf base "free_squares" 2 none 2 F_free_squares) : FnD P w K mgf base "shrunk" 4 none 2 F_shrunk := by
  have hN := sc_shrunk.nd
  exact ⟨f, fd, ["n", "paving"], fn_rule F sc_shrunk rfl (by decide) (by simp) fun cdv A outer s H E hr =>
  (dss_cons (ds_set (ps_set hN rfl (Or.inl rfl) (de_call g_without_squares (hr.mono (by omega)) (takes_of rfl rfl rfl rfl) (da_cons (de_var 0 (pv 0)) (da_cons (de_ix ix_seq ok_ix (de_var 1 (pv 1)) (de_int) (fun _ _ => rfl)) (da_cons (de_tup (da_cons (de_str) (da_cons (de_str) da_nil))) (da_cons (de_tup (da_cons (de_str) (da_cons (de_str) da_nil))) da_nil)))))))
  (dss_cons (ds_set (ps_set hN rfl (Or.inl rfl) (de_lstF da_nil)))
  (dss_cons (ds_for (passes_of rfl) rfl (di_seq (de_var 6 (pv 6))) (dg_name (pg_name hN rfl (Or.inl rfl))) (dss_cons (ds_asg (de_gdk mg.c_GOING rfl (de_call g_way (hr.mono (by omega)) (takes_of rfl rfl rfl rfl) (da_cons (de_var 0 (pv 0)) (da_cons (de_var 2 (pv 2)) da_nil)))) (dg_tup rfl (dgs_cons (dg_name (pg_name hN rfl (Or.inl rfl))) (dgs_cons (dg_name (pg_name hN rfl (Or.inl rfl))) dgs_nil))))
  (dss_one (ds_expr (de_mut mu_append.fz (pe_bm PySem.F.plainAttrs_list PySem.F.slot_list_append PySem.F.type_list_append mt_append (pv 5) (da_cons (de_call g_moved_by (hr.mono (by omega)) (takes_of rfl rfl rfl rfl) (da_cons (de_var 2 (pv 2)) (da_cons (de_op op_sub ok_sub (de_un un_neg ok_neg (de_int)) (de_var 3 (pv 3))) (da_cons (de_op op_sub ok_sub (de_un un_neg ok_neg (de_int)) (de_var 4 (pv 4))) da_nil)))) da_nil)))))))
  (dss_one (ds_ret (de_tup (da_cons (de_cb ok_tuple (pe_callTy call_tuple_of rfl mg.b_tuple bt_tuple (da_cons (de_cb ok_sorted (pe_callB (cr_sortD (un65 hr)) rfl mg.b_sorted bt_sorted (da_cons (de_var 5 (pv 5)) da_nil))) da_nil))) (da_cons (de_cb ok_tuple (pe_callTy call_tuple_of rfl mg.b_tuple bt_tuple (da_cons (de_cb ok_sorted (pe_callB (cr_sortD (un65 hr)) rfl mg.b_sorted bt_sorted (da_cons (de_call g_free_squares (hr.mono (by omega)) (takes_of rfl rfl rfl rfl) (da_cons (de_op op_sub ok_sub (de_var 0 (pv 0)) (de_int)) (da_cons (de_var 5 (pv 5)) da_nil))) da_nil))) da_nil))) da_nil)))))))), mf, F.kp, F.binds fun _ _ _ _ _ _ us hl => match us, hl with | [_, _], _ => rfl, rfl⟩
def G_slid : SM :=
  (sSeq (sAsg (xCallN 4 none F_without_squares (xCons (xVar 0) (xCons (x2 opIx (xVar 1) (xD (.int 1))) (xCons (xTup (xCons (xD (.str "down")) (xCons (xD (.str "up")) xNil))) (xCons (xTup (xCons (xD (.str "right")) (xCons (xD (.str "left")) xNil))) xNil))))) (gNm 6))
  (sSeq (sAsg (xLstF xNil) (gNm 5))
  (sSeq (sFor (iSeq (xVar 6)) (gNm 2) (sSeq (sAsg (x1 (opDget C_GOING) (xCallN 2 none F_way (xCons (xVar 0) (xCons (xVar 2) xNil)))) (gTu [(gNm 3), (gNm 4)]))
  (sExpr (xMut "list" 5 (muF muAppend) (xCons (xCallN 3 none F_moved_by (xCons (xVar 2) (xCons (x2 opAdd (xD (.int 1)) (xVar 3)) (xCons (x2 opAdd (xD (.int 1)) (xVar 4)) xNil)))) xNil)))))
  (sRet (xVar 5)))))
def F_slid : FD := runF none 7 2 G_slid
theorem sc_slid : FnScope ["n", "paving", "domino", "down", "right", "told", "rest"] ["n", "paving"] (defScope (top 11)) := ⟨rfl, rfl, rfl, by decide +kernel, rfl, by decide +kernel, by decide +kernel⟩
theorem ok_slid (mg : Mg w K mgf) (F : Fun K "slid" "slid" (top 11) f fd) (mf : mgf "slid" = some (.ref f)) (g_without_squares : FnD P w K mgf base "without_squares" 3 none 4 F_without_squares) (g_way : FnD P w K mgf base "way" 1 none 2 F_way) (g_moved_by : FnD P w K mgf base "moved_by" 1 none 3 F_moved_by) : FnD P w K mgf base "slid" 4 none 2 F_slid := by
  have hN := sc_slid.nd
  exact ⟨f, fd, ["n", "paving"], fn_rule F sc_slid rfl (by decide) (by simp) fun cdv A outer s H E hr =>
  (dss_cons (ds_set (ps_set hN rfl (Or.inl rfl) (de_call g_without_squares (hr.mono (by omega)) (takes_of rfl rfl rfl rfl) (da_cons (de_var 0 (pv 0)) (da_cons (de_ix ix_seq ok_ix (de_var 1 (pv 1)) (de_int) (fun _ _ => rfl)) (da_cons (de_tup (da_cons (de_str) (da_cons (de_str) da_nil))) (da_cons (de_tup (da_cons (de_str) (da_cons (de_str) da_nil))) da_nil)))))))
  (dss_cons (ds_set (ps_set hN rfl (Or.inl rfl) (de_lstF da_nil)))
  (dss_cons (ds_for (passes_of rfl) rfl (di_seq (de_var 6 (pv 6))) (dg_name (pg_name hN rfl (Or.inl rfl))) (dss_cons (ds_asg (de_gdk mg.c_GOING rfl (de_call g_way (hr.mono (by omega)) (takes_of rfl rfl rfl rfl) (da_cons (de_var 0 (pv 0)) (da_cons (de_var 2 (pv 2)) da_nil)))) (dg_tup rfl (dgs_cons (dg_name (pg_name hN rfl (Or.inl rfl))) (dgs_cons (dg_name (pg_name hN rfl (Or.inl rfl))) dgs_nil))))
  (dss_one (ds_expr (de_mut mu_append.fz (pe_bm PySem.F.plainAttrs_list PySem.F.slot_list_append PySem.F.type_list_append mt_append (pv 5) (da_cons (de_call g_moved_by (hr.mono (by omega)) (takes_of rfl rfl rfl rfl) (da_cons (de_var 2 (pv 2)) (da_cons (de_op op_addA ok_add (de_int) (de_var 3 (pv 3))) (da_cons (de_op op_addA ok_add (de_int) (de_var 4 (pv 4))) da_nil)))) da_nil)))))))
  (dss_one (ds_ret (de_var 5 (pv 5))))))), mf, F.kp, F.binds fun _ _ _ _ _ _ us hl => match us, hl with | [_, _], _ => rfl, rfl⟩
def G_rooms : SM :=
  (sRet (xN opTuple (xCons (xN opSorted (xCons (xCallN 2 none F_free_squares (xCons (x2 opAdd (xVar 0) (xD (.int 1))) (xCons (xCallN 2 none F_slid (xCons (xVar 0) (xCons (xVar 1) xNil))) xNil))) xNil)) xNil)))
def F_rooms : FD := runF none 2 2 G_rooms
theorem sc_rooms : FnScope ["n", "paving"] ["n", "paving"] (defScope (top 12)) := ⟨rfl, rfl, rfl, by decide +kernel, rfl, by decide +kernel, by decide +kernel⟩
theorem ok_rooms (mg : Mg w K mgf) (F : Fun K "rooms" "rooms" (top 12) f fd) (mf : mgf "rooms" = some (.ref f)) (g_free_squares : FnD P w K mgf base "free_squares" 2 none 2 F_free_squares) (g_slid : FnD P w K mgf base "slid" 4 none 2 F_slid) : FnD P w K mgf base "rooms" 5 none 2 F_rooms := by
  have hN := sc_rooms.nd
  exact ⟨f, fd, ["n", "paving"], fn_rule F sc_rooms rfl (by decide) (by simp) fun cdv A outer s H E hr =>
  (dss_one (ds_ret (de_cb ok_tuple (pe_callTy call_tuple_of rfl mg.b_tuple bt_tuple (da_cons (de_cb ok_sorted (pe_callB (cr_sortD (un65 hr)) rfl mg.b_sorted bt_sorted (da_cons (de_call g_free_squares (hr.mono (by omega)) (takes_of rfl rfl rfl rfl) (da_cons (de_op op_addA ok_add (de_var 0 (pv 0)) (de_int)) (da_cons (de_call g_slid (hr.mono (by omega)) (takes_of rfl rfl rfl rfl) (da_cons (de_var 0 (pv 0)) (da_cons (de_var 1 (pv 1)) da_nil))) da_nil))) da_nil))) da_nil))))), mf, F.kp, F.binds fun _ _ _ _ _ _ us hl => match us, hl with | [_, _], _ => rfl, rfl⟩
def G_filled : SM :=
  (sSeq (sAsg (xVar 0) (gTu [(gNm 2), (gNm 3)]))
  (sSeq (sIf (xT (x2 opEq (xVar 1) (xD (.str "level")))) (sRet (xLstF (xCons (xTup (xCons (xTup (xCons (xVar 2) (xCons (xVar 3) xNil))) (xCons (xTup (xCons (xVar 2) (xCons (x2 opAdd (xVar 3) (xD (.int 1))) xNil))) xNil))) (xCons (xTup (xCons (xTup (xCons (x2 opAdd (xVar 2) (xD (.int 1))) (xCons (xVar 3) xNil))) (xCons (xTup (xCons (x2 opAdd (xVar 2) (xD (.int 1))) (xCons (x2 opAdd (xVar 3) (xD (.int 1))) xNil))) xNil))) xNil)))) sNx)
  (sRet (xLstF (xCons (xTup (xCons (xTup (xCons (xVar 2) (xCons (xVar 3) xNil))) (xCons (xTup (xCons (x2 opAdd (xVar 2) (xD (.int 1))) (xCons (xVar 3) xNil))) xNil))) (xCons (xTup (xCons (xTup (xCons (xVar 2) (xCons (x2 opAdd (xVar 3) (xD (.int 1))) xNil))) (xCons (xTup (xCons (x2 opAdd (xVar 2) (xD (.int 1))) (xCons (x2 opAdd (xVar 3) (xD (.int 1))) xNil))) xNil))) xNil))))))
def F_filled : FD := runF none 4 2 G_filled
theorem sc_filled : FnScope ["cell", "word", "r", "c"] ["cell", "word"] (defScope (top 13)) := ⟨rfl, rfl, rfl, by decide +kernel, rfl, by decide +kernel, by decide +kernel⟩
theorem ok_filled (mg : Mg w K mgf) (F : Fun K "filled" "filled" (top 13) f fd) (mf : mgf "filled" = some (.ref f))  : FnD P w K mgf base "filled" 1 none 2 F_filled := by
  have hN := sc_filled.nd
  exact ⟨f, fd, ["cell", "word"], fn_rule F sc_filled rfl (by decide) (by simp) fun cdv A outer s H E hr =>
  (dss_cons (ds_asg (de_var 0 (pv 0)) (dg_tup rfl (dgs_cons (dg_name (pg_name hN rfl (Or.inl rfl))) (dgs_cons (dg_name (pg_name hN rfl (Or.inl rfl))) dgs_nil))))
  (dss_cons (ds_if (dt_cmp (op_eqA hr.units) ok_eq (de_var 1 (pv 1)) (de_str)) (dss_one (ds_ret (de_lstF (da_cons (de_tup (da_cons (de_tup (da_cons (de_var 2 (pv 2)) (da_cons (de_var 3 (pv 3)) da_nil))) (da_cons (de_tup (da_cons (de_var 2 (pv 2)) (da_cons (de_op op_addA ok_add (de_var 3 (pv 3)) (de_int)) da_nil))) da_nil))) (da_cons (de_tup (da_cons (de_tup (da_cons (de_op op_addA ok_add (de_var 2 (pv 2)) (de_int)) (da_cons (de_var 3 (pv 3)) da_nil))) (da_cons (de_tup (da_cons (de_op op_addA ok_add (de_var 2 (pv 2)) (de_int)) (da_cons (de_op op_addA ok_add (de_var 3 (pv 3)) (de_int)) da_nil))) da_nil))) da_nil))))) dss_nil)
  (dss_one (ds_ret (de_lstF (da_cons (de_tup (da_cons (de_tup (da_cons (de_var 2 (pv 2)) (da_cons (de_var 3 (pv 3)) da_nil))) (da_cons (de_tup (da_cons (de_op op_addA ok_add (de_var 2 (pv 2)) (de_int)) (da_cons (de_var 3 (pv 3)) da_nil))) da_nil))) (da_cons (de_tup (da_cons (de_tup (da_cons (de_var 2 (pv 2)) (da_cons (de_op op_addA ok_add (de_var 3 (pv 3)) (de_int)) da_nil))) (da_cons (de_tup (da_cons (de_op op_addA ok_add (de_var 2 (pv 2)) (de_int)) (da_cons (de_op op_addA ok_add (de_var 3 (pv 3)) (de_int)) da_nil))) da_nil))) da_nil))))))), mf, F.kp, F.binds fun _ _ _ _ _ _ us hl => match us, hl with | [_, _], _ => rfl, rfl⟩
def G_grown : SM :=
  (sSeq (sAsg (xCallN 2 none F_slid (xCons (xVar 0) (xCons (xVar 1) xNil))) (gNm 3))
  (sSeq (sFor (iZipT (xCons (xCallN 2 none F_rooms (xCons (xVar 0) (xCons (xVar 1) xNil))) (xCons (xVar 2) xNil))) (gTu [(gNm 4), (gNm 5)]) (sAsg (x2 opAdd (xVar 3) (xCallN 2 none F_filled (xCons (xVar 4) (xCons (xVar 5) xNil)))) (gNm 3)))
  (sRet (xTup (xCons (xD (.str "paving")) (xCons (xN opTuple (xCons (xN opSorted (xCons (xVar 3) xNil)) xNil)) xNil))))))
def F_grown : FD := runF none 6 3 G_grown
theorem sc_grown : FnScope ["n", "paving", "choices", "told", "cell", "word"] ["n", "paving", "choices"] (defScope (top 14)) := ⟨rfl, rfl, rfl, by decide +kernel, rfl, by decide +kernel, by decide +kernel⟩
theorem ok_grown (mg : Mg w K mgf) (F : Fun K "grown" "grown" (top 14) f fd) (mf : mgf "grown" = some (.ref f)) (g_slid : FnD P w K mgf base "slid" 4 none 2 F_slid) (g_rooms : FnD P w K mgf base "rooms" 5 none 2 F_rooms) (g_filled : FnD P w K mgf base "filled" 1 none 2 F_filled) : FnD P w K mgf base "grown" 6 none 3 F_grown := by
  have hN := sc_grown.nd
  exact ⟨f, fd, ["n", "paving", "choices"], fn_rule F sc_grown rfl (by decide) (by simp) fun cdv A outer s H E hr =>
  (dss_cons (ds_set (ps_set hN rfl (Or.inl rfl) (de_call g_slid (hr.mono (by omega)) (takes_of rfl rfl rfl rfl) (da_cons (de_var 0 (pv 0)) (da_cons (de_var 1 (pv 1)) da_nil)))))
  (dss_cons (ds_for (passes_of rfl) rfl (di_zipT rfl mg.b_zip (da_cons (de_call g_rooms (hr.mono (by omega)) (takes_of rfl rfl rfl rfl) (da_cons (de_var 0 (pv 0)) (da_cons (de_var 1 (pv 1)) da_nil))) (da_cons (de_var 2 (pv 2)) da_nil))) (dg_tup rfl (dgs_cons (dg_name (pg_name hN rfl (Or.inl rfl))) (dgs_cons (dg_name (pg_name hN rfl (Or.inl rfl))) dgs_nil))) (dss_one (ds_set (ps_set hN rfl (Or.inl rfl) (de_op op_addA ok_add (de_var 3 (pv 3)) (de_call g_filled (hr.mono (by omega)) (takes_of rfl rfl rfl rfl) (da_cons (de_var 4 (pv 4)) (da_cons (de_var 5 (pv 5)) da_nil))))))))
  (dss_one (ds_ret (de_tup (da_cons (de_str) (da_cons (de_cb ok_tuple (pe_callTy call_tuple_of rfl mg.b_tuple bt_tuple (da_cons (de_cb ok_sorted (pe_callB (cr_sortD (un65 hr)) rfl mg.b_sorted bt_sorted (da_cons (de_var 3 (pv 3)) da_nil))) da_nil))) da_nil))))))), mf, F.kp, F.binds fun _ _ _ _ _ _ us hl => match us, hl with | [_, _, _], _ => rfl, rfl⟩
def G_law : SM :=
  (sSeq (sAsg (xLstF (xCons (xCallN 3 none F__law_digits (xCons (xVar 0) (xCons (xD (.int 0)) (xCons (xD (.int 63)) xNil)))) (xCons (xD (.int 0)) xNil))) (gNm 4))
  (sSeq (sPar [2, 5] (xCons (xD (.int 1)) (xCons (xCallN 3 none F__law_filled (xCons (xLstF xNil) (xCons (xLstF (xCons (xTup (xCons (xD (.int 0)) (xCons (xD (.int 0)) xNil))) xNil)) (xCons (xLstF (xCons (xCallN 2 (some 0) F__law_pick (xCons (xVar 4) (xCons (xLstF (xCons (xD (.str "level")) (xCons (xD (.str "upright")) xNil))) xNil))) xNil)) xNil)))) xNil)))
  (sSeq (sFor (iRg1 (xCons (xCallN 2 (some 0) F__law_draw (xCons (xVar 4) (xCons (xD (.int 3)) xNil))) xNil)) (gNm 12) (sSeq (sAsg (xCallN 3 none F__law_squares (xCons (xVar 2) (xCons (x2 opIx (xVar 5) (xD (.int 1))) (xCons (xLstF (xCons (xTup (xCons (xD (.str "down")) (xCons (xD (.str "up")) xNil))) (xCons (xTup (xCons (xD (.str "right")) (xCons (xD (.str "left")) xNil))) xNil))) xNil)))) (gNm 3))
  (sSeq (sAsg (xCallN 4 none F__law_moved (xCons (xFz (xLc [1] (iSeq (x2 opIx (xVar 5) (xD (.int 1)))) (gNm 1) (xT (x2 (opIn true) (xVar 1) (xVar 3))) (xVar 1))) (xCons (xVar 2) (xCons (xD (.int 1)) (xCons (xD (.int 1)) xNil))))) (gNm 8))
  (sSeq (sAsg (xCallN 2 none F__law_rooms (xCons (xCallN 1 none F__law_diamond (xCons (x2 opAdd (xVar 2) (xD (.int 1))) xNil)) (xCons (xVar 8) xNil))) (gNm 6))
  (sSeq (sIf (xOr (xT (x2 (opIs false) (xVar 6) (xD .non))) (xT (x2 opNe (xN opLen (xCons (xVar 6) xNil)) (x2 opAdd (x2 opAdd (xVar 2) (xD (.int 1))) (x2 opFdiv (xN opLen (xCons (xVar 3) xNil)) (xD (.int 2))))))) (sRet (xD (.bl false))) sNx)
  (sSeq (sAsg (xN opTuple (xCons (xFz (xLc [7] (iSeq (xVar 6)) (gNm 7) xYes (xCallN 2 (some 0) F__law_pick (xCons (xVar 4) (xCons (xLstF (xCons (xD (.str "level")) (xCons (xD (.str "upright")) xNil))) xNil))))) xNil)) (gNm 9))
  (sSeq (sAsg (xCallN 3 none F__law_filled (xCons (xVar 8) (xCons (xVar 6) (xCons (xVar 9) xNil)))) (gNm 10))
  (sSeq (sIf (xNot (xTru (xCallN 2 none (F__law_like 64) (xCons (xTup (xCons (xCallN 2 none F_rooms (xCons (xVar 2) (xCons (xVar 5) xNil))) (xCons (xCallN 3 none F_grown (xCons (xVar 2) (xCons (xVar 5) (xCons (xVar 9) xNil)))) xNil))) (xCons (xTup (xCons (xVar 6) (xCons (xVar 10) xNil))) xNil))))) (sRet (xD (.bl false))) sNx)
  (sPar [2, 5] (xCons (x2 opAdd (xVar 2) (xD (.int 1))) (xCons (xVar 10) xNil)))))))))))
  (sSeq (sIf (xNot (xTru (xCallN 2 none (F__law_like 64) (xCons (xCallN 1 none F_diamond (xCons (xVar 2) xNil)) (xCons (xTup (xCons (xD (.str "yard")) (xCons (xCallN 1 none F__law_diamond (xCons (xVar 2) xNil)) xNil))) xNil))))) (sRet (xD (.bl false))) sNx)
  (sSeq (sAsg (xCallN 2 (some 0) F__law_pick (xCons (xVar 4) (xCons (x2 opIx (xVar 5) (xD (.int 1))) xNil))) (gNm 15))
  (sSeq (sIf (xNot (xTru (xCallN 2 none (F__law_like 64) (xCons (xCallN 2 none F_way (xCons (xVar 2) (xCons (xVar 15) xNil))) (xCons (xCallN 2 none F__law_way (xCons (xVar 2) (xCons (xVar 15) xNil))) xNil))))) (sRet (xD (.bl false))) sNx)
  (sSeq (sIf (xT (x2 opGt (xVar 2) (xD (.int 1)))) (sSeq (sAsg (xCallN 3 none F__law_squares (xCons (xVar 2) (xCons (x2 opIx (xVar 5) (xD (.int 1))) (xCons (xLstF (xCons (xTup (xCons (xD (.str "up")) (xCons (xD (.str "down")) xNil))) (xCons (xTup (xCons (xD (.str "left")) (xCons (xD (.str "right")) xNil))) xNil))) xNil)))) (gNm 3))
  (sSeq (sAsg (xCallN 4 none F__law_moved (xCons (xFz (xLc [1] (iSeq (x2 opIx (xVar 5) (xD (.int 1)))) (gNm 1) (xT (x2 (opIn true) (xVar 1) (xVar 3))) (xVar 1))) (xCons (xVar 2) (xCons (x2 opSub (xD (.int 0)) (xD (.int 1))) (xCons (x2 opSub (xD (.int 0)) (xD (.int 1))) xNil))))) (gNm 16))
  (sIf (xNot (xTru (xCallN 2 none (F__law_like 64) (xCons (xCallN 2 none F_shrunk (xCons (xVar 2) (xCons (xVar 5) xNil))) (xCons (xTup (xCons (xN opTuple (xCons (xVar 16) xNil)) (xCons (xCallN 2 none F__law_rooms (xCons (xCallN 1 none F__law_diamond (xCons (x2 opSub (xVar 2) (xD (.int 1))) xNil)) (xCons (xVar 16) xNil))) xNil))) xNil))))) (sRet (xD (.bl false))) sNx))) sNx)
  (sSeq (sIf (xNot (xTru (xCallN 2 none (F__law_like 64) (xCons (xCallN 2 none F_frozen (xCons (xVar 2) (xCons (xVar 5) xNil))) (xCons (xCallN 2 none F__law_frozen (xCons (xVar 2) (xCons (x2 opIx (xVar 5) (xD (.int 1))) xNil))) xNil))))) (sRet (xD (.bl false))) sNx)
  (sSeq (sAsg (x2 opAdd (xD (.int 1)) (xCallN 2 (some 0) F__law_draw (xCons (xVar 4) (xCons (xD (.int 40)) xNil)))) (gNm 13))
  (sSeq (sAsg (x2 opFdiv (x2 opMul (xVar 13) (x2 opAdd (xVar 13) (xD (.int 1)))) (xD (.int 2))) (gNm 14))
  (sSeq (sAsg (x2 opMod (xN opInt (xCons (xCallN 2 (some 0) F__law_draw (xCons (xVar 4) (xCons (xD (.int 900)) xNil))) xNil)) (x2 opAdd (xVar 14) (xD (.int 1)))) (gNm 17))
  (sSeq (sAsg (xD (.int 1)) (gNm 11))
  (sSeq (sFor (iRg1 (xCons (xVar 14) xNil)) (gNm 12) (sAsg (x2 opMul (xD (.int 2)) (xVar 11)) (gNm 11)))
  (sRet (xCallN 2 none (F__law_like 64) (xCons (xTup (xCons (xCallN 1 none F_how_many_diamond (xCons (xVar 13) xNil)) (xCons (xCallN 2 none F_with_level (xCons (xVar 13) (xCons (xVar 17) xNil))) xNil))) (xCons (xTup (xCons (xVar 11) (xCons (xCallN 2 none F__law_chosen (xCons (xVar 14) (xCons (xVar 17) xNil))) xNil))) xNil)))))))))))))))))
def F_law : FD := runF none 18 1 G_law
theorem sc_law : FnScope ["script", "one", "n", "out", "box", "paving", "places", "place", "moved", "words", "due", "power", "turn", "m", "size", "domino", "left", "k"] ["script"] (defScope (top 37)) := ⟨rfl, rfl, rfl, by decide +kernel, rfl, by decide +kernel, by decide +kernel⟩
theorem ok_law (mg : Mg w K mgf) (F : Fun K "law" "law" (top 37) f fd) (g__law_pick : FnD P w K mgf base "_law_pick" 2 (some 0) 2 F__law_pick) (g__law_like : FnD P w K mgf base "_law_like" 64 none 2 (F__law_like 64)) (g__law_digits : FnD P w K mgf base "_law_digits" 2 none 3 F__law_digits) (g__law_filled : FnD P w K mgf base "_law_filled" 1 none 3 F__law_filled) (g__law_draw : FnD P w K mgf base "_law_draw" 1 (some 0) 2 F__law_draw) (g__law_squares : FnD P w K mgf base "_law_squares" 2 none 3 F__law_squares) (g__law_moved : FnD P w K mgf base "_law_moved" 2 none 4 F__law_moved) (g__law_rooms : FnD P w K mgf base "_law_rooms" 1 none 2 F__law_rooms) (g__law_diamond : FnD P w K mgf base "_law_diamond" 1 none 1 F__law_diamond) (g_diamond : FnD P w K mgf base "diamond" 1 none 1 F_diamond) (g_way : FnD P w K mgf base "way" 1 none 2 F_way) (g__law_way : FnD P w K mgf base "_law_way" 1 none 2 F__law_way) (g_frozen : FnD P w K mgf base "frozen" 3 none 2 F_frozen) (g__law_frozen : FnD P w K mgf base "_law_frozen" 2 none 2 F__law_frozen) (g_how_many_diamond : FnD P w K mgf base "how_many_diamond" 2 none 1 F_how_many_diamond) (g_with_level : FnD P w K mgf base "with_level" 1 none 2 F_with_level) (g__law_chosen : FnD P w K mgf base "_law_chosen" 1 none 2 F__law_chosen) (g_shrunk : FnD P w K mgf base "shrunk" 4 none 2 F_shrunk) (g_rooms : FnD P w K mgf base "rooms" 5 none 2 F_rooms) (g_grown : FnD P w K mgf base "grown" 6 none 3 F_grown) : FnOk P w K mgf base (L2.CX P w) 65 f fd ["script"] (spF K mgf none 1 F_law) := by
  have hN := sc_law.nd
  exact fn_rule F sc_law rfl (by decide) (by simp) fun cdv A outer s H E hr =>
  (dss_cons (ds_set (ps_set hN rfl (Or.inr rfl) (de_lstF (da_cons (de_call g__law_digits (hr.mono (by omega)) (takes_of rfl rfl rfl rfl) (da_cons (de_var 0 (pv 0)) (da_cons (de_int) (da_cons (de_int) da_nil)))) (da_cons (de_int) da_nil)))))
  (dss_cons (ds_par2 (ps_par rfl hN (i := 2) (j := 5) rfl rfl (by decide) rfl rfl (da_cons (de_int) (da_cons (de_call g__law_filled (hr.mono (by omega)) (takes_of rfl rfl rfl rfl) (da_cons (de_lstF da_nil) (da_cons (de_lstF (da_cons (de_tup (da_cons (de_int) (da_cons (de_int) da_nil))) da_nil)) (da_cons (de_lstF (da_cons (de_call g__law_pick (hr.mono (by omega)) (takes_of rfl rfl rfl rfl) (da_cons (de_var 4 (pv 4)) (da_cons (de_lstF (da_cons (de_str) (da_cons (de_str) da_nil))) da_nil))) da_nil)) da_nil)))) da_nil)) rfl))
  (dss_cons (ds_for (passes_of rfl) rfl (di_rng1 rfl mg.b_range (da_cons (de_call g__law_draw (hr.mono (by omega)) (takes_of rfl rfl rfl rfl) (da_cons (de_var 4 (pv 4)) (da_cons (de_int) da_nil))) da_nil)) (dg_name (pg_name hN rfl (Or.inl rfl))) (dss_cons (ds_set (ps_set hN rfl (Or.inr rfl) (de_call g__law_squares (hr.mono (by omega)) (takes_of rfl rfl rfl rfl) (da_cons (de_var 2 (pv 2)) (da_cons (de_ix ix_seq ok_ix (de_var 5 (pv 5)) (de_int) (fun _ _ => rfl)) (da_cons (de_lstF (da_cons (de_tup (da_cons (de_str) (da_cons (de_str) da_nil))) (da_cons (de_tup (da_cons (de_str) (da_cons (de_str) da_nil))) da_nil))) da_nil))))))
  (dss_cons (ds_set (ps_set hN rfl (Or.inl rfl) (de_call g__law_moved (hr.mono (by omega)) (takes_of rfl rfl rfl rfl) (da_cons (de_fz (de_lcV [("one", 1)] rfl hN (blkOk_by (N := ["script", "one", "n", "out", "box", "paving", "places", "place", "moved", "words", "due", "power", "turn", "m", "size", "domino", "left", "k"]) (sc := defScope (top 37)) (by decide +kernel)) rfl (by decide) (di_seq (de_ix ix_seq ok_ix (de_var 5 (pv 5)) (de_int) (fun _ _ => rfl))) (fun _ _ _ _ _ => (dg_name (pg_name hN rfl (Or.inl rfl)))) (fun _ _ _ _ _ => (dts_one (dt_cmp (op_notInA (un65 hr)) ok_in (de_var 1 (pv 1)) (de_var 3 (pv 3))))) (fun _ _ _ _ _ => (de_var 1 (pv 1))))) (da_cons (de_var 2 (pv 2)) (da_cons (de_int) (da_cons (de_int) da_nil)))))))
  (dss_cons (ds_set (ps_set hN rfl (Or.inl rfl) (de_call g__law_rooms (hr.mono (by omega)) (takes_of rfl rfl rfl rfl) (da_cons (de_call g__law_diamond (hr.mono (by omega)) (takes_of rfl rfl rfl rfl) (da_cons (de_op op_addA ok_add (de_var 2 (pv 2)) (de_int)) da_nil)) (da_cons (de_var 8 (pv 8)) da_nil)))))
  (dss_cons (ds_if (dt_bo (dw_or (dt_cmp op_isA ok_is (de_var 6 (pv 6)) (de_non)) (dw_or1 (dt_cmp (op_neA hr.units) ok_ne (de_cb ok_len (pe_callB call_len rfl mg.b_len bt_len (da_cons (de_var 6 (pv 6)) da_nil))) (de_op op_addA ok_add (de_op op_addA ok_add (de_var 2 (pv 2)) (de_int)) (de_op op_fdivA ok_fdiv (de_cb ok_len (pe_callB call_len rfl mg.b_len bt_len (da_cons (de_var 3 (pv 3)) da_nil))) (de_int))))))) (dss_one (ds_ret (de_bl))) dss_nil)
  (dss_cons (ds_set (ps_set hN rfl (Or.inl rfl) (de_cb ok_tuple (pe_callTy call_tuple_of rfl mg.b_tuple bt_tuple (da_cons (de_fz (de_lcV [("place", 7)] rfl hN (blkOk_by (N := ["script", "one", "n", "out", "box", "paving", "places", "place", "moved", "words", "due", "power", "turn", "m", "size", "domino", "left", "k"]) (sc := defScope (top 37)) (by decide +kernel)) rfl (by decide) (di_seq (de_var 6 (pv 6))) (fun _ _ _ _ _ => (dg_name (pg_name hN rfl (Or.inl rfl)))) (fun _ _ _ _ _ => dts_nil) (fun _ _ _ _ _ => (de_call g__law_pick (hr.mono (by omega)) takes0 (da_cons (de_var 4 (pv 4)) (da_cons (de_lstF (da_cons (de_str) (da_cons (de_str) da_nil))) da_nil)))))) da_nil)))))
  (dss_cons (ds_set (ps_set hN rfl (Or.inl rfl) (de_call g__law_filled (hr.mono (by omega)) (takes_of rfl rfl rfl rfl) (da_cons (de_var 8 (pv 8)) (da_cons (de_var 6 (pv 6)) (da_cons (de_var 9 (pv 9)) da_nil))))))
  (dss_cons (ds_if (dt_not (dt_tru (de_call g__law_like (hr.mono (by omega)) (takes_of rfl rfl rfl rfl) (da_cons (de_tup (da_cons (de_call g_rooms (hr.mono (by omega)) (takes_of rfl rfl rfl rfl) (da_cons (de_var 2 (pv 2)) (da_cons (de_var 5 (pv 5)) da_nil))) (da_cons (de_call g_grown (hr.mono (by omega)) (takes_of rfl rfl rfl rfl) (da_cons (de_var 2 (pv 2)) (da_cons (de_var 5 (pv 5)) (da_cons (de_var 9 (pv 9)) da_nil)))) da_nil))) (da_cons (de_tup (da_cons (de_var 6 (pv 6)) (da_cons (de_var 10 (pv 10)) da_nil))) da_nil))))) (dss_one (ds_ret (de_bl))) dss_nil)
  (dss_one (ds_par2 (ps_par rfl hN (i := 2) (j := 5) rfl rfl (by decide) rfl rfl (da_cons (de_op op_addA ok_add (de_var 2 (pv 2)) (de_int)) (da_cons (de_var 10 (pv 10)) da_nil)) rfl)))))))))))
  (dss_cons (ds_if (dt_not (dt_tru (de_call g__law_like (hr.mono (by omega)) (takes_of rfl rfl rfl rfl) (da_cons (de_call g_diamond (hr.mono (by omega)) (takes_of rfl rfl rfl rfl) (da_cons (de_var 2 (pv 2)) da_nil)) (da_cons (de_tup (da_cons (de_str) (da_cons (de_call g__law_diamond (hr.mono (by omega)) (takes_of rfl rfl rfl rfl) (da_cons (de_var 2 (pv 2)) da_nil)) da_nil))) da_nil))))) (dss_one (ds_ret (de_bl))) dss_nil)
  (dss_cons (ds_set (ps_set hN rfl (Or.inl rfl) (de_call g__law_pick (hr.mono (by omega)) (takes_of rfl rfl rfl rfl) (da_cons (de_var 4 (pv 4)) (da_cons (de_ix ix_seq ok_ix (de_var 5 (pv 5)) (de_int) (fun _ _ => rfl)) da_nil)))))
  (dss_cons (ds_if (dt_not (dt_tru (de_call g__law_like (hr.mono (by omega)) (takes_of rfl rfl rfl rfl) (da_cons (de_call g_way (hr.mono (by omega)) (takes_of rfl rfl rfl rfl) (da_cons (de_var 2 (pv 2)) (da_cons (de_var 15 (pv 15)) da_nil))) (da_cons (de_call g__law_way (hr.mono (by omega)) (takes_of rfl rfl rfl rfl) (da_cons (de_var 2 (pv 2)) (da_cons (de_var 15 (pv 15)) da_nil))) da_nil))))) (dss_one (ds_ret (de_bl))) dss_nil)
  (dss_cons (ds_if (dt_cmp op_gt (ok_cmp _) (de_var 2 (pv 2)) (de_int)) (dss_cons (ds_set (ps_set hN rfl (Or.inr rfl) (de_call g__law_squares (hr.mono (by omega)) (takes_of rfl rfl rfl rfl) (da_cons (de_var 2 (pv 2)) (da_cons (de_ix ix_seq ok_ix (de_var 5 (pv 5)) (de_int) (fun _ _ => rfl)) (da_cons (de_lstF (da_cons (de_tup (da_cons (de_str) (da_cons (de_str) da_nil))) (da_cons (de_tup (da_cons (de_str) (da_cons (de_str) da_nil))) da_nil))) da_nil))))))
  (dss_cons (ds_set (ps_set hN rfl (Or.inl rfl) (de_call g__law_moved (hr.mono (by omega)) (takes_of rfl rfl rfl rfl) (da_cons (de_fz (de_lcV [("one", 1)] rfl hN (blkOk_by (N := ["script", "one", "n", "out", "box", "paving", "places", "place", "moved", "words", "due", "power", "turn", "m", "size", "domino", "left", "k"]) (sc := defScope (top 37)) (by decide +kernel)) rfl (by decide) (di_seq (de_ix ix_seq ok_ix (de_var 5 (pv 5)) (de_int) (fun _ _ => rfl))) (fun _ _ _ _ _ => (dg_name (pg_name hN rfl (Or.inl rfl)))) (fun _ _ _ _ _ => (dts_one (dt_cmp (op_notInA (un65 hr)) ok_in (de_var 1 (pv 1)) (de_var 3 (pv 3))))) (fun _ _ _ _ _ => (de_var 1 (pv 1))))) (da_cons (de_var 2 (pv 2)) (da_cons (de_op op_sub ok_sub (de_int) (de_int)) (da_cons (de_op op_sub ok_sub (de_int) (de_int)) da_nil)))))))
  (dss_one (ds_if (dt_not (dt_tru (de_call g__law_like (hr.mono (by omega)) (takes_of rfl rfl rfl rfl) (da_cons (de_call g_shrunk (hr.mono (by omega)) (takes_of rfl rfl rfl rfl) (da_cons (de_var 2 (pv 2)) (da_cons (de_var 5 (pv 5)) da_nil))) (da_cons (de_tup (da_cons (de_cb ok_tuple (pe_callTy call_tuple_of rfl mg.b_tuple bt_tuple (da_cons (de_var 16 (pv 16)) da_nil))) (da_cons (de_call g__law_rooms (hr.mono (by omega)) (takes_of rfl rfl rfl rfl) (da_cons (de_call g__law_diamond (hr.mono (by omega)) (takes_of rfl rfl rfl rfl) (da_cons (de_op op_sub ok_sub (de_var 2 (pv 2)) (de_int)) da_nil)) (da_cons (de_var 16 (pv 16)) da_nil))) da_nil))) da_nil))))) (dss_one (ds_ret (de_bl))) dss_nil)))) dss_nil)
  (dss_cons (ds_if (dt_not (dt_tru (de_call g__law_like (hr.mono (by omega)) (takes_of rfl rfl rfl rfl) (da_cons (de_call g_frozen (hr.mono (by omega)) (takes_of rfl rfl rfl rfl) (da_cons (de_var 2 (pv 2)) (da_cons (de_var 5 (pv 5)) da_nil))) (da_cons (de_call g__law_frozen (hr.mono (by omega)) (takes_of rfl rfl rfl rfl) (da_cons (de_var 2 (pv 2)) (da_cons (de_ix ix_seq ok_ix (de_var 5 (pv 5)) (de_int) (fun _ _ => rfl)) da_nil))) da_nil))))) (dss_one (ds_ret (de_bl))) dss_nil)
  (dss_cons (ds_set (ps_set hN rfl (Or.inl rfl) (de_op op_addA ok_add (de_int) (de_call g__law_draw (hr.mono (by omega)) (takes_of rfl rfl rfl rfl) (da_cons (de_var 4 (pv 4)) (da_cons (de_int) da_nil))))))
  (dss_cons (ds_set (ps_set hN rfl (Or.inl rfl) (de_op op_fdivA ok_fdiv (de_op op_mulA ok_mul (de_var 13 (pv 13)) (de_op op_addA ok_add (de_var 13 (pv 13)) (de_int))) (de_int))))
  (dss_cons (ds_set (ps_set hN rfl (Or.inl rfl) (de_op op_mod ok_mod (de_cb ok_int (pe_callTy call_int1 rfl mg.b_int bt_int (da_cons (de_call g__law_draw (hr.mono (by omega)) (takes_of rfl rfl rfl rfl) (da_cons (de_var 4 (pv 4)) (da_cons (de_int) da_nil))) da_nil))) (de_op op_addA ok_add (de_var 14 (pv 14)) (de_int)))))
  (dss_cons (ds_set (ps_set hN rfl (Or.inl rfl) (de_int)))
  (dss_cons (ds_for (passes_of rfl) rfl (di_rng1 rfl mg.b_range (da_cons (de_var 14 (pv 14)) da_nil)) (dg_name (pg_name hN rfl (Or.inl rfl))) (dss_one (ds_set (ps_set hN rfl (Or.inl rfl) (de_op op_mulA ok_mul (de_int) (de_var 11 (pv 11)))))))
  (dss_one (ds_ret (de_call g__law_like (hr.mono (by omega)) (takes_of rfl rfl rfl rfl) (da_cons (de_tup (da_cons (de_call g_how_many_diamond (hr.mono (by omega)) (takes_of rfl rfl rfl rfl) (da_cons (de_var 13 (pv 13)) da_nil)) (da_cons (de_call g_with_level (hr.mono (by omega)) (takes_of rfl rfl rfl rfl) (da_cons (de_var 13 (pv 13)) (da_cons (de_var 17 (pv 17)) da_nil))) da_nil))) (da_cons (de_tup (da_cons (de_var 11 (pv 11)) (da_cons (de_call g__law_chosen (hr.mono (by omega)) (takes_of rfl rfl rfl rfl) (da_cons (de_var 14 (pv 14)) (da_cons (de_var 17 (pv 17)) da_nil))) da_nil))) da_nil))))))))))))))))))
end
theorem all_mk {l : PySem.W.OpenLaw} {w : World} {K : PySem.W.Frag} {h : Heap} {mgf : Str → Option Value} {fa f__law_draw f__law_pick f__law_like f__law_cell f__law_digits f__law_filled f__law_way f__law_squares f__law_step f__law_moved f__law_rooms f__law_diamond f_diamond f_way f_is_at_edge f_moved_by f_frozen_of f_frozen f__law_is_frozen f__law_frozen f_power_of f_how_many_diamond f_with_level f__law_chosen f_partner_of f_without_squares f_free_squares f_shrunk f_slid f_rooms f_filled f_grown f_law : Addr} (X : K.In h) (Gn : h.Ns mainGlobals mgf) (hfa : mgf "law" = some (.ref fa))
    {D_GOING : Addr} {es_GOING : Array DictEntry} {nd_GOING : Nat} {T_1 : Addr} {oT_1 : Option Addr} {nT_1 : Nat} {sT_1 : Array (Option Value)} {tc_2 : Tok} {tc_3 : Tok} {T_4 : Addr} {oT_4 : Option Addr} {nT_4 : Nat} {sT_4 : Array (Option Value)} {tc_5 : Tok} {tc_6 : Tok} {T_7 : Addr} {oT_7 : Option Addr} {nT_7 : Nat} {sT_7 : Array (Option Value)} {tc_8 : Tok} {tc_9 : Tok} {T_10 : Addr} {oT_10 : Option Addr} {nT_10 : Nat} {sT_10 : Array (Option Value)} {tc_11 : Tok} {tc_12 : Tok}
    {od__law_draw an__law_draw od__law_pick an__law_pick od__law_like an__law_like od__law_cell an__law_cell od__law_digits an__law_digits od__law_filled an__law_filled od__law_way an__law_way od__law_squares an__law_squares od__law_step an__law_step od__law_moved an__law_moved od__law_rooms an__law_rooms od__law_diamond an__law_diamond od_diamond an_diamond od_way an_way od_is_at_edge an_is_at_edge od_moved_by an_moved_by od_frozen_of an_frozen_of od_frozen an_frozen od__law_is_frozen an__law_is_frozen od__law_frozen an__law_frozen od_power_of an_power_of od_how_many_diamond an_how_many_diamond od_with_level an_with_level od__law_chosen an__law_chosen od_partner_of an_partner_of od_without_squares an_without_squares od_free_squares an_free_squares od_shrunk an_shrunk od_slid an_slid od_rooms an_rooms od_filled an_filled od_grown an_grown od_law an_law : Option Addr} {sl__law_draw sl__law_pick sl__law_like sl__law_cell sl__law_digits sl__law_filled sl__law_way sl__law_squares sl__law_step sl__law_moved sl__law_rooms sl__law_diamond sl_diamond sl_way sl_is_at_edge sl_moved_by sl_frozen_of sl_frozen sl__law_is_frozen sl__law_frozen sl_power_of sl_how_many_diamond sl_with_level sl__law_chosen sl_partner_of sl_without_squares sl_free_squares sl_shrunk sl_slid sl_rooms sl_filled sl_grown sl_law : Array (Option Value)}
    {oc__law_draw kV__law_draw dc__law_draw pm__law_draw cd__law_draw ct__law_draw oc__law_pick kV__law_pick dc__law_pick pm__law_pick cd__law_pick ct__law_pick oc__law_like kV__law_like dc__law_like pm__law_like cd__law_like ct__law_like oc__law_cell kV__law_cell dc__law_cell pm__law_cell cd__law_cell ct__law_cell oc__law_digits kV__law_digits dc__law_digits pm__law_digits cd__law_digits ct__law_digits oc__law_filled kV__law_filled dc__law_filled pm__law_filled cd__law_filled ct__law_filled oc__law_way kV__law_way dc__law_way pm__law_way cd__law_way ct__law_way oc__law_squares kV__law_squares dc__law_squares pm__law_squares cd__law_squares ct__law_squares oc__law_step kV__law_step dc__law_step pm__law_step cd__law_step ct__law_step oc__law_moved kV__law_moved dc__law_moved pm__law_moved cd__law_moved ct__law_moved oc__law_rooms kV__law_rooms dc__law_rooms pm__law_rooms cd__law_rooms ct__law_rooms oc__law_diamond kV__law_diamond dc__law_diamond pm__law_diamond cd__law_diamond ct__law_diamond oc_diamond kV_diamond dc_diamond pm_diamond cd_diamond ct_diamond oc_way kV_way dc_way pm_way cd_way ct_way oc_is_at_edge kV_is_at_edge dc_is_at_edge pm_is_at_edge cd_is_at_edge ct_is_at_edge oc_moved_by kV_moved_by dc_moved_by pm_moved_by cd_moved_by ct_moved_by oc_frozen_of kV_frozen_of dc_frozen_of pm_frozen_of cd_frozen_of ct_frozen_of oc_frozen kV_frozen dc_frozen pm_frozen cd_frozen ct_frozen oc__law_is_frozen kV__law_is_frozen dc__law_is_frozen pm__law_is_frozen cd__law_is_frozen ct__law_is_frozen oc__law_frozen kV__law_frozen dc__law_frozen pm__law_frozen cd__law_frozen ct__law_frozen oc_power_of kV_power_of dc_power_of pm_power_of cd_power_of ct_power_of oc_how_many_diamond kV_how_many_diamond dc_how_many_diamond pm_how_many_diamond cd_how_many_diamond ct_how_many_diamond oc_with_level kV_with_level dc_with_level pm_with_level cd_with_level ct_with_level oc__law_chosen kV__law_chosen dc__law_chosen pm__law_chosen cd__law_chosen ct__law_chosen oc_partner_of kV_partner_of dc_partner_of pm_partner_of cd_partner_of ct_partner_of oc_without_squares kV_without_squares dc_without_squares pm_without_squares cd_without_squares ct_without_squares oc_free_squares kV_free_squares dc_free_squares pm_free_squares cd_free_squares ct_free_squares oc_shrunk kV_shrunk dc_shrunk pm_shrunk cd_shrunk ct_shrunk oc_slid kV_slid dc_slid pm_slid cd_slid ct_slid oc_rooms kV_rooms dc_rooms pm_rooms cd_rooms ct_rooms oc_filled kV_filled dc_filled pm_filled cd_filled ct_filled oc_grown kV_grown dc_grown pm_grown cd_grown ct_grown oc_law kV_law dc_law pm_law cd_law ct_law : Value}
    (a__law_draw : PySem.W.nsIn K mainGlobals "_law_draw" = some (some (.ref f__law_draw))) (l__law_draw : K.lookup f__law_draw = some ⟨oc__law_draw, od__law_draw, .func (PySem.W.fnOf "_law_draw" "_law_draw" (defArgs (top 24)) (defBody (top 24)) (defScope (top 24)) .none kV__law_draw dc__law_draw pm__law_draw an__law_draw cd__law_draw ct__law_draw), sl__law_draw⟩) (c__law_draw : PySem.W.codeIn K cd__law_draw "_law_draw" = true) (k__law_draw : PySem.W.keepIn K (.ref f__law_draw) = true)
    (a__law_pick : PySem.W.nsIn K mainGlobals "_law_pick" = some (some (.ref f__law_pick))) (l__law_pick : K.lookup f__law_pick = some ⟨oc__law_pick, od__law_pick, .func (PySem.W.fnOf "_law_pick" "_law_pick" (defArgs (top 25)) (defBody (top 25)) (defScope (top 25)) .none kV__law_pick dc__law_pick pm__law_pick an__law_pick cd__law_pick ct__law_pick), sl__law_pick⟩) (c__law_pick : PySem.W.codeIn K cd__law_pick "_law_pick" = true) (k__law_pick : PySem.W.keepIn K (.ref f__law_pick) = true)
    (a__law_like : PySem.W.nsIn K mainGlobals "_law_like" = some (some (.ref f__law_like))) (l__law_like : K.lookup f__law_like = some ⟨oc__law_like, od__law_like, .func (PySem.W.fnOf "_law_like" "_law_like" (defArgs (top 26)) (defBody (top 26)) (defScope (top 26)) .none kV__law_like dc__law_like pm__law_like an__law_like cd__law_like ct__law_like), sl__law_like⟩) (c__law_like : PySem.W.codeIn K cd__law_like "_law_like" = true) (k__law_like : PySem.W.keepIn K (.ref f__law_like) = true)
    (a__law_cell : PySem.W.nsIn K mainGlobals "_law_cell" = some (some (.ref f__law_cell))) (l__law_cell : K.lookup f__law_cell = some ⟨oc__law_cell, od__law_cell, .func (PySem.W.fnOf "_law_cell" "_law_cell" (defArgs (top 22)) (defBody (top 22)) (defScope (top 22)) .none kV__law_cell dc__law_cell pm__law_cell an__law_cell cd__law_cell ct__law_cell), sl__law_cell⟩) (c__law_cell : PySem.W.codeIn K cd__law_cell "_law_cell" = true) (k__law_cell : PySem.W.keepIn K (.ref f__law_cell) = true)
    (a__law_digits : PySem.W.nsIn K mainGlobals "_law_digits" = some (some (.ref f__law_digits))) (l__law_digits : K.lookup f__law_digits = some ⟨oc__law_digits, od__law_digits, .func (PySem.W.fnOf "_law_digits" "_law_digits" (defArgs (top 23)) (defBody (top 23)) (defScope (top 23)) .none kV__law_digits dc__law_digits pm__law_digits an__law_digits cd__law_digits ct__law_digits), sl__law_digits⟩) (c__law_digits : PySem.W.codeIn K cd__law_digits "_law_digits" = true) (k__law_digits : PySem.W.keepIn K (.ref f__law_digits) = true)
    (a__law_filled : PySem.W.nsIn K mainGlobals "_law_filled" = some (some (.ref f__law_filled))) (l__law_filled : K.lookup f__law_filled = some ⟨oc__law_filled, od__law_filled, .func (PySem.W.fnOf "_law_filled" "_law_filled" (defArgs (top 33)) (defBody (top 33)) (defScope (top 33)) .none kV__law_filled dc__law_filled pm__law_filled an__law_filled cd__law_filled ct__law_filled), sl__law_filled⟩) (c__law_filled : PySem.W.codeIn K cd__law_filled "_law_filled" = true) (k__law_filled : PySem.W.keepIn K (.ref f__law_filled) = true)
    (a__law_way : PySem.W.nsIn K mainGlobals "_law_way" = some (some (.ref f__law_way))) (l__law_way : K.lookup f__law_way = some ⟨oc__law_way, od__law_way, .func (PySem.W.fnOf "_law_way" "_law_way" (defArgs (top 28)) (defBody (top 28)) (defScope (top 28)) .none kV__law_way dc__law_way pm__law_way an__law_way cd__law_way ct__law_way), sl__law_way⟩) (c__law_way : PySem.W.codeIn K cd__law_way "_law_way" = true) (k__law_way : PySem.W.keepIn K (.ref f__law_way) = true)
    (a__law_squares : PySem.W.nsIn K mainGlobals "_law_squares" = some (some (.ref f__law_squares))) (l__law_squares : K.lookup f__law_squares = some ⟨oc__law_squares, od__law_squares, .func (PySem.W.fnOf "_law_squares" "_law_squares" (defArgs (top 30)) (defBody (top 30)) (defScope (top 30)) .none kV__law_squares dc__law_squares pm__law_squares an__law_squares cd__law_squares ct__law_squares), sl__law_squares⟩) (c__law_squares : PySem.W.codeIn K cd__law_squares "_law_squares" = true) (k__law_squares : PySem.W.keepIn K (.ref f__law_squares) = true)
    (a__law_step : PySem.W.nsIn K mainGlobals "_law_step" = some (some (.ref f__law_step))) (l__law_step : K.lookup f__law_step = some ⟨oc__law_step, od__law_step, .func (PySem.W.fnOf "_law_step" "_law_step" (defArgs (top 29)) (defBody (top 29)) (defScope (top 29)) .none kV__law_step dc__law_step pm__law_step an__law_step cd__law_step ct__law_step), sl__law_step⟩) (c__law_step : PySem.W.codeIn K cd__law_step "_law_step" = true) (k__law_step : PySem.W.keepIn K (.ref f__law_step) = true)
    (a__law_moved : PySem.W.nsIn K mainGlobals "_law_moved" = some (some (.ref f__law_moved))) (l__law_moved : K.lookup f__law_moved = some ⟨oc__law_moved, od__law_moved, .func (PySem.W.fnOf "_law_moved" "_law_moved" (defArgs (top 31)) (defBody (top 31)) (defScope (top 31)) .none kV__law_moved dc__law_moved pm__law_moved an__law_moved cd__law_moved ct__law_moved), sl__law_moved⟩) (c__law_moved : PySem.W.codeIn K cd__law_moved "_law_moved" = true) (k__law_moved : PySem.W.keepIn K (.ref f__law_moved) = true)
    (a__law_rooms : PySem.W.nsIn K mainGlobals "_law_rooms" = some (some (.ref f__law_rooms))) (l__law_rooms : K.lookup f__law_rooms = some ⟨oc__law_rooms, od__law_rooms, .func (PySem.W.fnOf "_law_rooms" "_law_rooms" (defArgs (top 32)) (defBody (top 32)) (defScope (top 32)) .none kV__law_rooms dc__law_rooms pm__law_rooms an__law_rooms cd__law_rooms ct__law_rooms), sl__law_rooms⟩) (c__law_rooms : PySem.W.codeIn K cd__law_rooms "_law_rooms" = true) (k__law_rooms : PySem.W.keepIn K (.ref f__law_rooms) = true)
    (a__law_diamond : PySem.W.nsIn K mainGlobals "_law_diamond" = some (some (.ref f__law_diamond))) (l__law_diamond : K.lookup f__law_diamond = some ⟨oc__law_diamond, od__law_diamond, .func (PySem.W.fnOf "_law_diamond" "_law_diamond" (defArgs (top 27)) (defBody (top 27)) (defScope (top 27)) .none kV__law_diamond dc__law_diamond pm__law_diamond an__law_diamond cd__law_diamond ct__law_diamond), sl__law_diamond⟩) (c__law_diamond : PySem.W.codeIn K cd__law_diamond "_law_diamond" = true) (k__law_diamond : PySem.W.keepIn K (.ref f__law_diamond) = true)
    (a_diamond : PySem.W.nsIn K mainGlobals "diamond" = some (some (.ref f_diamond))) (l_diamond : K.lookup f_diamond = some ⟨oc_diamond, od_diamond, .func (PySem.W.fnOf "diamond" "diamond" (defArgs (top 5)) (defBody (top 5)) (defScope (top 5)) .none kV_diamond dc_diamond pm_diamond an_diamond cd_diamond ct_diamond), sl_diamond⟩) (c_diamond : PySem.W.codeIn K cd_diamond "diamond" = true) (k_diamond : PySem.W.keepIn K (.ref f_diamond) = true)
    (a_way : PySem.W.nsIn K mainGlobals "way" = some (some (.ref f_way))) (l_way : K.lookup f_way = some ⟨oc_way, od_way, .func (PySem.W.fnOf "way" "way" (defArgs (top 6)) (defBody (top 6)) (defScope (top 6)) .none kV_way dc_way pm_way an_way cd_way ct_way), sl_way⟩) (c_way : PySem.W.codeIn K cd_way "way" = true) (k_way : PySem.W.keepIn K (.ref f_way) = true)
    (a_is_at_edge : PySem.W.nsIn K mainGlobals "is_at_edge" = some (some (.ref f_is_at_edge))) (l_is_at_edge : K.lookup f_is_at_edge = some ⟨oc_is_at_edge, od_is_at_edge, .func (PySem.W.fnOf "is_at_edge" "is_at_edge" (defArgs (top 16)) (defBody (top 16)) (defScope (top 16)) .none kV_is_at_edge dc_is_at_edge pm_is_at_edge an_is_at_edge cd_is_at_edge ct_is_at_edge), sl_is_at_edge⟩) (c_is_at_edge : PySem.W.codeIn K cd_is_at_edge "is_at_edge" = true) (k_is_at_edge : PySem.W.keepIn K (.ref f_is_at_edge) = true)
    (a_moved_by : PySem.W.nsIn K mainGlobals "moved_by" = some (some (.ref f_moved_by))) (l_moved_by : K.lookup f_moved_by = some ⟨oc_moved_by, od_moved_by, .func (PySem.W.fnOf "moved_by" "moved_by" (defArgs (top 9)) (defBody (top 9)) (defScope (top 9)) .none kV_moved_by dc_moved_by pm_moved_by an_moved_by cd_moved_by ct_moved_by), sl_moved_by⟩) (c_moved_by : PySem.W.codeIn K cd_moved_by "moved_by" = true) (k_moved_by : PySem.W.keepIn K (.ref f_moved_by) = true)
    (a_frozen_of : PySem.W.nsIn K mainGlobals "frozen_of" = some (some (.ref f_frozen_of))) (l_frozen_of : K.lookup f_frozen_of = some ⟨oc_frozen_of, od_frozen_of, .func (PySem.W.fnOf "frozen_of" "frozen_of" (defArgs (top 17)) (defBody (top 17)) (defScope (top 17)) .none kV_frozen_of dc_frozen_of pm_frozen_of an_frozen_of cd_frozen_of ct_frozen_of), sl_frozen_of⟩) (c_frozen_of : PySem.W.codeIn K cd_frozen_of "frozen_of" = true) (k_frozen_of : PySem.W.keepIn K (.ref f_frozen_of) = true)
    (a_frozen : PySem.W.nsIn K mainGlobals "frozen" = some (some (.ref f_frozen))) (l_frozen : K.lookup f_frozen = some ⟨oc_frozen, od_frozen, .func (PySem.W.fnOf "frozen" "frozen" (defArgs (top 18)) (defBody (top 18)) (defScope (top 18)) .none kV_frozen dc_frozen pm_frozen an_frozen cd_frozen ct_frozen), sl_frozen⟩) (c_frozen : PySem.W.codeIn K cd_frozen "frozen" = true) (k_frozen : PySem.W.keepIn K (.ref f_frozen) = true)
    (a__law_is_frozen : PySem.W.nsIn K mainGlobals "_law_is_frozen" = some (some (.ref f__law_is_frozen))) (l__law_is_frozen : K.lookup f__law_is_frozen = some ⟨oc__law_is_frozen, od__law_is_frozen, .func (PySem.W.fnOf "_law_is_frozen" "_law_is_frozen" (defArgs (top 35)) (defBody (top 35)) (defScope (top 35)) .none kV__law_is_frozen dc__law_is_frozen pm__law_is_frozen an__law_is_frozen cd__law_is_frozen ct__law_is_frozen), sl__law_is_frozen⟩) (c__law_is_frozen : PySem.W.codeIn K cd__law_is_frozen "_law_is_frozen" = true) (k__law_is_frozen : PySem.W.keepIn K (.ref f__law_is_frozen) = true)
    (a__law_frozen : PySem.W.nsIn K mainGlobals "_law_frozen" = some (some (.ref f__law_frozen))) (l__law_frozen : K.lookup f__law_frozen = some ⟨oc__law_frozen, od__law_frozen, .func (PySem.W.fnOf "_law_frozen" "_law_frozen" (defArgs (top 34)) (defBody (top 34)) (defScope (top 34)) .none kV__law_frozen dc__law_frozen pm__law_frozen an__law_frozen cd__law_frozen ct__law_frozen), sl__law_frozen⟩) (c__law_frozen : PySem.W.codeIn K cd__law_frozen "_law_frozen" = true) (k__law_frozen : PySem.W.keepIn K (.ref f__law_frozen) = true)
    (a_power_of : PySem.W.nsIn K mainGlobals "power_of" = some (some (.ref f_power_of))) (l_power_of : K.lookup f_power_of = some ⟨oc_power_of, od_power_of, .func (PySem.W.fnOf "power_of" "power_of" (defArgs (top 2)) (defBody (top 2)) (defScope (top 2)) .none kV_power_of dc_power_of pm_power_of an_power_of cd_power_of ct_power_of), sl_power_of⟩) (c_power_of : PySem.W.codeIn K cd_power_of "power_of" = true) (k_power_of : PySem.W.keepIn K (.ref f_power_of) = true)
    (a_how_many_diamond : PySem.W.nsIn K mainGlobals "how_many_diamond" = some (some (.ref f_how_many_diamond))) (l_how_many_diamond : K.lookup f_how_many_diamond = some ⟨oc_how_many_diamond, od_how_many_diamond, .func (PySem.W.fnOf "how_many_diamond" "how_many_diamond" (defArgs (top 19)) (defBody (top 19)) (defScope (top 19)) .none kV_how_many_diamond dc_how_many_diamond pm_how_many_diamond an_how_many_diamond cd_how_many_diamond ct_how_many_diamond), sl_how_many_diamond⟩) (c_how_many_diamond : PySem.W.codeIn K cd_how_many_diamond "how_many_diamond" = true) (k_how_many_diamond : PySem.W.keepIn K (.ref f_how_many_diamond) = true)
    (a_with_level : PySem.W.nsIn K mainGlobals "with_level" = some (some (.ref f_with_level))) (l_with_level : K.lookup f_with_level = some ⟨oc_with_level, od_with_level, .func (PySem.W.fnOf "with_level" "with_level" (defArgs (top 20)) (defBody (top 20)) (defScope (top 20)) .none kV_with_level dc_with_level pm_with_level an_with_level cd_with_level ct_with_level), sl_with_level⟩) (c_with_level : PySem.W.codeIn K cd_with_level "with_level" = true) (k_with_level : PySem.W.keepIn K (.ref f_with_level) = true)
    (a__law_chosen : PySem.W.nsIn K mainGlobals "_law_chosen" = some (some (.ref f__law_chosen))) (l__law_chosen : K.lookup f__law_chosen = some ⟨oc__law_chosen, od__law_chosen, .func (PySem.W.fnOf "_law_chosen" "_law_chosen" (defArgs (top 36)) (defBody (top 36)) (defScope (top 36)) .none kV__law_chosen dc__law_chosen pm__law_chosen an__law_chosen cd__law_chosen ct__law_chosen), sl__law_chosen⟩) (c__law_chosen : PySem.W.codeIn K cd__law_chosen "_law_chosen" = true) (k__law_chosen : PySem.W.keepIn K (.ref f__law_chosen) = true)
    (a_partner_of : PySem.W.nsIn K mainGlobals "partner_of" = some (some (.ref f_partner_of))) (l_partner_of : K.lookup f_partner_of = some ⟨oc_partner_of, od_partner_of, .func (PySem.W.fnOf "partner_of" "partner_of" (defArgs (top 7)) (defBody (top 7)) (defScope (top 7)) .none kV_partner_of dc_partner_of pm_partner_of an_partner_of cd_partner_of ct_partner_of), sl_partner_of⟩) (c_partner_of : PySem.W.codeIn K cd_partner_of "partner_of" = true) (k_partner_of : PySem.W.keepIn K (.ref f_partner_of) = true)
    (a_without_squares : PySem.W.nsIn K mainGlobals "without_squares" = some (some (.ref f_without_squares))) (l_without_squares : K.lookup f_without_squares = some ⟨oc_without_squares, od_without_squares, .func (PySem.W.fnOf "without_squares" "without_squares" (defArgs (top 8)) (defBody (top 8)) (defScope (top 8)) .none kV_without_squares dc_without_squares pm_without_squares an_without_squares cd_without_squares ct_without_squares), sl_without_squares⟩) (c_without_squares : PySem.W.codeIn K cd_without_squares "without_squares" = true) (k_without_squares : PySem.W.keepIn K (.ref f_without_squares) = true)
    (a_free_squares : PySem.W.nsIn K mainGlobals "free_squares" = some (some (.ref f_free_squares))) (l_free_squares : K.lookup f_free_squares = some ⟨oc_free_squares, od_free_squares, .func (PySem.W.fnOf "free_squares" "free_squares" (defArgs (top 10)) (defBody (top 10)) (defScope (top 10)) .none kV_free_squares dc_free_squares pm_free_squares an_free_squares cd_free_squares ct_free_squares), sl_free_squares⟩) (c_free_squares : PySem.W.codeIn K cd_free_squares "free_squares" = true) (k_free_squares : PySem.W.keepIn K (.ref f_free_squares) = true)
    (a_shrunk : PySem.W.nsIn K mainGlobals "shrunk" = some (some (.ref f_shrunk))) (l_shrunk : K.lookup f_shrunk = some ⟨oc_shrunk, od_shrunk, .func (PySem.W.fnOf "shrunk" "shrunk" (defArgs (top 15)) (defBody (top 15)) (defScope (top 15)) .none kV_shrunk dc_shrunk pm_shrunk an_shrunk cd_shrunk ct_shrunk), sl_shrunk⟩) (c_shrunk : PySem.W.codeIn K cd_shrunk "shrunk" = true) (k_shrunk : PySem.W.keepIn K (.ref f_shrunk) = true)
    (a_slid : PySem.W.nsIn K mainGlobals "slid" = some (some (.ref f_slid))) (l_slid : K.lookup f_slid = some ⟨oc_slid, od_slid, .func (PySem.W.fnOf "slid" "slid" (defArgs (top 11)) (defBody (top 11)) (defScope (top 11)) .none kV_slid dc_slid pm_slid an_slid cd_slid ct_slid), sl_slid⟩) (c_slid : PySem.W.codeIn K cd_slid "slid" = true) (k_slid : PySem.W.keepIn K (.ref f_slid) = true)
    (a_rooms : PySem.W.nsIn K mainGlobals "rooms" = some (some (.ref f_rooms))) (l_rooms : K.lookup f_rooms = some ⟨oc_rooms, od_rooms, .func (PySem.W.fnOf "rooms" "rooms" (defArgs (top 12)) (defBody (top 12)) (defScope (top 12)) .none kV_rooms dc_rooms pm_rooms an_rooms cd_rooms ct_rooms), sl_rooms⟩) (c_rooms : PySem.W.codeIn K cd_rooms "rooms" = true) (k_rooms : PySem.W.keepIn K (.ref f_rooms) = true)
    (a_filled : PySem.W.nsIn K mainGlobals "filled" = some (some (.ref f_filled))) (l_filled : K.lookup f_filled = some ⟨oc_filled, od_filled, .func (PySem.W.fnOf "filled" "filled" (defArgs (top 13)) (defBody (top 13)) (defScope (top 13)) .none kV_filled dc_filled pm_filled an_filled cd_filled ct_filled), sl_filled⟩) (c_filled : PySem.W.codeIn K cd_filled "filled" = true) (k_filled : PySem.W.keepIn K (.ref f_filled) = true)
    (a_grown : PySem.W.nsIn K mainGlobals "grown" = some (some (.ref f_grown))) (l_grown : K.lookup f_grown = some ⟨oc_grown, od_grown, .func (PySem.W.fnOf "grown" "grown" (defArgs (top 14)) (defBody (top 14)) (defScope (top 14)) .none kV_grown dc_grown pm_grown an_grown cd_grown ct_grown), sl_grown⟩) (c_grown : PySem.W.codeIn K cd_grown "grown" = true) (k_grown : PySem.W.keepIn K (.ref f_grown) = true)
    (a_law : PySem.W.nsIn K mainGlobals "law" = some (some (.ref f_law))) (l_law : K.lookup f_law = some ⟨oc_law, od_law, .func (PySem.W.fnOf "law" "law" (defArgs (top 37)) (defBody (top 37)) (defScope (top 37)) .none kV_law dc_law pm_law an_law cd_law ct_law), sl_law⟩) (c_law : PySem.W.codeIn K cd_law "law" = true) (k_law : PySem.W.keepIn K (.ref f_law) = true)
    (z_all : PySem.W.nsIn K mainGlobals "all" = some none)
    (z_bool : PySem.W.nsIn K mainGlobals "bool" = some none)
    (z_int : PySem.W.nsIn K mainGlobals "int" = some none)
    (z_isinstance : PySem.W.nsIn K mainGlobals "isinstance" = some none)
    (z_len : PySem.W.nsIn K mainGlobals "len" = some none)
    (z_list : PySem.W.nsIn K mainGlobals "list" = some none)
    (z_max : PySem.W.nsIn K mainGlobals "max" = some none)
    (z_min : PySem.W.nsIn K mainGlobals "min" = some none)
    (z_range : PySem.W.nsIn K mainGlobals "range" = some none)
    (z_sorted : PySem.W.nsIn K mainGlobals "sorted" = some none)
    (z_str : PySem.W.nsIn K mainGlobals "str" = some none)
    (z_tuple : PySem.W.nsIn K mainGlobals "tuple" = some none)
    (z_zip : PySem.W.nsIn K mainGlobals "zip" = some none)
    (y_comb : PySem.W.nsIn K mainGlobals "comb" = some (some (.builtin "math.comb")))
    (a_GOING : PySem.W.nsIn K mainGlobals "GOING" = some (some (.ref D_GOING)))
    (lk_GOING : K.lookup D_GOING = some ⟨.type "dict", none, .dict es_GOING nd_GOING, #[]⟩)
    (kl_GOING : PySem.W.KeysLit w.params es_GOING.toList)
    (e_GOING_0 : PySem.W.nsIn K D_GOING "up" = some (some (.ref T_1)))
    (hT_1 : K.lookup T_1 = some ⟨.type "tuple", oT_1, .seq #[.int (-1) tc_2, .int 0 tc_3] nT_1, sT_1⟩)
    (e_GOING_1 : PySem.W.nsIn K D_GOING "right" = some (some (.ref T_4)))
    (hT_4 : K.lookup T_4 = some ⟨.type "tuple", oT_4, .seq #[.int 0 tc_5, .int 1 tc_6] nT_4, sT_4⟩)
    (e_GOING_2 : PySem.W.nsIn K D_GOING "down" = some (some (.ref T_7)))
    (hT_7 : K.lookup T_7 = some ⟨.type "tuple", oT_7, .seq #[.int 1 tc_8, .int 0 tc_9] nT_7, sT_7⟩)
    (e_GOING_3 : PySem.W.nsIn K D_GOING "left" = some (some (.ref T_10)))
    (hT_10 : K.lookup T_10 = some ⟨.type "tuple", oT_10, .seq #[.int 0 tc_11, .int (-1) tc_12] nT_10, sT_10⟩)
    : ∃ fd : FuncData, (∀ (s : Shared) (v : Value), BindsTo s fd ⟨[v], []⟩ [("script", v)]) ∧ ∀ base : Heap, K.In base → base.Ns mainGlobals mgf → FnOk l.prog w K mgf base (L2.CX l.prog w) 65 fa fd ["script"] (spF K mgf none 1 F_law) := by
  have e := hfa.symm.trans (PySem.W.mg_of X Gn a_law)
  cases e
  have mg : Mg w K mgf := ⟨PySem.W.mg_none_of X Gn z_all, PySem.W.mg_none_of X Gn z_bool, PySem.W.mg_none_of X Gn z_int, PySem.W.mg_none_of X Gn z_isinstance, PySem.W.mg_none_of X Gn z_len, PySem.W.mg_none_of X Gn z_list, PySem.W.mg_none_of X Gn z_max, PySem.W.mg_none_of X Gn z_min, PySem.W.mg_none_of X Gn z_range, PySem.W.mg_none_of X Gn z_sorted, PySem.W.mg_none_of X Gn z_str, PySem.W.mg_none_of X Gn z_tuple, PySem.W.mg_none_of X Gn z_zip, PySem.W.mg_of X Gn y_comb, gdk_mk (PySem.W.mg_of X Gn a_GOING) (fun p hp => by simp only [C_GOING, List.mem_cons, List.not_mem_nil, or_false] at hp; rcases hp with rfl | rfl | rfl | rfl <;> first | exact kdct_mk lk_GOING kl_GOING e_GOING_0 (.tup hT_1 (by rw [sizeLine_eq]; exact Nat.le_of_ble_eq_true rfl) rfl (kv_cons (.int _ _) (kv_cons (.int _ _) kv_nil))) | exact kdct_mk lk_GOING kl_GOING e_GOING_1 (.tup hT_4 (by rw [sizeLine_eq]; exact Nat.le_of_ble_eq_true rfl) rfl (kv_cons (.int _ _) (kv_cons (.int _ _) kv_nil))) | exact kdct_mk lk_GOING kl_GOING e_GOING_2 (.tup hT_7 (by rw [sizeLine_eq]; exact Nat.le_of_ble_eq_true rfl) rfl (kv_cons (.int _ _) (kv_cons (.int _ _) kv_nil))) | exact kdct_mk lk_GOING kl_GOING e_GOING_3 (.tup hT_10 (by rw [sizeLine_eq]; exact Nat.le_of_ble_eq_true rfl) rfl (kv_cons (.int _ _) (kv_cons (.int _ _) kv_nil))))⟩
  have U__law_draw := fun_mk (st := top 24) l__law_draw c__law_draw k__law_draw
  have U__law_pick := fun_mk (st := top 25) l__law_pick c__law_pick k__law_pick
  have U__law_like := fun_mk (st := top 26) l__law_like c__law_like k__law_like
  have U__law_cell := fun_mk (st := top 22) l__law_cell c__law_cell k__law_cell
  have U__law_digits := fun_mk (st := top 23) l__law_digits c__law_digits k__law_digits
  have U__law_filled := fun_mk (st := top 33) l__law_filled c__law_filled k__law_filled
  have U__law_way := fun_mk (st := top 28) l__law_way c__law_way k__law_way
  have U__law_squares := fun_mk (st := top 30) l__law_squares c__law_squares k__law_squares
  have U__law_step := fun_mk (st := top 29) l__law_step c__law_step k__law_step
  have U__law_moved := fun_mk (st := top 31) l__law_moved c__law_moved k__law_moved
  have U__law_rooms := fun_mk (st := top 32) l__law_rooms c__law_rooms k__law_rooms
  have U__law_diamond := fun_mk (st := top 27) l__law_diamond c__law_diamond k__law_diamond
  have U_diamond := fun_mk (st := top 5) l_diamond c_diamond k_diamond
  have U_way := fun_mk (st := top 6) l_way c_way k_way
  have U_is_at_edge := fun_mk (st := top 16) l_is_at_edge c_is_at_edge k_is_at_edge
  have U_moved_by := fun_mk (st := top 9) l_moved_by c_moved_by k_moved_by
  have U_frozen_of := fun_mk (st := top 17) l_frozen_of c_frozen_of k_frozen_of
  have U_frozen := fun_mk (st := top 18) l_frozen c_frozen k_frozen
  have U__law_is_frozen := fun_mk (st := top 35) l__law_is_frozen c__law_is_frozen k__law_is_frozen
  have U__law_frozen := fun_mk (st := top 34) l__law_frozen c__law_frozen k__law_frozen
  have U_power_of := fun_mk (st := top 2) l_power_of c_power_of k_power_of
  have U_how_many_diamond := fun_mk (st := top 19) l_how_many_diamond c_how_many_diamond k_how_many_diamond
  have U_with_level := fun_mk (st := top 20) l_with_level c_with_level k_with_level
  have U__law_chosen := fun_mk (st := top 36) l__law_chosen c__law_chosen k__law_chosen
  have U_partner_of := fun_mk (st := top 7) l_partner_of c_partner_of k_partner_of
  have U_without_squares := fun_mk (st := top 8) l_without_squares c_without_squares k_without_squares
  have U_free_squares := fun_mk (st := top 10) l_free_squares c_free_squares k_free_squares
  have U_shrunk := fun_mk (st := top 15) l_shrunk c_shrunk k_shrunk
  have U_slid := fun_mk (st := top 11) l_slid c_slid k_slid
  have U_rooms := fun_mk (st := top 12) l_rooms c_rooms k_rooms
  have U_filled := fun_mk (st := top 13) l_filled c_filled k_filled
  have U_grown := fun_mk (st := top 14) l_grown c_grown k_grown
  have U_law := fun_mk (st := top 37) l_law c_law k_law
  refine ⟨PySem.W.fnOf "law" "law" (defArgs (top 37)) (defBody (top 37)) (defScope (top 37)) .none kV_law dc_law pm_law an_law cd_law ct_law, fun s v => .of_eq rfl, fun base _ _ => ?_⟩
  have H1 : FnOk l.prog w K mgf base (L2.CX l.prog w) 65 fa (PySem.W.fnOf "law" "law" (defArgs (top 37)) (defBody (top 37)) (defScope (top 37)) .none kV_law dc_law pm_law an_law cd_law ct_law) ["script"] (spF K mgf none 1 F_law) := by
    have d__law_draw := ok__law_draw (P := l.prog) (w := w) (base := base) mg U__law_draw (PySem.W.mg_of X Gn a__law_draw) 
    have d__law_pick := ok__law_pick (P := l.prog) (w := w) (base := base) mg U__law_pick (PySem.W.mg_of X Gn a__law_pick)  d__law_draw
    have d__law_like : FnD l.prog w K mgf base "_law_like" 64 none 2 (F__law_like 64) := FnD.mono (by decide) <| ok__law_like (P := l.prog) (w := w) (base := base) mg U__law_like (PySem.W.mg_of X Gn a__law_like)  64
    have d__law_cell := ok__law_cell (P := l.prog) (w := w) (base := base) mg U__law_cell (PySem.W.mg_of X Gn a__law_cell) 
    have d__law_digits := ok__law_digits (P := l.prog) (w := w) (base := base) mg U__law_digits (PySem.W.mg_of X Gn a__law_digits)  d__law_cell
    have d__law_filled := ok__law_filled (P := l.prog) (w := w) (base := base) mg U__law_filled (PySem.W.mg_of X Gn a__law_filled) 
    have d__law_way := ok__law_way (P := l.prog) (w := w) (base := base) mg U__law_way (PySem.W.mg_of X Gn a__law_way) 
    have d__law_squares := ok__law_squares (P := l.prog) (w := w) (base := base) mg U__law_squares (PySem.W.mg_of X Gn a__law_squares)  d__law_way
    have d__law_step := ok__law_step (P := l.prog) (w := w) (base := base) mg U__law_step (PySem.W.mg_of X Gn a__law_step) 
    have d__law_moved := ok__law_moved (P := l.prog) (w := w) (base := base) mg U__law_moved (PySem.W.mg_of X Gn a__law_moved)  d__law_step d__law_way
    have d__law_rooms := ok__law_rooms (P := l.prog) (w := w) (base := base) mg U__law_rooms (PySem.W.mg_of X Gn a__law_rooms) 
    have d__law_diamond := ok__law_diamond (P := l.prog) (w := w) (base := base) mg U__law_diamond (PySem.W.mg_of X Gn a__law_diamond) 
    have d_diamond := ok_diamond (P := l.prog) (w := w) (base := base) mg U_diamond (PySem.W.mg_of X Gn a_diamond) 
    have d_way := ok_way (P := l.prog) (w := w) (base := base) mg U_way (PySem.W.mg_of X Gn a_way) 
    have d_is_at_edge := ok_is_at_edge (P := l.prog) (w := w) (base := base) mg U_is_at_edge (PySem.W.mg_of X Gn a_is_at_edge) 
    have d_moved_by := ok_moved_by (P := l.prog) (w := w) (base := base) mg U_moved_by (PySem.W.mg_of X Gn a_moved_by) 
    have d_frozen_of := ok_frozen_of (P := l.prog) (w := w) (base := base) mg U_frozen_of (PySem.W.mg_of X Gn a_frozen_of)  d_way d_is_at_edge d_moved_by
    have d_frozen := ok_frozen (P := l.prog) (w := w) (base := base) mg U_frozen (PySem.W.mg_of X Gn a_frozen)  d_frozen_of
    have d__law_is_frozen := ok__law_is_frozen (P := l.prog) (w := w) (base := base) mg U__law_is_frozen (PySem.W.mg_of X Gn a__law_is_frozen) 
    have d__law_frozen := ok__law_frozen (P := l.prog) (w := w) (base := base) mg U__law_frozen (PySem.W.mg_of X Gn a__law_frozen)  d__law_diamond d__law_step d__law_way d__law_is_frozen
    have d_power_of := ok_power_of (P := l.prog) (w := w) (base := base) mg U_power_of (PySem.W.mg_of X Gn a_power_of) 
    have d_how_many_diamond := ok_how_many_diamond (P := l.prog) (w := w) (base := base) mg U_how_many_diamond (PySem.W.mg_of X Gn a_how_many_diamond)  d_power_of
    have d_with_level := ok_with_level (P := l.prog) (w := w) (base := base) mg U_with_level (PySem.W.mg_of X Gn a_with_level) 
    have d__law_chosen := ok__law_chosen (P := l.prog) (w := w) (base := base) mg U__law_chosen (PySem.W.mg_of X Gn a__law_chosen) 
    have d_partner_of := ok_partner_of (P := l.prog) (w := w) (base := base) mg U_partner_of (PySem.W.mg_of X Gn a_partner_of)  d_way
    have d_without_squares := ok_without_squares (P := l.prog) (w := w) (base := base) mg U_without_squares (PySem.W.mg_of X Gn a_without_squares)  d_partner_of
    have d_free_squares := ok_free_squares (P := l.prog) (w := w) (base := base) mg U_free_squares (PySem.W.mg_of X Gn a_free_squares)  d_diamond
    have d_shrunk := ok_shrunk (P := l.prog) (w := w) (base := base) mg U_shrunk (PySem.W.mg_of X Gn a_shrunk)  d_without_squares d_way d_moved_by d_free_squares
    have d_slid := ok_slid (P := l.prog) (w := w) (base := base) mg U_slid (PySem.W.mg_of X Gn a_slid)  d_without_squares d_way d_moved_by
    have d_rooms := ok_rooms (P := l.prog) (w := w) (base := base) mg U_rooms (PySem.W.mg_of X Gn a_rooms)  d_free_squares d_slid
    have d_filled := ok_filled (P := l.prog) (w := w) (base := base) mg U_filled (PySem.W.mg_of X Gn a_filled) 
    have d_grown := ok_grown (P := l.prog) (w := w) (base := base) mg U_grown (PySem.W.mg_of X Gn a_grown)  d_slid d_rooms d_filled
    exact ok_law (P := l.prog) (w := w) (base := base) mg U_law  d__law_pick d__law_like d__law_digits d__law_filled d__law_draw d__law_squares d__law_moved d__law_rooms d__law_diamond d_diamond d_way d__law_way d_frozen d__law_frozen d_how_many_diamond d_with_level d__law_chosen d_shrunk d_rooms d_grown
  exact H1
end K10
namespace K10
open PySem PySem.Spec L2 Lay
mutual
def sameD : Dat → Dat → Bool
  | .non, .non => true
  | .bl a, .bl b => a == b
  | .int i, .int j => decide (i = j)
  | .str s, .str t => decide (s = t)
  | .tup xs, .tup ys => sameDs xs ys
  | _, _ => false
def sameDs : List Dat → List Dat → Bool
  | [], [] => true
  | x :: xs, y :: ys => sameD x y && sameDs xs ys
  | _, _ => false
end
mutual
theorem sameD_eq : ∀ (a b : Dat), sameD a b = true → a = b
  | .non, .non, _ => rfl
  | .bl a, .bl b, h => by unfold sameD at h; rw [eq_of_beq h]
  | .int i, .int j, h => by unfold sameD at h; rw [of_decide_eq_true h]
  | .str s, .str t, h => by unfold sameD at h; rw [of_decide_eq_true h]
  | .tup xs, .tup ys, h => by unfold sameD at h; rw [sameDs_eq xs ys h]
  | .lst _, b, h => by cases b <;> cases h
  | .dic _, b, h => by cases b <;> cases h
  | .kst _, b, h => by cases b <;> cases h
  | .non, .bl _, h => by cases h
  | .non, .int _, h => by cases h
  | .non, .str _, h => by cases h
  | .non, .tup _, h => by cases h
  | .non, .lst _, h => by cases h
  | .non, .dic _, h => by cases h
  | .non, .kst _, h => by cases h
  | .bl _, .non, h => by cases h
  | .bl _, .int _, h => by cases h
  | .bl _, .str _, h => by cases h
  | .bl _, .tup _, h => by cases h
  | .bl _, .lst _, h => by cases h
  | .bl _, .dic _, h => by cases h
  | .bl _, .kst _, h => by cases h
  | .int _, .non, h => by cases h
  | .int _, .bl _, h => by cases h
  | .int _, .str _, h => by cases h
  | .int _, .tup _, h => by cases h
  | .int _, .lst _, h => by cases h
  | .int _, .dic _, h => by cases h
  | .int _, .kst _, h => by cases h
  | .str _, .non, h => by cases h
  | .str _, .bl _, h => by cases h
  | .str _, .int _, h => by cases h
  | .str _, .tup _, h => by cases h
  | .str _, .lst _, h => by cases h
  | .str _, .dic _, h => by cases h
  | .str _, .kst _, h => by cases h
  | .tup _, .non, h => by cases h
  | .tup _, .bl _, h => by cases h
  | .tup _, .int _, h => by cases h
  | .tup _, .str _, h => by cases h
  | .tup _, .lst _, h => by cases h
  | .tup _, .dic _, h => by cases h
  | .tup _, .kst _, h => by cases h
theorem sameDs_eq : ∀ (a b : List Dat), sameDs a b = true → a = b
  | [], [], _ => rfl
  | x :: xs, y :: ys, h => by
    unfold sameDs at h
    rw [Bool.and_eq_true] at h
    rw [sameD_eq x y h.1, sameDs_eq xs ys h.2]
  | [], _ :: _, h => by cases h
  | _ :: _, [], h => by cases h
end
/-- a def's answer, if it gives one and changes nothing -/
def ev (F : FD) (as : List OT) : Option OT := match F as with
  | .ok o (.fz .non) => some o
  | _ => none
def evD (F : FD) (as : List OT) : Option Dat := match ev F as with
  | some (.fz d) => some d
  | _ => none
def evL (F : FD) (as : List OT) : Option (List Dat) := match ev F as with
  | some (.lst os) => allFz os
  | _ => none
def nI (i : Int) : OT := .fz (.int i)
def pav (ds : List Dat) : Dat := .tup [.str "paving", .tup ds]
def P1 : OT := .fz (.lst [.tup [.str "down", .str "up"], .tup [.str "right", .str "left"]])
def P2 : OT := .fz (.lst [.tup [.str "up", .str "down"], .tup [.str "left", .str "right"]])
def rest (ds out : List Dat) : OT := .fz (.lst (ds.filter fun d => !anyEq out d))
def wordsN : Nat → List (List Dat)
  | 0 => [[]]
  | n + 1 => (wordsN n).map (fun w => .str "level" :: w) ++ (wordsN n).map (fun w => .str "upright" :: w)
/-- a paving grown: out, moved, places -/
def gr1 (n : Int) (ds : List Dat) : Option (List Dat × List Dat × List Dat) := do
  let out ← evL F__law_squares [nI n, .fz (.tup ds), P1]
  let mv ← evL F__law_moved [rest ds out, nI n, nI 1, nI 1]
  let cells ← evD F__law_diamond [nI (n + 1)]
  match ← evD F__law_rooms [.fz cells, .fz (.lst mv)] with
  | .tup places => if decide ((places.length : Int) = n + 1 + (out.length : Int) / 2) && (solids out && solids mv && solid cells && solids places && cmpOks 60 out && decide (places.length ≤ 12)) then some (out, mv, places) else none
  | _ => none
def gr2 (mv places : List Dat) (ws : List Dat) : Option (List Dat) := match evD F__law_filled [.fz (.lst mv), .fz (.tup places), .fz (.tup ws)] with
  | some (.tup [.str _, .tup ds]) => some ds
  | _ => none
def grow (dss : List (List Dat)) (n : Int) : List (List Dat) := dss.flatMap fun ds => match gr1 n ds with
  | some (_, mv, places) => (wordsN places.length).filterMap fun ws => gr2 mv places ws
  | none => []
def first (w : Str) : Option (List Dat) := match evD F__law_filled [.fz (.lst []), .fz (.lst [.tup [.int 0, .int 0]]), .fz (.lst [.str w])] with
  | some (.tup [.str _, .tup ds]) => some ds
  | _ => none
/-- a domino, told shortly -/
def dom (k : Nat) : Dat := 
  let r := k / 20; let c := k / 2 % 10
  if k % 2 = 0 then .tup [.tup [.int r, .int c], .tup [.int r, .int (c + 1)]] else .tup [.tup [.int r, .int c], .tup [.int (r + 1), .int c]]
end K10
namespace K10
open PySem PySem.Spec L2 Lay Com
def chkD (n : Int) : Bool := match evD F_diamond [nI n], evD F__law_diamond [nI n] with
  | some a, some b => sameD a (.tup [.str "yard", b]) && plD 63 a
  | _, _ => false
def chkG1 (n : Int) (ds : List Dat) : Bool := match gr1 n ds with
  | some (_, _, places) => match evD F_rooms [nI n, .fz (pav ds)] with
    | some r => sameD r (.tup places)
    | none => false
  | none => false
def chkG2 (n : Int) (nxt : List (List Dat)) (ds : List Dat) : Bool := match gr1 n ds with
  | some (_, mv, places) => (wordsN places.length).all fun ws => match evD F__law_filled [.fz (.lst mv), .fz (.tup places), .fz (.tup ws)] with
    | some (.tup [s, .tup d']) => match evD F_grown [nI n, .fz (pav ds), .fz (.tup ws)] with
      | some g => sameD s (.str "paving") && nxt.any (sameDs d') && sameD g (pav d') && plD 63 (.tup [.tup places, pav d'])
      | none => false
    | _ => false
  | none => false
def chkW (n : Int) (ds : List Dat) : Bool := ds.all fun d => match evD F_way [nI n, .fz d], evD F__law_way [nI n, .fz d] with
  | some a, some b => sameD a b && plD 63 a
  | _, _ => false
def chkZ (n : Int) (ds : List Dat) : Bool := match evD F_frozen [nI n, .fz (pav ds)], evD F__law_frozen [nI n, .fz (.tup ds)] with
  | some a, some b => sameD a b && plD 63 a
  | _, _ => false
def chkS (n : Int) (ds : List Dat) : Bool := match evL F__law_squares [nI n, .fz (.tup ds), P2] with
  | some out => match evL F__law_moved [rest ds out, nI n, nI (0 - 1), nI (0 - 1)] with
    | some lf => match evD F__law_diamond [nI (n - 1)] with
      | some cells => match evD F__law_rooms [.fz cells, .fz (.lst lf)], evD F_shrunk [nI n, .fz (pav ds)] with
        | some r, some s => sameD s (.tup [.tup lf, r]) && plD 63 s && (solids out && solids lf && solid cells && cmpOks 60 out)
        | _, _ => false
      | none => false
    | none => false
  | none => false
def chk1 (w : Str) (nxt : List (List Dat)) : Bool := match evD F__law_filled [.fz (.lst []), .fz (.lst [.tup [.int 0, .int 0]]), .fz (.lst [.str w])] with
  | some (.tup [s, .tup d']) => sameD s (.str "paving") && nxt.any (sameDs d')
  | _ => false
def C1 : List (List Nat) := [[0, 20],
  [1, 3]]
def S1 : List (List Dat) := C1.map fun l => l.map dom
def C2 : List (List Nat) := [[2, 20, 24, 40, 44, 62],
  [2, 20, 25, 27, 40, 62],
  [2, 21, 23, 24, 44, 62],
  [2, 21, 23, 25, 27, 62],
  [2, 21, 22, 27, 42, 62],
  [2, 21, 22, 27, 43, 45],
  [3, 5, 21, 27, 42, 62],
  [3, 5, 21, 27, 43, 45]]
def S2 : List (List Dat) := C2.map fun l => l.map dom
def C3 : List (List Nat) := [[4, 22, 26, 40, 44, 48, 60, 64, 68, 82, 86, 104],
  [4, 22, 26, 40, 44, 49, 51, 60, 64, 82, 86, 104],
  [4, 22, 26, 40, 45, 47, 48, 60, 68, 82, 86, 104],
  [4, 22, 26, 40, 45, 47, 49, 51, 60, 82, 86, 104],
  [4, 22, 26, 41, 43, 44, 48, 64, 68, 82, 86, 104],
  [4, 22, 26, 41, 43, 44, 49, 51, 64, 82, 86, 104],
  [4, 22, 26, 41, 43, 45, 47, 48, 68, 82, 86, 104],
  [4, 22, 26, 41, 43, 45, 47, 49, 51, 82, 86, 104],
  [4, 22, 26, 40, 45, 46, 51, 60, 66, 82, 86, 104],
  [4, 22, 26, 40, 45, 46, 51, 60, 67, 69, 82, 104],
  [4, 22, 26, 41, 43, 45, 46, 51, 66, 82, 86, 104],
  [4, 22, 26, 41, 43, 45, 46, 51, 67, 69, 82, 104],
  [4, 22, 27, 29, 40, 45, 51, 60, 66, 82, 86, 104],
  [4, 22, 27, 29, 40, 45, 51, 60, 67, 69, 82, 104],
  [4, 22, 27, 29, 41, 43, 45, 51, 66, 82, 86, 104],
  [4, 22, 27, 29, 41, 43, 45, 51, 67, 69, 82, 104],
  [4, 22, 26, 41, 42, 47, 48, 62, 68, 82, 86, 104],
  [4, 22, 26, 41, 42, 47, 48, 63, 65, 68, 86, 104],
  [4, 22, 26, 41, 42, 47, 49, 51, 62, 82, 86, 104],
  [4, 22, 26, 41, 42, 47, 49, 51, 63, 65, 86, 104],
  [4, 23, 25, 26, 41, 47, 48, 62, 68, 82, 86, 104],
  [4, 23, 25, 26, 41, 47, 48, 63, 65, 68, 86, 104],
  [4, 23, 25, 26, 41, 47, 49, 51, 62, 82, 86, 104],
  [4, 23, 25, 26, 41, 47, 49, 51, 63, 65, 86, 104],
  [4, 22, 26, 41, 42, 46, 51, 62, 66, 82, 86, 104],
  [4, 22, 26, 41, 42, 46, 51, 62, 67, 69, 82, 104],
  [4, 22, 26, 41, 42, 46, 51, 63, 65, 66, 86, 104],
  [4, 22, 26, 41, 42, 46, 51, 63, 65, 67, 69, 104],
  [4, 22, 27, 29, 41, 42, 51, 62, 66, 82, 86, 104],
  [4, 22, 27, 29, 41, 42, 51, 62, 67, 69, 82, 104],
  [4, 22, 27, 29, 41, 42, 51, 63, 65, 66, 86, 104],
  [4, 22, 27, 29, 41, 42, 51, 63, 65, 67, 69, 104],
  [4, 23, 25, 26, 41, 46, 51, 62, 66, 82, 86, 104],
  [4, 23, 25, 26, 41, 46, 51, 62, 67, 69, 82, 104],
  [4, 23, 25, 26, 41, 46, 51, 63, 65, 66, 86, 104],
  [4, 23, 25, 26, 41, 46, 51, 63, 65, 67, 69, 104],
  [4, 23, 25, 27, 29, 41, 51, 62, 66, 82, 86, 104],
  [4, 23, 25, 27, 29, 41, 51, 62, 67, 69, 82, 104],
  [4, 23, 25, 27, 29, 41, 51, 63, 65, 66, 86, 104],
  [4, 23, 25, 27, 29, 41, 51, 63, 65, 67, 69, 104],
  [4, 22, 26, 41, 42, 46, 51, 63, 64, 69, 84, 104],
  [4, 22, 26, 41, 42, 46, 51, 63, 64, 69, 85, 87],
  [4, 22, 27, 29, 41, 42, 51, 63, 64, 69, 84, 104],
  [4, 22, 27, 29, 41, 42, 51, 63, 64, 69, 85, 87],
  [4, 23, 25, 26, 41, 46, 51, 63, 64, 69, 84, 104],
  [4, 23, 25, 26, 41, 46, 51, 63, 64, 69, 85, 87],
  [4, 23, 25, 27, 29, 41, 51, 63, 64, 69, 84, 104],
  [4, 23, 25, 27, 29, 41, 51, 63, 64, 69, 85, 87],
  [4, 23, 24, 29, 41, 44, 51, 62, 66, 82, 86, 104],
  [4, 23, 24, 29, 41, 44, 51, 62, 67, 69, 82, 104],
  [4, 23, 24, 29, 41, 44, 51, 63, 65, 66, 86, 104],
  [4, 23, 24, 29, 41, 44, 51, 63, 65, 67, 69, 104],
  [5, 7, 23, 29, 41, 44, 51, 62, 66, 82, 86, 104],
  [5, 7, 23, 29, 41, 44, 51, 62, 67, 69, 82, 104],
  [5, 7, 23, 29, 41, 44, 51, 63, 65, 66, 86, 104],
  [5, 7, 23, 29, 41, 44, 51, 63, 65, 67, 69, 104],
  [4, 23, 24, 29, 41, 44, 51, 63, 64, 69, 84, 104],
  [4, 23, 24, 29, 41, 44, 51, 63, 64, 69, 85, 87],
  [4, 23, 24, 29, 41, 45, 47, 51, 63, 69, 84, 104],
  [4, 23, 24, 29, 41, 45, 47, 51, 63, 69, 85, 87],
  [5, 7, 23, 29, 41, 44, 51, 63, 64, 69, 84, 104],
  [5, 7, 23, 29, 41, 44, 51, 63, 64, 69, 85, 87],
  [5, 7, 23, 29, 41, 45, 47, 51, 63, 69, 84, 104],
  [5, 7, 23, 29, 41, 45, 47, 51, 63, 69, 85, 87]]
def S3 : List (List Dat) := C3.map fun l => l.map dom
end K10
namespace K10
open PySem PySem.Spec L2 Lay Com
theorem c_1 : (chk1 "level" S1 && chk1 "upright" S1) = true := by decide +kernel
theorem c_D1 : chkD 1 = true := by decide +kernel
theorem c_D2 : chkD 2 = true := by decide +kernel
theorem c_D3 : chkD 3 = true := by decide +kernel
theorem c_W1_0 : chkW 1 ([0, 20].map dom) = true := by decide +kernel
theorem c_W1_1 : chkW 1 ([1, 3].map dom) = true := by decide +kernel
theorem a_W1 : ∀ ds ∈ S1, chkW 1 ds = true := by
  intro ds h
  simp only [S1, C1, List.map_cons, List.map_nil, List.mem_cons, List.not_mem_nil, or_false] at h
  rcases h with rfl | rfl
  · exact c_W1_0
  · exact c_W1_1
theorem c_Z1_0 : chkZ 1 ([0, 20].map dom) = true := by decide +kernel
theorem c_Z1_1 : chkZ 1 ([1, 3].map dom) = true := by decide +kernel
theorem a_Z1 : ∀ ds ∈ S1, chkZ 1 ds = true := by
  intro ds h
  simp only [S1, C1, List.map_cons, List.map_nil, List.mem_cons, List.not_mem_nil, or_false] at h
  rcases h with rfl | rfl
  · exact c_Z1_0
  · exact c_Z1_1
theorem c_G11_0 : chkG1 1 ([0, 20].map dom) = true := by decide +kernel
theorem c_G11_1 : chkG1 1 ([1, 3].map dom) = true := by decide +kernel
theorem a_G11 : ∀ ds ∈ S1, chkG1 1 ds = true := by
  intro ds h
  simp only [S1, C1, List.map_cons, List.map_nil, List.mem_cons, List.not_mem_nil, or_false] at h
  rcases h with rfl | rfl
  · exact c_G11_0
  · exact c_G11_1
theorem c_G21_0 : chkG2 1 S2 ([0, 20].map dom) = true := by decide +kernel
theorem c_G21_1 : chkG2 1 S2 ([1, 3].map dom) = true := by decide +kernel
theorem a_G21 : ∀ ds ∈ S1, chkG2 1 S2 ds = true := by
  intro ds h
  simp only [S1, C1, List.map_cons, List.map_nil, List.mem_cons, List.not_mem_nil, or_false] at h
  rcases h with rfl | rfl
  · exact c_G21_0
  · exact c_G21_1
theorem c_W2_0 : chkW 2 ([2, 20, 24, 40, 44, 62].map dom) = true := by decide +kernel
theorem c_W2_1 : chkW 2 ([2, 20, 25, 27, 40, 62].map dom) = true := by decide +kernel
theorem c_W2_2 : chkW 2 ([2, 21, 23, 24, 44, 62].map dom) = true := by decide +kernel
theorem c_W2_3 : chkW 2 ([2, 21, 23, 25, 27, 62].map dom) = true := by decide +kernel
theorem c_W2_4 : chkW 2 ([2, 21, 22, 27, 42, 62].map dom) = true := by decide +kernel
theorem c_W2_5 : chkW 2 ([2, 21, 22, 27, 43, 45].map dom) = true := by decide +kernel
theorem c_W2_6 : chkW 2 ([3, 5, 21, 27, 42, 62].map dom) = true := by decide +kernel
theorem c_W2_7 : chkW 2 ([3, 5, 21, 27, 43, 45].map dom) = true := by decide +kernel
theorem a_W2 : ∀ ds ∈ S2, chkW 2 ds = true := by
  intro ds h
  simp only [S2, C2, List.map_cons, List.map_nil, List.mem_cons, List.not_mem_nil, or_false] at h
  rcases h with rfl | rfl | rfl | rfl | rfl | rfl | rfl | rfl
  · exact c_W2_0
  · exact c_W2_1
  · exact c_W2_2
  · exact c_W2_3
  · exact c_W2_4
  · exact c_W2_5
  · exact c_W2_6
  · exact c_W2_7
theorem c_Z2_0 : chkZ 2 ([2, 20, 24, 40, 44, 62].map dom) = true := by decide +kernel
theorem c_Z2_1 : chkZ 2 ([2, 20, 25, 27, 40, 62].map dom) = true := by decide +kernel
theorem c_Z2_2 : chkZ 2 ([2, 21, 23, 24, 44, 62].map dom) = true := by decide +kernel
theorem c_Z2_3 : chkZ 2 ([2, 21, 23, 25, 27, 62].map dom) = true := by decide +kernel
theorem c_Z2_4 : chkZ 2 ([2, 21, 22, 27, 42, 62].map dom) = true := by decide +kernel
theorem c_Z2_5 : chkZ 2 ([2, 21, 22, 27, 43, 45].map dom) = true := by decide +kernel
theorem c_Z2_6 : chkZ 2 ([3, 5, 21, 27, 42, 62].map dom) = true := by decide +kernel
theorem c_Z2_7 : chkZ 2 ([3, 5, 21, 27, 43, 45].map dom) = true := by decide +kernel
theorem a_Z2 : ∀ ds ∈ S2, chkZ 2 ds = true := by
  intro ds h
  simp only [S2, C2, List.map_cons, List.map_nil, List.mem_cons, List.not_mem_nil, or_false] at h
  rcases h with rfl | rfl | rfl | rfl | rfl | rfl | rfl | rfl
  · exact c_Z2_0
  · exact c_Z2_1
  · exact c_Z2_2
  · exact c_Z2_3
  · exact c_Z2_4
  · exact c_Z2_5
  · exact c_Z2_6
  · exact c_Z2_7
theorem c_S2_0 : chkS 2 ([2, 20, 24, 40, 44, 62].map dom) = true := by decide +kernel
theorem c_S2_1 : chkS 2 ([2, 20, 25, 27, 40, 62].map dom) = true := by decide +kernel
theorem c_S2_2 : chkS 2 ([2, 21, 23, 24, 44, 62].map dom) = true := by decide +kernel
theorem c_S2_3 : chkS 2 ([2, 21, 23, 25, 27, 62].map dom) = true := by decide +kernel
theorem c_S2_4 : chkS 2 ([2, 21, 22, 27, 42, 62].map dom) = true := by decide +kernel
theorem c_S2_5 : chkS 2 ([2, 21, 22, 27, 43, 45].map dom) = true := by decide +kernel
theorem c_S2_6 : chkS 2 ([3, 5, 21, 27, 42, 62].map dom) = true := by decide +kernel
theorem c_S2_7 : chkS 2 ([3, 5, 21, 27, 43, 45].map dom) = true := by decide +kernel
theorem a_S2 : ∀ ds ∈ S2, chkS 2 ds = true := by
  intro ds h
  simp only [S2, C2, List.map_cons, List.map_nil, List.mem_cons, List.not_mem_nil, or_false] at h
  rcases h with rfl | rfl | rfl | rfl | rfl | rfl | rfl | rfl
  · exact c_S2_0
  · exact c_S2_1
  · exact c_S2_2
  · exact c_S2_3
  · exact c_S2_4
  · exact c_S2_5
  · exact c_S2_6
  · exact c_S2_7
theorem c_G12_0 : chkG1 2 ([2, 20, 24, 40, 44, 62].map dom) = true := by decide +kernel
theorem c_G12_1 : chkG1 2 ([2, 20, 25, 27, 40, 62].map dom) = true := by decide +kernel
theorem c_G12_2 : chkG1 2 ([2, 21, 23, 24, 44, 62].map dom) = true := by decide +kernel
theorem c_G12_3 : chkG1 2 ([2, 21, 23, 25, 27, 62].map dom) = true := by decide +kernel
theorem c_G12_4 : chkG1 2 ([2, 21, 22, 27, 42, 62].map dom) = true := by decide +kernel
theorem c_G12_5 : chkG1 2 ([2, 21, 22, 27, 43, 45].map dom) = true := by decide +kernel
theorem c_G12_6 : chkG1 2 ([3, 5, 21, 27, 42, 62].map dom) = true := by decide +kernel
theorem c_G12_7 : chkG1 2 ([3, 5, 21, 27, 43, 45].map dom) = true := by decide +kernel
theorem a_G12 : ∀ ds ∈ S2, chkG1 2 ds = true := by
  intro ds h
  simp only [S2, C2, List.map_cons, List.map_nil, List.mem_cons, List.not_mem_nil, or_false] at h
  rcases h with rfl | rfl | rfl | rfl | rfl | rfl | rfl | rfl
  · exact c_G12_0
  · exact c_G12_1
  · exact c_G12_2
  · exact c_G12_3
  · exact c_G12_4
  · exact c_G12_5
  · exact c_G12_6
  · exact c_G12_7
theorem c_G22_0 : chkG2 2 S3 ([2, 20, 24, 40, 44, 62].map dom) = true := by decide +kernel
theorem c_G22_1 : chkG2 2 S3 ([2, 20, 25, 27, 40, 62].map dom) = true := by decide +kernel
theorem c_G22_2 : chkG2 2 S3 ([2, 21, 23, 24, 44, 62].map dom) = true := by decide +kernel
theorem c_G22_3 : chkG2 2 S3 ([2, 21, 23, 25, 27, 62].map dom) = true := by decide +kernel
theorem c_G22_4 : chkG2 2 S3 ([2, 21, 22, 27, 42, 62].map dom) = true := by decide +kernel
theorem c_G22_5 : chkG2 2 S3 ([2, 21, 22, 27, 43, 45].map dom) = true := by decide +kernel
theorem c_G22_6 : chkG2 2 S3 ([3, 5, 21, 27, 42, 62].map dom) = true := by decide +kernel
theorem c_G22_7 : chkG2 2 S3 ([3, 5, 21, 27, 43, 45].map dom) = true := by decide +kernel
theorem a_G22 : ∀ ds ∈ S2, chkG2 2 S3 ds = true := by
  intro ds h
  simp only [S2, C2, List.map_cons, List.map_nil, List.mem_cons, List.not_mem_nil, or_false] at h
  rcases h with rfl | rfl | rfl | rfl | rfl | rfl | rfl | rfl
  · exact c_G22_0
  · exact c_G22_1
  · exact c_G22_2
  · exact c_G22_3
  · exact c_G22_4
  · exact c_G22_5
  · exact c_G22_6
  · exact c_G22_7
theorem c_W3_0 : chkW 3 ([4, 22, 26, 40, 44, 48, 60, 64, 68, 82, 86, 104].map dom) = true := by decide +kernel
theorem c_W3_1 : chkW 3 ([4, 22, 26, 40, 44, 49, 51, 60, 64, 82, 86, 104].map dom) = true := by decide +kernel
theorem c_W3_2 : chkW 3 ([4, 22, 26, 40, 45, 47, 48, 60, 68, 82, 86, 104].map dom) = true := by decide +kernel
theorem c_W3_3 : chkW 3 ([4, 22, 26, 40, 45, 47, 49, 51, 60, 82, 86, 104].map dom) = true := by decide +kernel
theorem c_W3_4 : chkW 3 ([4, 22, 26, 41, 43, 44, 48, 64, 68, 82, 86, 104].map dom) = true := by decide +kernel
theorem c_W3_5 : chkW 3 ([4, 22, 26, 41, 43, 44, 49, 51, 64, 82, 86, 104].map dom) = true := by decide +kernel
theorem c_W3_6 : chkW 3 ([4, 22, 26, 41, 43, 45, 47, 48, 68, 82, 86, 104].map dom) = true := by decide +kernel
theorem c_W3_7 : chkW 3 ([4, 22, 26, 41, 43, 45, 47, 49, 51, 82, 86, 104].map dom) = true := by decide +kernel
theorem c_W3_8 : chkW 3 ([4, 22, 26, 40, 45, 46, 51, 60, 66, 82, 86, 104].map dom) = true := by decide +kernel
theorem c_W3_9 : chkW 3 ([4, 22, 26, 40, 45, 46, 51, 60, 67, 69, 82, 104].map dom) = true := by decide +kernel
theorem c_W3_10 : chkW 3 ([4, 22, 26, 41, 43, 45, 46, 51, 66, 82, 86, 104].map dom) = true := by decide +kernel
theorem c_W3_11 : chkW 3 ([4, 22, 26, 41, 43, 45, 46, 51, 67, 69, 82, 104].map dom) = true := by decide +kernel
theorem c_W3_12 : chkW 3 ([4, 22, 27, 29, 40, 45, 51, 60, 66, 82, 86, 104].map dom) = true := by decide +kernel
theorem c_W3_13 : chkW 3 ([4, 22, 27, 29, 40, 45, 51, 60, 67, 69, 82, 104].map dom) = true := by decide +kernel
theorem c_W3_14 : chkW 3 ([4, 22, 27, 29, 41, 43, 45, 51, 66, 82, 86, 104].map dom) = true := by decide +kernel
theorem c_W3_15 : chkW 3 ([4, 22, 27, 29, 41, 43, 45, 51, 67, 69, 82, 104].map dom) = true := by decide +kernel
theorem c_W3_16 : chkW 3 ([4, 22, 26, 41, 42, 47, 48, 62, 68, 82, 86, 104].map dom) = true := by decide +kernel
theorem c_W3_17 : chkW 3 ([4, 22, 26, 41, 42, 47, 48, 63, 65, 68, 86, 104].map dom) = true := by decide +kernel
theorem c_W3_18 : chkW 3 ([4, 22, 26, 41, 42, 47, 49, 51, 62, 82, 86, 104].map dom) = true := by decide +kernel
theorem c_W3_19 : chkW 3 ([4, 22, 26, 41, 42, 47, 49, 51, 63, 65, 86, 104].map dom) = true := by decide +kernel
theorem c_W3_20 : chkW 3 ([4, 23, 25, 26, 41, 47, 48, 62, 68, 82, 86, 104].map dom) = true := by decide +kernel
theorem c_W3_21 : chkW 3 ([4, 23, 25, 26, 41, 47, 48, 63, 65, 68, 86, 104].map dom) = true := by decide +kernel
theorem c_W3_22 : chkW 3 ([4, 23, 25, 26, 41, 47, 49, 51, 62, 82, 86, 104].map dom) = true := by decide +kernel
theorem c_W3_23 : chkW 3 ([4, 23, 25, 26, 41, 47, 49, 51, 63, 65, 86, 104].map dom) = true := by decide +kernel
theorem c_W3_24 : chkW 3 ([4, 22, 26, 41, 42, 46, 51, 62, 66, 82, 86, 104].map dom) = true := by decide +kernel
theorem c_W3_25 : chkW 3 ([4, 22, 26, 41, 42, 46, 51, 62, 67, 69, 82, 104].map dom) = true := by decide +kernel
theorem c_W3_26 : chkW 3 ([4, 22, 26, 41, 42, 46, 51, 63, 65, 66, 86, 104].map dom) = true := by decide +kernel
theorem c_W3_27 : chkW 3 ([4, 22, 26, 41, 42, 46, 51, 63, 65, 67, 69, 104].map dom) = true := by decide +kernel
theorem c_W3_28 : chkW 3 ([4, 22, 27, 29, 41, 42, 51, 62, 66, 82, 86, 104].map dom) = true := by decide +kernel
theorem c_W3_29 : chkW 3 ([4, 22, 27, 29, 41, 42, 51, 62, 67, 69, 82, 104].map dom) = true := by decide +kernel
theorem c_W3_30 : chkW 3 ([4, 22, 27, 29, 41, 42, 51, 63, 65, 66, 86, 104].map dom) = true := by decide +kernel
theorem c_W3_31 : chkW 3 ([4, 22, 27, 29, 41, 42, 51, 63, 65, 67, 69, 104].map dom) = true := by decide +kernel
theorem c_W3_32 : chkW 3 ([4, 23, 25, 26, 41, 46, 51, 62, 66, 82, 86, 104].map dom) = true := by decide +kernel
theorem c_W3_33 : chkW 3 ([4, 23, 25, 26, 41, 46, 51, 62, 67, 69, 82, 104].map dom) = true := by decide +kernel
theorem c_W3_34 : chkW 3 ([4, 23, 25, 26, 41, 46, 51, 63, 65, 66, 86, 104].map dom) = true := by decide +kernel
theorem c_W3_35 : chkW 3 ([4, 23, 25, 26, 41, 46, 51, 63, 65, 67, 69, 104].map dom) = true := by decide +kernel
theorem c_W3_36 : chkW 3 ([4, 23, 25, 27, 29, 41, 51, 62, 66, 82, 86, 104].map dom) = true := by decide +kernel
theorem c_W3_37 : chkW 3 ([4, 23, 25, 27, 29, 41, 51, 62, 67, 69, 82, 104].map dom) = true := by decide +kernel
theorem c_W3_38 : chkW 3 ([4, 23, 25, 27, 29, 41, 51, 63, 65, 66, 86, 104].map dom) = true := by decide +kernel
theorem c_W3_39 : chkW 3 ([4, 23, 25, 27, 29, 41, 51, 63, 65, 67, 69, 104].map dom) = true := by decide +kernel
theorem c_W3_40 : chkW 3 ([4, 22, 26, 41, 42, 46, 51, 63, 64, 69, 84, 104].map dom) = true := by decide +kernel
theorem c_W3_41 : chkW 3 ([4, 22, 26, 41, 42, 46, 51, 63, 64, 69, 85, 87].map dom) = true := by decide +kernel
theorem c_W3_42 : chkW 3 ([4, 22, 27, 29, 41, 42, 51, 63, 64, 69, 84, 104].map dom) = true := by decide +kernel
theorem c_W3_43 : chkW 3 ([4, 22, 27, 29, 41, 42, 51, 63, 64, 69, 85, 87].map dom) = true := by decide +kernel
theorem c_W3_44 : chkW 3 ([4, 23, 25, 26, 41, 46, 51, 63, 64, 69, 84, 104].map dom) = true := by decide +kernel
theorem c_W3_45 : chkW 3 ([4, 23, 25, 26, 41, 46, 51, 63, 64, 69, 85, 87].map dom) = true := by decide +kernel
theorem c_W3_46 : chkW 3 ([4, 23, 25, 27, 29, 41, 51, 63, 64, 69, 84, 104].map dom) = true := by decide +kernel
theorem c_W3_47 : chkW 3 ([4, 23, 25, 27, 29, 41, 51, 63, 64, 69, 85, 87].map dom) = true := by decide +kernel
theorem c_W3_48 : chkW 3 ([4, 23, 24, 29, 41, 44, 51, 62, 66, 82, 86, 104].map dom) = true := by decide +kernel
theorem c_W3_49 : chkW 3 ([4, 23, 24, 29, 41, 44, 51, 62, 67, 69, 82, 104].map dom) = true := by decide +kernel
theorem c_W3_50 : chkW 3 ([4, 23, 24, 29, 41, 44, 51, 63, 65, 66, 86, 104].map dom) = true := by decide +kernel
theorem c_W3_51 : chkW 3 ([4, 23, 24, 29, 41, 44, 51, 63, 65, 67, 69, 104].map dom) = true := by decide +kernel
theorem c_W3_52 : chkW 3 ([5, 7, 23, 29, 41, 44, 51, 62, 66, 82, 86, 104].map dom) = true := by decide +kernel
theorem c_W3_53 : chkW 3 ([5, 7, 23, 29, 41, 44, 51, 62, 67, 69, 82, 104].map dom) = true := by decide +kernel
theorem c_W3_54 : chkW 3 ([5, 7, 23, 29, 41, 44, 51, 63, 65, 66, 86, 104].map dom) = true := by decide +kernel
theorem c_W3_55 : chkW 3 ([5, 7, 23, 29, 41, 44, 51, 63, 65, 67, 69, 104].map dom) = true := by decide +kernel
theorem c_W3_56 : chkW 3 ([4, 23, 24, 29, 41, 44, 51, 63, 64, 69, 84, 104].map dom) = true := by decide +kernel
theorem c_W3_57 : chkW 3 ([4, 23, 24, 29, 41, 44, 51, 63, 64, 69, 85, 87].map dom) = true := by decide +kernel
theorem c_W3_58 : chkW 3 ([4, 23, 24, 29, 41, 45, 47, 51, 63, 69, 84, 104].map dom) = true := by decide +kernel
theorem c_W3_59 : chkW 3 ([4, 23, 24, 29, 41, 45, 47, 51, 63, 69, 85, 87].map dom) = true := by decide +kernel
theorem c_W3_60 : chkW 3 ([5, 7, 23, 29, 41, 44, 51, 63, 64, 69, 84, 104].map dom) = true := by decide +kernel
theorem c_W3_61 : chkW 3 ([5, 7, 23, 29, 41, 44, 51, 63, 64, 69, 85, 87].map dom) = true := by decide +kernel
theorem c_W3_62 : chkW 3 ([5, 7, 23, 29, 41, 45, 47, 51, 63, 69, 84, 104].map dom) = true := by decide +kernel
theorem c_W3_63 : chkW 3 ([5, 7, 23, 29, 41, 45, 47, 51, 63, 69, 85, 87].map dom) = true := by decide +kernel
theorem a_W3 : ∀ ds ∈ S3, chkW 3 ds = true := by
  intro ds h
  simp only [S3, C3, List.map_cons, List.map_nil, List.mem_cons, List.not_mem_nil, or_false] at h
  rcases h with rfl | rfl | rfl | rfl | rfl | rfl | rfl | rfl | rfl | rfl | rfl | rfl | rfl | rfl | rfl | rfl | rfl | rfl | rfl | rfl | rfl | rfl | rfl | rfl | rfl | rfl | rfl | rfl | rfl | rfl | rfl | rfl | rfl | rfl | rfl | rfl | rfl | rfl | rfl | rfl | rfl | rfl | rfl | rfl | rfl | rfl | rfl | rfl | rfl | rfl | rfl | rfl | rfl | rfl | rfl | rfl | rfl | rfl | rfl | rfl | rfl | rfl | rfl | rfl
  · exact c_W3_0
  · exact c_W3_1
  · exact c_W3_2
  · exact c_W3_3
  · exact c_W3_4
  · exact c_W3_5
  · exact c_W3_6
  · exact c_W3_7
  · exact c_W3_8
  · exact c_W3_9
  · exact c_W3_10
  · exact c_W3_11
  · exact c_W3_12
  · exact c_W3_13
  · exact c_W3_14
  · exact c_W3_15
  · exact c_W3_16
  · exact c_W3_17
  · exact c_W3_18
  · exact c_W3_19
  · exact c_W3_20
  · exact c_W3_21
  · exact c_W3_22
  · exact c_W3_23
  · exact c_W3_24
  · exact c_W3_25
  · exact c_W3_26
  · exact c_W3_27
  · exact c_W3_28
  · exact c_W3_29
  · exact c_W3_30
  · exact c_W3_31
  · exact c_W3_32
  · exact c_W3_33
  · exact c_W3_34
  · exact c_W3_35
  · exact c_W3_36
  · exact c_W3_37
  · exact c_W3_38
  · exact c_W3_39
  · exact c_W3_40
  · exact c_W3_41
  · exact c_W3_42
  · exact c_W3_43
  · exact c_W3_44
  · exact c_W3_45
  · exact c_W3_46
  · exact c_W3_47
  · exact c_W3_48
  · exact c_W3_49
  · exact c_W3_50
  · exact c_W3_51
  · exact c_W3_52
  · exact c_W3_53
  · exact c_W3_54
  · exact c_W3_55
  · exact c_W3_56
  · exact c_W3_57
  · exact c_W3_58
  · exact c_W3_59
  · exact c_W3_60
  · exact c_W3_61
  · exact c_W3_62
  · exact c_W3_63
theorem c_Z3_0 : chkZ 3 ([4, 22, 26, 40, 44, 48, 60, 64, 68, 82, 86, 104].map dom) = true := by decide +kernel
theorem c_Z3_1 : chkZ 3 ([4, 22, 26, 40, 44, 49, 51, 60, 64, 82, 86, 104].map dom) = true := by decide +kernel
theorem c_Z3_2 : chkZ 3 ([4, 22, 26, 40, 45, 47, 48, 60, 68, 82, 86, 104].map dom) = true := by decide +kernel
theorem c_Z3_3 : chkZ 3 ([4, 22, 26, 40, 45, 47, 49, 51, 60, 82, 86, 104].map dom) = true := by decide +kernel
theorem c_Z3_4 : chkZ 3 ([4, 22, 26, 41, 43, 44, 48, 64, 68, 82, 86, 104].map dom) = true := by decide +kernel
theorem c_Z3_5 : chkZ 3 ([4, 22, 26, 41, 43, 44, 49, 51, 64, 82, 86, 104].map dom) = true := by decide +kernel
theorem c_Z3_6 : chkZ 3 ([4, 22, 26, 41, 43, 45, 47, 48, 68, 82, 86, 104].map dom) = true := by decide +kernel
theorem c_Z3_7 : chkZ 3 ([4, 22, 26, 41, 43, 45, 47, 49, 51, 82, 86, 104].map dom) = true := by decide +kernel
theorem c_Z3_8 : chkZ 3 ([4, 22, 26, 40, 45, 46, 51, 60, 66, 82, 86, 104].map dom) = true := by decide +kernel
theorem c_Z3_9 : chkZ 3 ([4, 22, 26, 40, 45, 46, 51, 60, 67, 69, 82, 104].map dom) = true := by decide +kernel
theorem c_Z3_10 : chkZ 3 ([4, 22, 26, 41, 43, 45, 46, 51, 66, 82, 86, 104].map dom) = true := by decide +kernel
theorem c_Z3_11 : chkZ 3 ([4, 22, 26, 41, 43, 45, 46, 51, 67, 69, 82, 104].map dom) = true := by decide +kernel
theorem c_Z3_12 : chkZ 3 ([4, 22, 27, 29, 40, 45, 51, 60, 66, 82, 86, 104].map dom) = true := by decide +kernel
theorem c_Z3_13 : chkZ 3 ([4, 22, 27, 29, 40, 45, 51, 60, 67, 69, 82, 104].map dom) = true := by decide +kernel
theorem c_Z3_14 : chkZ 3 ([4, 22, 27, 29, 41, 43, 45, 51, 66, 82, 86, 104].map dom) = true := by decide +kernel
theorem c_Z3_15 : chkZ 3 ([4, 22, 27, 29, 41, 43, 45, 51, 67, 69, 82, 104].map dom) = true := by decide +kernel
theorem c_Z3_16 : chkZ 3 ([4, 22, 26, 41, 42, 47, 48, 62, 68, 82, 86, 104].map dom) = true := by decide +kernel
theorem c_Z3_17 : chkZ 3 ([4, 22, 26, 41, 42, 47, 48, 63, 65, 68, 86, 104].map dom) = true := by decide +kernel
theorem c_Z3_18 : chkZ 3 ([4, 22, 26, 41, 42, 47, 49, 51, 62, 82, 86, 104].map dom) = true := by decide +kernel
theorem c_Z3_19 : chkZ 3 ([4, 22, 26, 41, 42, 47, 49, 51, 63, 65, 86, 104].map dom) = true := by decide +kernel
theorem c_Z3_20 : chkZ 3 ([4, 23, 25, 26, 41, 47, 48, 62, 68, 82, 86, 104].map dom) = true := by decide +kernel
theorem c_Z3_21 : chkZ 3 ([4, 23, 25, 26, 41, 47, 48, 63, 65, 68, 86, 104].map dom) = true := by decide +kernel
theorem c_Z3_22 : chkZ 3 ([4, 23, 25, 26, 41, 47, 49, 51, 62, 82, 86, 104].map dom) = true := by decide +kernel
theorem c_Z3_23 : chkZ 3 ([4, 23, 25, 26, 41, 47, 49, 51, 63, 65, 86, 104].map dom) = true := by decide +kernel
theorem c_Z3_24 : chkZ 3 ([4, 22, 26, 41, 42, 46, 51, 62, 66, 82, 86, 104].map dom) = true := by decide +kernel
theorem c_Z3_25 : chkZ 3 ([4, 22, 26, 41, 42, 46, 51, 62, 67, 69, 82, 104].map dom) = true := by decide +kernel
theorem c_Z3_26 : chkZ 3 ([4, 22, 26, 41, 42, 46, 51, 63, 65, 66, 86, 104].map dom) = true := by decide +kernel
theorem c_Z3_27 : chkZ 3 ([4, 22, 26, 41, 42, 46, 51, 63, 65, 67, 69, 104].map dom) = true := by decide +kernel
theorem c_Z3_28 : chkZ 3 ([4, 22, 27, 29, 41, 42, 51, 62, 66, 82, 86, 104].map dom) = true := by decide +kernel
theorem c_Z3_29 : chkZ 3 ([4, 22, 27, 29, 41, 42, 51, 62, 67, 69, 82, 104].map dom) = true := by decide +kernel
theorem c_Z3_30 : chkZ 3 ([4, 22, 27, 29, 41, 42, 51, 63, 65, 66, 86, 104].map dom) = true := by decide +kernel
theorem c_Z3_31 : chkZ 3 ([4, 22, 27, 29, 41, 42, 51, 63, 65, 67, 69, 104].map dom) = true := by decide +kernel
theorem c_Z3_32 : chkZ 3 ([4, 23, 25, 26, 41, 46, 51, 62, 66, 82, 86, 104].map dom) = true := by decide +kernel
theorem c_Z3_33 : chkZ 3 ([4, 23, 25, 26, 41, 46, 51, 62, 67, 69, 82, 104].map dom) = true := by decide +kernel
theorem c_Z3_34 : chkZ 3 ([4, 23, 25, 26, 41, 46, 51, 63, 65, 66, 86, 104].map dom) = true := by decide +kernel
theorem c_Z3_35 : chkZ 3 ([4, 23, 25, 26, 41, 46, 51, 63, 65, 67, 69, 104].map dom) = true := by decide +kernel
theorem c_Z3_36 : chkZ 3 ([4, 23, 25, 27, 29, 41, 51, 62, 66, 82, 86, 104].map dom) = true := by decide +kernel
theorem c_Z3_37 : chkZ 3 ([4, 23, 25, 27, 29, 41, 51, 62, 67, 69, 82, 104].map dom) = true := by decide +kernel
theorem c_Z3_38 : chkZ 3 ([4, 23, 25, 27, 29, 41, 51, 63, 65, 66, 86, 104].map dom) = true := by decide +kernel
theorem c_Z3_39 : chkZ 3 ([4, 23, 25, 27, 29, 41, 51, 63, 65, 67, 69, 104].map dom) = true := by decide +kernel
theorem c_Z3_40 : chkZ 3 ([4, 22, 26, 41, 42, 46, 51, 63, 64, 69, 84, 104].map dom) = true := by decide +kernel
theorem c_Z3_41 : chkZ 3 ([4, 22, 26, 41, 42, 46, 51, 63, 64, 69, 85, 87].map dom) = true := by decide +kernel
theorem c_Z3_42 : chkZ 3 ([4, 22, 27, 29, 41, 42, 51, 63, 64, 69, 84, 104].map dom) = true := by decide +kernel
theorem c_Z3_43 : chkZ 3 ([4, 22, 27, 29, 41, 42, 51, 63, 64, 69, 85, 87].map dom) = true := by decide +kernel
theorem c_Z3_44 : chkZ 3 ([4, 23, 25, 26, 41, 46, 51, 63, 64, 69, 84, 104].map dom) = true := by decide +kernel
theorem c_Z3_45 : chkZ 3 ([4, 23, 25, 26, 41, 46, 51, 63, 64, 69, 85, 87].map dom) = true := by decide +kernel
theorem c_Z3_46 : chkZ 3 ([4, 23, 25, 27, 29, 41, 51, 63, 64, 69, 84, 104].map dom) = true := by decide +kernel
theorem c_Z3_47 : chkZ 3 ([4, 23, 25, 27, 29, 41, 51, 63, 64, 69, 85, 87].map dom) = true := by decide +kernel
theorem c_Z3_48 : chkZ 3 ([4, 23, 24, 29, 41, 44, 51, 62, 66, 82, 86, 104].map dom) = true := by decide +kernel
theorem c_Z3_49 : chkZ 3 ([4, 23, 24, 29, 41, 44, 51, 62, 67, 69, 82, 104].map dom) = true := by decide +kernel
theorem c_Z3_50 : chkZ 3 ([4, 23, 24, 29, 41, 44, 51, 63, 65, 66, 86, 104].map dom) = true := by decide +kernel
theorem c_Z3_51 : chkZ 3 ([4, 23, 24, 29, 41, 44, 51, 63, 65, 67, 69, 104].map dom) = true := by decide +kernel
theorem c_Z3_52 : chkZ 3 ([5, 7, 23, 29, 41, 44, 51, 62, 66, 82, 86, 104].map dom) = true := by decide +kernel
theorem c_Z3_53 : chkZ 3 ([5, 7, 23, 29, 41, 44, 51, 62, 67, 69, 82, 104].map dom) = true := by decide +kernel
theorem c_Z3_54 : chkZ 3 ([5, 7, 23, 29, 41, 44, 51, 63, 65, 66, 86, 104].map dom) = true := by decide +kernel
theorem c_Z3_55 : chkZ 3 ([5, 7, 23, 29, 41, 44, 51, 63, 65, 67, 69, 104].map dom) = true := by decide +kernel
theorem c_Z3_56 : chkZ 3 ([4, 23, 24, 29, 41, 44, 51, 63, 64, 69, 84, 104].map dom) = true := by decide +kernel
theorem c_Z3_57 : chkZ 3 ([4, 23, 24, 29, 41, 44, 51, 63, 64, 69, 85, 87].map dom) = true := by decide +kernel
theorem c_Z3_58 : chkZ 3 ([4, 23, 24, 29, 41, 45, 47, 51, 63, 69, 84, 104].map dom) = true := by decide +kernel
theorem c_Z3_59 : chkZ 3 ([4, 23, 24, 29, 41, 45, 47, 51, 63, 69, 85, 87].map dom) = true := by decide +kernel
theorem c_Z3_60 : chkZ 3 ([5, 7, 23, 29, 41, 44, 51, 63, 64, 69, 84, 104].map dom) = true := by decide +kernel
theorem c_Z3_61 : chkZ 3 ([5, 7, 23, 29, 41, 44, 51, 63, 64, 69, 85, 87].map dom) = true := by decide +kernel
theorem c_Z3_62 : chkZ 3 ([5, 7, 23, 29, 41, 45, 47, 51, 63, 69, 84, 104].map dom) = true := by decide +kernel
theorem c_Z3_63 : chkZ 3 ([5, 7, 23, 29, 41, 45, 47, 51, 63, 69, 85, 87].map dom) = true := by decide +kernel
theorem a_Z3 : ∀ ds ∈ S3, chkZ 3 ds = true := by
  intro ds h
  simp only [S3, C3, List.map_cons, List.map_nil, List.mem_cons, List.not_mem_nil, or_false] at h
  rcases h with rfl | rfl | rfl | rfl | rfl | rfl | rfl | rfl | rfl | rfl | rfl | rfl | rfl | rfl | rfl | rfl | rfl | rfl | rfl | rfl | rfl | rfl | rfl | rfl | rfl | rfl | rfl | rfl | rfl | rfl | rfl | rfl | rfl | rfl | rfl | rfl | rfl | rfl | rfl | rfl | rfl | rfl | rfl | rfl | rfl | rfl | rfl | rfl | rfl | rfl | rfl | rfl | rfl | rfl | rfl | rfl | rfl | rfl | rfl | rfl | rfl | rfl | rfl | rfl
  · exact c_Z3_0
  · exact c_Z3_1
  · exact c_Z3_2
  · exact c_Z3_3
  · exact c_Z3_4
  · exact c_Z3_5
  · exact c_Z3_6
  · exact c_Z3_7
  · exact c_Z3_8
  · exact c_Z3_9
  · exact c_Z3_10
  · exact c_Z3_11
  · exact c_Z3_12
  · exact c_Z3_13
  · exact c_Z3_14
  · exact c_Z3_15
  · exact c_Z3_16
  · exact c_Z3_17
  · exact c_Z3_18
  · exact c_Z3_19
  · exact c_Z3_20
  · exact c_Z3_21
  · exact c_Z3_22
  · exact c_Z3_23
  · exact c_Z3_24
  · exact c_Z3_25
  · exact c_Z3_26
  · exact c_Z3_27
  · exact c_Z3_28
  · exact c_Z3_29
  · exact c_Z3_30
  · exact c_Z3_31
  · exact c_Z3_32
  · exact c_Z3_33
  · exact c_Z3_34
  · exact c_Z3_35
  · exact c_Z3_36
  · exact c_Z3_37
  · exact c_Z3_38
  · exact c_Z3_39
  · exact c_Z3_40
  · exact c_Z3_41
  · exact c_Z3_42
  · exact c_Z3_43
  · exact c_Z3_44
  · exact c_Z3_45
  · exact c_Z3_46
  · exact c_Z3_47
  · exact c_Z3_48
  · exact c_Z3_49
  · exact c_Z3_50
  · exact c_Z3_51
  · exact c_Z3_52
  · exact c_Z3_53
  · exact c_Z3_54
  · exact c_Z3_55
  · exact c_Z3_56
  · exact c_Z3_57
  · exact c_Z3_58
  · exact c_Z3_59
  · exact c_Z3_60
  · exact c_Z3_61
  · exact c_Z3_62
  · exact c_Z3_63
theorem c_S3_0 : chkS 3 ([4, 22, 26, 40, 44, 48, 60, 64, 68, 82, 86, 104].map dom) = true := by decide +kernel
theorem c_S3_1 : chkS 3 ([4, 22, 26, 40, 44, 49, 51, 60, 64, 82, 86, 104].map dom) = true := by decide +kernel
theorem c_S3_2 : chkS 3 ([4, 22, 26, 40, 45, 47, 48, 60, 68, 82, 86, 104].map dom) = true := by decide +kernel
theorem c_S3_3 : chkS 3 ([4, 22, 26, 40, 45, 47, 49, 51, 60, 82, 86, 104].map dom) = true := by decide +kernel
theorem c_S3_4 : chkS 3 ([4, 22, 26, 41, 43, 44, 48, 64, 68, 82, 86, 104].map dom) = true := by decide +kernel
theorem c_S3_5 : chkS 3 ([4, 22, 26, 41, 43, 44, 49, 51, 64, 82, 86, 104].map dom) = true := by decide +kernel
theorem c_S3_6 : chkS 3 ([4, 22, 26, 41, 43, 45, 47, 48, 68, 82, 86, 104].map dom) = true := by decide +kernel
theorem c_S3_7 : chkS 3 ([4, 22, 26, 41, 43, 45, 47, 49, 51, 82, 86, 104].map dom) = true := by decide +kernel
theorem c_S3_8 : chkS 3 ([4, 22, 26, 40, 45, 46, 51, 60, 66, 82, 86, 104].map dom) = true := by decide +kernel
theorem c_S3_9 : chkS 3 ([4, 22, 26, 40, 45, 46, 51, 60, 67, 69, 82, 104].map dom) = true := by decide +kernel
theorem c_S3_10 : chkS 3 ([4, 22, 26, 41, 43, 45, 46, 51, 66, 82, 86, 104].map dom) = true := by decide +kernel
theorem c_S3_11 : chkS 3 ([4, 22, 26, 41, 43, 45, 46, 51, 67, 69, 82, 104].map dom) = true := by decide +kernel
theorem c_S3_12 : chkS 3 ([4, 22, 27, 29, 40, 45, 51, 60, 66, 82, 86, 104].map dom) = true := by decide +kernel
theorem c_S3_13 : chkS 3 ([4, 22, 27, 29, 40, 45, 51, 60, 67, 69, 82, 104].map dom) = true := by decide +kernel
theorem c_S3_14 : chkS 3 ([4, 22, 27, 29, 41, 43, 45, 51, 66, 82, 86, 104].map dom) = true := by decide +kernel
theorem c_S3_15 : chkS 3 ([4, 22, 27, 29, 41, 43, 45, 51, 67, 69, 82, 104].map dom) = true := by decide +kernel
theorem c_S3_16 : chkS 3 ([4, 22, 26, 41, 42, 47, 48, 62, 68, 82, 86, 104].map dom) = true := by decide +kernel
theorem c_S3_17 : chkS 3 ([4, 22, 26, 41, 42, 47, 48, 63, 65, 68, 86, 104].map dom) = true := by decide +kernel
theorem c_S3_18 : chkS 3 ([4, 22, 26, 41, 42, 47, 49, 51, 62, 82, 86, 104].map dom) = true := by decide +kernel
theorem c_S3_19 : chkS 3 ([4, 22, 26, 41, 42, 47, 49, 51, 63, 65, 86, 104].map dom) = true := by decide +kernel
theorem c_S3_20 : chkS 3 ([4, 23, 25, 26, 41, 47, 48, 62, 68, 82, 86, 104].map dom) = true := by decide +kernel
theorem c_S3_21 : chkS 3 ([4, 23, 25, 26, 41, 47, 48, 63, 65, 68, 86, 104].map dom) = true := by decide +kernel
theorem c_S3_22 : chkS 3 ([4, 23, 25, 26, 41, 47, 49, 51, 62, 82, 86, 104].map dom) = true := by decide +kernel
theorem c_S3_23 : chkS 3 ([4, 23, 25, 26, 41, 47, 49, 51, 63, 65, 86, 104].map dom) = true := by decide +kernel
theorem c_S3_24 : chkS 3 ([4, 22, 26, 41, 42, 46, 51, 62, 66, 82, 86, 104].map dom) = true := by decide +kernel
theorem c_S3_25 : chkS 3 ([4, 22, 26, 41, 42, 46, 51, 62, 67, 69, 82, 104].map dom) = true := by decide +kernel
theorem c_S3_26 : chkS 3 ([4, 22, 26, 41, 42, 46, 51, 63, 65, 66, 86, 104].map dom) = true := by decide +kernel
theorem c_S3_27 : chkS 3 ([4, 22, 26, 41, 42, 46, 51, 63, 65, 67, 69, 104].map dom) = true := by decide +kernel
theorem c_S3_28 : chkS 3 ([4, 22, 27, 29, 41, 42, 51, 62, 66, 82, 86, 104].map dom) = true := by decide +kernel
theorem c_S3_29 : chkS 3 ([4, 22, 27, 29, 41, 42, 51, 62, 67, 69, 82, 104].map dom) = true := by decide +kernel
theorem c_S3_30 : chkS 3 ([4, 22, 27, 29, 41, 42, 51, 63, 65, 66, 86, 104].map dom) = true := by decide +kernel
theorem c_S3_31 : chkS 3 ([4, 22, 27, 29, 41, 42, 51, 63, 65, 67, 69, 104].map dom) = true := by decide +kernel
theorem c_S3_32 : chkS 3 ([4, 23, 25, 26, 41, 46, 51, 62, 66, 82, 86, 104].map dom) = true := by decide +kernel
theorem c_S3_33 : chkS 3 ([4, 23, 25, 26, 41, 46, 51, 62, 67, 69, 82, 104].map dom) = true := by decide +kernel
theorem c_S3_34 : chkS 3 ([4, 23, 25, 26, 41, 46, 51, 63, 65, 66, 86, 104].map dom) = true := by decide +kernel
theorem c_S3_35 : chkS 3 ([4, 23, 25, 26, 41, 46, 51, 63, 65, 67, 69, 104].map dom) = true := by decide +kernel
theorem c_S3_36 : chkS 3 ([4, 23, 25, 27, 29, 41, 51, 62, 66, 82, 86, 104].map dom) = true := by decide +kernel
theorem c_S3_37 : chkS 3 ([4, 23, 25, 27, 29, 41, 51, 62, 67, 69, 82, 104].map dom) = true := by decide +kernel
theorem c_S3_38 : chkS 3 ([4, 23, 25, 27, 29, 41, 51, 63, 65, 66, 86, 104].map dom) = true := by decide +kernel
theorem c_S3_39 : chkS 3 ([4, 23, 25, 27, 29, 41, 51, 63, 65, 67, 69, 104].map dom) = true := by decide +kernel
theorem c_S3_40 : chkS 3 ([4, 22, 26, 41, 42, 46, 51, 63, 64, 69, 84, 104].map dom) = true := by decide +kernel
theorem c_S3_41 : chkS 3 ([4, 22, 26, 41, 42, 46, 51, 63, 64, 69, 85, 87].map dom) = true := by decide +kernel
theorem c_S3_42 : chkS 3 ([4, 22, 27, 29, 41, 42, 51, 63, 64, 69, 84, 104].map dom) = true := by decide +kernel
theorem c_S3_43 : chkS 3 ([4, 22, 27, 29, 41, 42, 51, 63, 64, 69, 85, 87].map dom) = true := by decide +kernel
theorem c_S3_44 : chkS 3 ([4, 23, 25, 26, 41, 46, 51, 63, 64, 69, 84, 104].map dom) = true := by decide +kernel
theorem c_S3_45 : chkS 3 ([4, 23, 25, 26, 41, 46, 51, 63, 64, 69, 85, 87].map dom) = true := by decide +kernel
theorem c_S3_46 : chkS 3 ([4, 23, 25, 27, 29, 41, 51, 63, 64, 69, 84, 104].map dom) = true := by decide +kernel
theorem c_S3_47 : chkS 3 ([4, 23, 25, 27, 29, 41, 51, 63, 64, 69, 85, 87].map dom) = true := by decide +kernel
theorem c_S3_48 : chkS 3 ([4, 23, 24, 29, 41, 44, 51, 62, 66, 82, 86, 104].map dom) = true := by decide +kernel
theorem c_S3_49 : chkS 3 ([4, 23, 24, 29, 41, 44, 51, 62, 67, 69, 82, 104].map dom) = true := by decide +kernel
theorem c_S3_50 : chkS 3 ([4, 23, 24, 29, 41, 44, 51, 63, 65, 66, 86, 104].map dom) = true := by decide +kernel
theorem c_S3_51 : chkS 3 ([4, 23, 24, 29, 41, 44, 51, 63, 65, 67, 69, 104].map dom) = true := by decide +kernel
theorem c_S3_52 : chkS 3 ([5, 7, 23, 29, 41, 44, 51, 62, 66, 82, 86, 104].map dom) = true := by decide +kernel
theorem c_S3_53 : chkS 3 ([5, 7, 23, 29, 41, 44, 51, 62, 67, 69, 82, 104].map dom) = true := by decide +kernel
theorem c_S3_54 : chkS 3 ([5, 7, 23, 29, 41, 44, 51, 63, 65, 66, 86, 104].map dom) = true := by decide +kernel
theorem c_S3_55 : chkS 3 ([5, 7, 23, 29, 41, 44, 51, 63, 65, 67, 69, 104].map dom) = true := by decide +kernel
theorem c_S3_56 : chkS 3 ([4, 23, 24, 29, 41, 44, 51, 63, 64, 69, 84, 104].map dom) = true := by decide +kernel
theorem c_S3_57 : chkS 3 ([4, 23, 24, 29, 41, 44, 51, 63, 64, 69, 85, 87].map dom) = true := by decide +kernel
theorem c_S3_58 : chkS 3 ([4, 23, 24, 29, 41, 45, 47, 51, 63, 69, 84, 104].map dom) = true := by decide +kernel
theorem c_S3_59 : chkS 3 ([4, 23, 24, 29, 41, 45, 47, 51, 63, 69, 85, 87].map dom) = true := by decide +kernel
theorem c_S3_60 : chkS 3 ([5, 7, 23, 29, 41, 44, 51, 63, 64, 69, 84, 104].map dom) = true := by decide +kernel
theorem c_S3_61 : chkS 3 ([5, 7, 23, 29, 41, 44, 51, 63, 64, 69, 85, 87].map dom) = true := by decide +kernel
theorem c_S3_62 : chkS 3 ([5, 7, 23, 29, 41, 45, 47, 51, 63, 69, 84, 104].map dom) = true := by decide +kernel
theorem c_S3_63 : chkS 3 ([5, 7, 23, 29, 41, 45, 47, 51, 63, 69, 85, 87].map dom) = true := by decide +kernel
theorem a_S3 : ∀ ds ∈ S3, chkS 3 ds = true := by
  intro ds h
  simp only [S3, C3, List.map_cons, List.map_nil, List.mem_cons, List.not_mem_nil, or_false] at h
  rcases h with rfl | rfl | rfl | rfl | rfl | rfl | rfl | rfl | rfl | rfl | rfl | rfl | rfl | rfl | rfl | rfl | rfl | rfl | rfl | rfl | rfl | rfl | rfl | rfl | rfl | rfl | rfl | rfl | rfl | rfl | rfl | rfl | rfl | rfl | rfl | rfl | rfl | rfl | rfl | rfl | rfl | rfl | rfl | rfl | rfl | rfl | rfl | rfl | rfl | rfl | rfl | rfl | rfl | rfl | rfl | rfl | rfl | rfl | rfl | rfl | rfl | rfl | rfl | rfl
  · exact c_S3_0
  · exact c_S3_1
  · exact c_S3_2
  · exact c_S3_3
  · exact c_S3_4
  · exact c_S3_5
  · exact c_S3_6
  · exact c_S3_7
  · exact c_S3_8
  · exact c_S3_9
  · exact c_S3_10
  · exact c_S3_11
  · exact c_S3_12
  · exact c_S3_13
  · exact c_S3_14
  · exact c_S3_15
  · exact c_S3_16
  · exact c_S3_17
  · exact c_S3_18
  · exact c_S3_19
  · exact c_S3_20
  · exact c_S3_21
  · exact c_S3_22
  · exact c_S3_23
  · exact c_S3_24
  · exact c_S3_25
  · exact c_S3_26
  · exact c_S3_27
  · exact c_S3_28
  · exact c_S3_29
  · exact c_S3_30
  · exact c_S3_31
  · exact c_S3_32
  · exact c_S3_33
  · exact c_S3_34
  · exact c_S3_35
  · exact c_S3_36
  · exact c_S3_37
  · exact c_S3_38
  · exact c_S3_39
  · exact c_S3_40
  · exact c_S3_41
  · exact c_S3_42
  · exact c_S3_43
  · exact c_S3_44
  · exact c_S3_45
  · exact c_S3_46
  · exact c_S3_47
  · exact c_S3_48
  · exact c_S3_49
  · exact c_S3_50
  · exact c_S3_51
  · exact c_S3_52
  · exact c_S3_53
  · exact c_S3_54
  · exact c_S3_55
  · exact c_S3_56
  · exact c_S3_57
  · exact c_S3_58
  · exact c_S3_59
  · exact c_S3_60
  · exact c_S3_61
  · exact c_S3_62
  · exact c_S3_63
end K10
namespace K10
open PySem PySem.Spec L2 Lay Com
local macro_rules | `(tactic| walk_at "WP") => `(tactic| (repeat (first | apply_rules (transparency := .reducible) only [@wo_ev, @w_varE, w_D, w_Cons, w_x2, ws_seq, ws_asg, ws_if, ws_ret, ws_expr, ws_par, ws_nx, ws_raise, o_TT, ws_bk, ws_ct, ws_retN, ws_st_nil, ws_st_cons, w_x1, w_notV, w_Nil, w_N, w_M, w_Ty, w_Tup, w_LstF, w_Fz, w_T, w_Tru, w_And, w_Or, w_Not, w_If, w_OrV, w_AndV, w_Js_nil, w_Js_cons, w_Call, w_Mut, w_Yes, w_gIx, w_gS_nil, w_gS_cons, w_Sq, w_Rg1, w_Rg2, w_NoPart, w_Part, w_Sl, ws_aug, o_addI, o_find2, o_find3, o_add, o_sub, o_lt, o_le, o_gt, o_ge, o_eqI, o_neI, o_int, o_intB, o_gcd, o_lenT, o_lenL, o_lenK, o_lenO, o_isN, o_isB, o_isnN, o_isnB, o_neg, o_eqS, o_neS, @w_gNmE, @and_tt] | ((with_reducible refine id_o ?_); first | refine o_isi (by decide) (by first | rfl | assumption) ?_ | refine o_mul (by first | exact cMul_r (by omega) (by omega) | exact cMul_l (by omega) (by omega)) ?_ | refine o_mul (by assumption) ?_ | refine o_mod (by omega) ?_ | refine o_fdivS (by omega) (by omega) ?_ | refine o_absN ?_ | refine w_back rfl ?_ | refine wo rfl ?_) | ((with_reducible refine id_a ?_); first | refine ⟨⟨by omega, by omega⟩, ?_⟩ | refine ⟨⟨⟨by omega, by omega⟩, by omega, by omega⟩, ?_⟩ | refine ⟨@rfl _ _, ?_⟩ | refine ⟨⟨@rfl _ _, @rfl _ _⟩, ?_⟩ | refine ⟨⟨Nat.le_of_ble_eq_true rfl, fun _ h => nomatch h⟩, ?_⟩ | refine ⟨Nat.le_of_ble_eq_true rfl, ?_⟩) | ((with_reducible refine id_b ?_); first | refine br_true ?_ | refine br_false ?_) | ((with_reducible refine id_p ?_); first | refine w_gJ rfl (by assumption) ?_ | refine w_gS_cons ?_ | refine w_gS_nil ?_ | refine w_gLs rfl ?_ | refine w_gTu rfl ?_ | refine w_Js_cons ?_ | refine w_Js_nil ?_ | refine w_var rfl ?_ | refine w_gNm rfl ?_) | ((with_reducible refine id_e ?_); first | refine ⟨_, rfl, ?_⟩) | ((with_reducible refine id_s ?_); first | refine ws_st_cons ?_ | refine ws_st_nil ?_))))
local macro_rules | `(tactic| walk_at "WQ") => `(tactic| (repeat (first | apply_rules (transparency := .reducible) only [@wo_ev, @w_varE, w_D, w_Cons, w_x2, ws_seq, ws_asg, ws_ret, ws_expr, ws_par, ws_nx, ws_raise, o_TT, ws_bk, ws_ct, ws_retN, ws_st_nil, ws_st_cons, w_x1, w_notV, w_Nil, w_N, w_M, w_Ty, w_Tup, w_LstF, w_Fz, w_T, w_Tru, w_And, w_Or, w_Not, w_If, w_OrV, w_AndV, w_Js_nil, w_Js_cons, w_Call, w_Mut, w_Yes, w_gIx, w_gS_nil, w_gS_cons, w_Sq, w_Rg1, w_Rg2, w_NoPart, w_Part, w_Sl, ws_aug, o_addI, o_find2, o_find3, o_add, o_sub, o_lt, o_le, o_gt, o_ge, o_eqI, o_neI, o_int, o_intB, o_gcd, o_lenT, o_lenL, o_lenK, o_lenO, o_isN, o_isB, o_isnN, o_isnB, o_neg, o_eqS, o_neS, @w_gNmE, @and_tt] | ((with_reducible refine id_o ?_); first | refine o_isi (by decide) (by first | rfl | assumption) ?_ | refine o_mul (by first | exact cMul_r (by omega) (by omega) | exact cMul_l (by omega) (by omega)) ?_ | refine o_mul (by assumption) ?_ | refine o_mod (by omega) ?_ | refine o_fdivS (by omega) (by omega) ?_ | refine o_absN ?_ | refine w_back rfl ?_ | refine wo rfl ?_) | ((with_reducible refine id_a ?_); first | refine ⟨⟨by omega, by omega⟩, ?_⟩ | refine ⟨⟨⟨by omega, by omega⟩, by omega, by omega⟩, ?_⟩ | refine ⟨@rfl _ _, ?_⟩ | refine ⟨⟨@rfl _ _, @rfl _ _⟩, ?_⟩ | refine ⟨⟨Nat.le_of_ble_eq_true rfl, fun _ h => nomatch h⟩, ?_⟩ | refine ⟨Nat.le_of_ble_eq_true rfl, ?_⟩) | ((with_reducible refine id_b ?_); first | refine br_true ?_ | refine br_false ?_) | ((with_reducible refine id_p ?_); first | refine w_gJ rfl (by assumption) ?_ | refine w_gS_cons ?_ | refine w_gS_nil ?_ | refine w_gLs rfl ?_ | refine w_gTu rfl ?_ | refine w_Js_cons ?_ | refine w_Js_nil ?_ | refine w_var rfl ?_ | refine w_gNm rfl ?_) | ((with_reducible refine id_e ?_); first | refine ⟨_, rfl, ?_⟩) | ((with_reducible refine id_s ?_); first | refine ws_st_cons ?_ | refine ws_st_nil ?_))))
local macro_rules | `(tactic| walk_at "WI") => `(tactic| (repeat (first | apply_rules (transparency := .reducible) only [@wo_ev, @w_varE, w_D, w_Cons, w_x2, ws_seq, ws_asg, ws_if, ws_ret, ws_expr, ws_par, ws_nx, ws_raise, o_TT, ws_bk, ws_ct, ws_retN, ws_st_nil, ws_st_cons, w_x1, w_notV, w_Nil, w_N, w_M, w_Ty, w_Tup, w_LstF, w_Fz, w_T, w_Tru, w_And, w_Or, w_Not, w_OrV, w_AndV, w_Js_nil, w_Js_cons, w_Call, w_Mut, w_Yes, w_gIx, w_gS_nil, w_gS_cons, w_Sq, w_Rg1, w_Rg2, w_NoPart, w_Part, w_Sl, ws_aug, o_addI, o_find2, o_find3, o_add, o_sub, o_lt, o_le, o_gt, o_ge, o_eqI, o_neI, o_int, o_intB, o_gcd, o_lenT, o_lenL, o_lenK, o_lenO, o_isN, o_isB, o_isnN, o_isnB, o_neg, o_eqS, o_neS, @w_gNmE, @and_tt] | ((with_reducible refine id_o ?_); first | refine o_isi (by decide) (by first | rfl | assumption) ?_ | refine o_mul (by first | exact cMul_r (by omega) (by omega) | exact cMul_l (by omega) (by omega)) ?_ | refine o_mul (by assumption) ?_ | refine o_mod (by omega) ?_ | refine o_fdivS (by omega) (by omega) ?_ | refine o_absN ?_ | refine w_back rfl ?_ | refine wo rfl ?_) | ((with_reducible refine id_a ?_); first | refine ⟨⟨by omega, by omega⟩, ?_⟩ | refine ⟨⟨⟨by omega, by omega⟩, by omega, by omega⟩, ?_⟩ | refine ⟨@rfl _ _, ?_⟩ | refine ⟨⟨@rfl _ _, @rfl _ _⟩, ?_⟩ | refine ⟨⟨Nat.le_of_ble_eq_true rfl, fun _ h => nomatch h⟩, ?_⟩ | refine ⟨Nat.le_of_ble_eq_true rfl, ?_⟩) | ((with_reducible refine id_b ?_); first | refine br_true ?_ | refine br_false ?_) | ((with_reducible refine id_p ?_); first | refine w_gJ rfl (by assumption) ?_ | refine w_gS_cons ?_ | refine w_gS_nil ?_ | refine w_gLs rfl ?_ | refine w_gTu rfl ?_ | refine w_Js_cons ?_ | refine w_Js_nil ?_ | refine w_var rfl ?_ | refine w_gNm rfl ?_) | ((with_reducible refine id_e ?_); first | refine ⟨_, rfl, ?_⟩) | ((with_reducible refine id_s ?_); first | refine ws_st_cons ?_ | refine ws_st_nil ?_))))
local macro_rules | `(tactic| walk_at "NE") => `(tactic| (dsimp only [List.set_cons_succ, List.set_cons_zero, frz]))
local macro_rules | `(tactic| walk_at "FIN") => `(tactic| (first | rfl | exact ⟨rfl, rfl⟩ | exact trivial | exact ⟨trivial, rfl⟩ | exact ⟨trivial, trivial⟩ | exact ⟨rfl, trivial⟩))
theorem ev_wf {F : FD} {as : List OT} {o : OT} (h : ev F as = some o) : Wf F as (fun r out => r = o ∧ out = .fz .non) nX := by
  with_unfolding_all
    unfold Wf
    unfold ev at h
    split at h
    · rename_i o' e
      cases h
      rw [e]
      exact ⟨rfl, rfl⟩
    · cases h
theorem evD_wf {F : FD} {as : List OT} {d : Dat} (h : evD F as = some d) : Wf F as (fun r out => r = .fz d ∧ out = .fz .non) nX := by
  unfold evD at h
  split at h
  · rename_i d' e
    cases h
    exact ev_wf e
  · cases h
theorem evL_wf {F : FD} {as : List OT} {ds : List Dat} (h : evL F as = some ds) : Wf F as (fun r out => r = .lst (ds.map .fz) ∧ out = .fz .non) nX := by
  unfold evL at h
  split at h
  · rename_i os e
    rw [allFz_eq h] at e
    exact ev_wf e
  · cases h
theorem gr1_some {n : Int} {ds out mv places : List Dat} (h : gr1 n ds = some (out, mv, places)) : ∃ cells, evL F__law_squares [nI n, .fz (.tup ds), P1] = some out ∧ evL F__law_moved [rest ds out, nI n, nI 1, nI 1] = some mv ∧ evD F__law_diamond [nI (n + 1)] = some cells ∧
    evD F__law_rooms [.fz cells, .fz (.lst mv)] = some (.tup places) ∧ (places.length : Int) = n + 1 + (out.length : Int) / 2 ∧ solids out = true ∧ solids mv = true ∧ solid cells = true ∧ solids places = true ∧ cmpOks 60 out = true ∧ places.length ≤ 12 := by
  unfold gr1 at h
  cases h1 : evL F__law_squares [nI n, .fz (.tup ds), P1] with
  | none => rw [h1] at h; cases h
  | some o =>
  rw [h1] at h
  cases h2 : evL F__law_moved [rest ds o, nI n, nI 1, nI 1] with
  | none => simp only [bind, Option.bind, h2] at h; cases h
  | some m =>
  cases h3 : evD F__law_diamond [nI (n + 1)] with
  | none => simp only [bind, Option.bind, h2, h3] at h; cases h
  | some c =>
  cases h4 : evD F__law_rooms [.fz c, .fz (.lst m)] with
  | none => simp only [bind, Option.bind, h2, h3, h4] at h; cases h
  | some p =>
  simp only [bind, Option.bind, h2, h3, h4] at h
  cases p with
  | tup pl =>
    simp only at h
    split at h
    · rename_i hl
      cases h
      simp only [Bool.and_eq_true, decide_eq_true_eq] at hl
      exact ⟨c, rfl, h2, rfl, h4, hl.1, hl.2.1.1.1.1.1, hl.2.1.1.1.1.2, hl.2.1.1.1.2, hl.2.1.1.2, hl.2.1.2, hl.2.2⟩
    · cases h
  | _ => cases h
theorem G_facts {n : Int} {nxt : List (List Dat)} {ds : List Dat} (h1 : chkG1 n ds = true) (h2 : chkG2 n nxt ds = true) : ∃ out mv places cells, evL F__law_squares [nI n, .fz (.tup ds), P1] = some out ∧ evL F__law_moved [rest ds out, nI n, nI 1, nI 1] = some mv ∧ evD F__law_diamond [nI (n + 1)] = some cells ∧
    evD F__law_rooms [.fz cells, .fz (.lst mv)] = some (.tup places) ∧ ((places.length : Int) = n + 1 + (out.length : Int) / 2 ∧ solids out = true ∧ solids mv = true ∧ solid cells = true ∧ solids places = true ∧ cmpOks 60 out = true ∧ places.length ≤ 12) ∧ evD F_rooms [nI n, .fz (pav ds)] = some (.tup places) ∧
    ∀ ws ∈ wordsN places.length, ∃ d', evD F__law_filled [.fz (.lst mv), .fz (.tup places), .fz (.tup ws)] = some (pav d') ∧ d' ∈ nxt ∧ evD F_grown [nI n, .fz (pav ds), .fz (.tup ws)] = some (pav d') ∧ plD 63 (.tup [.tup places, pav d']) = true := by
  unfold chkG1 at h1
  unfold chkG2 at h2
  cases e : gr1 n ds with
  | none => rw [e] at h1; cases h1
  | some p =>
  obtain ⟨out, mv, places⟩ := p
  rw [e] at h1 h2
  obtain ⟨cells, g1, g2, g3, g4, g5, g6, g7, g8, g9, g0, g11⟩ := gr1_some e
  simp only at h1 h2
  cases e2 : evD F_rooms [nI n, .fz (pav ds)] with
  | none => rw [e2] at h1; cases h1
  | some r =>
  rw [e2] at h1
  cases sameD_eq _ _ h1
  refine ⟨out, mv, places, cells, g1, g2, g3, g4, ⟨g5, g6, g7, g8, g9, g0, g11⟩, rfl, fun ws hw => ?_⟩
  have h3 := List.all_eq_true.mp h2 ws hw
  cases e3 : evD F__law_filled [.fz (.lst mv), .fz (.tup places), .fz (.tup ws)] with
  | none => rw [e3] at h3; cases h3
  | some q =>
  rw [e3] at h3
  try simp only at h3
  split at h3
  · rename_i s d' eq
    cases eq
    cases e4 : evD F_grown [nI n, .fz (pav ds), .fz (.tup ws)] with
    | none => rw [e4] at h3; cases h3
    | some g =>
      rw [e4] at h3
      simp only [Bool.and_eq_true] at h3
      obtain ⟨⟨⟨k1, k2⟩, k3⟩, k4⟩ := h3
      cases sameD_eq _ _ k1
      cases sameD_eq _ _ k3
      obtain ⟨x, hx, hx2⟩ := List.any_eq_true.mp k2
      rw [← sameDs_eq _ _ hx2] at hx
      exact ⟨d', rfl, hx, rfl, k4⟩
  · cases h3
theorem I_facts {w : Str} {nxt : List (List Dat)} (h : chk1 w nxt = true) : ∃ d', evD F__law_filled [.fz (.lst []), .fz (.lst [.tup [.int 0, .int 0]]), .fz (.lst [.str w])] = some (pav d') ∧ d' ∈ nxt := by
  unfold chk1 at h
  cases e3 : evD F__law_filled [.fz (.lst []), .fz (.lst [.tup [.int 0, .int 0]]), .fz (.lst [.str w])] with
  | none => rw [e3] at h; cases h
  | some q =>
  rw [e3] at h
  try simp only at h
  split at h
  · rename_i s d' eq
    cases eq
    rw [Bool.and_eq_true] at h
    cases sameD_eq _ _ h.1
    obtain ⟨x, hx, hx2⟩ := List.any_eq_true.mp h.2
    rw [← sameDs_eq _ _ hx2] at hx
    exact ⟨d', rfl, hx⟩
  · cases h
theorem D_facts {n : Int} (h : chkD n = true) : ∃ a, evD F_diamond [nI n] = some (.tup [.str "yard", a]) ∧ evD F__law_diamond [nI n] = some a ∧ plD 63 (.tup [.str "yard", a]) = true := by
  unfold chkD at h
  cases e1 : evD F_diamond [nI n] with
  | none => rw [e1] at h; cases h
  | some a =>
  cases e2 : evD F__law_diamond [nI n] with
  | none => rw [e1, e2] at h; cases h
  | some b =>
  rw [e1, e2] at h
  simp only [Bool.and_eq_true] at h
  cases sameD_eq _ _ h.1
  exact ⟨b, rfl, rfl, h.2⟩
theorem W_facts {n : Int} {ds : List Dat} (h : chkW n ds = true) {d : Dat} (hd : d ∈ ds) : ∃ a, evD F_way [nI n, .fz d] = some a ∧ evD F__law_way [nI n, .fz d] = some a ∧ plD 63 a = true := by
  have h := List.all_eq_true.mp h d hd
  cases e1 : evD F_way [nI n, .fz d] with
  | none => rw [e1] at h; cases h
  | some a =>
  cases e2 : evD F__law_way [nI n, .fz d] with
  | none => rw [e1, e2] at h; cases h
  | some b =>
  rw [e1, e2] at h
  simp only [Bool.and_eq_true] at h
  cases sameD_eq _ _ h.1
  exact ⟨a, rfl, rfl, h.2⟩
theorem Z_facts {n : Int} {ds : List Dat} (h : chkZ n ds = true) : ∃ a, evD F_frozen [nI n, .fz (pav ds)] = some a ∧ evD F__law_frozen [nI n, .fz (.tup ds)] = some a ∧ plD 63 a = true := by
  unfold chkZ at h
  cases e1 : evD F_frozen [nI n, .fz (pav ds)] with
  | none => rw [e1] at h; cases h
  | some a =>
  cases e2 : evD F__law_frozen [nI n, .fz (.tup ds)] with
  | none => rw [e1, e2] at h; cases h
  | some b =>
  rw [e1, e2] at h
  simp only [Bool.and_eq_true] at h
  cases sameD_eq _ _ h.1
  exact ⟨a, rfl, rfl, h.2⟩
theorem S_facts {n : Int} {ds : List Dat} (h : chkS n ds = true) : ∃ out lf cells r, evL F__law_squares [nI n, .fz (.tup ds), P2] = some out ∧ evL F__law_moved [rest ds out, nI n, nI (0 - 1), nI (0 - 1)] = some lf ∧ evD F__law_diamond [nI (n - 1)] = some cells ∧
    evD F__law_rooms [.fz cells, .fz (.lst lf)] = some r ∧ evD F_shrunk [nI n, .fz (pav ds)] = some (.tup [.tup lf, r]) ∧ plD 63 (.tup [.tup lf, r]) = true ∧ solids out = true ∧ solids lf = true ∧ solid cells = true ∧ cmpOks 60 out = true := by
  unfold chkS at h
  cases e1 : evL F__law_squares [nI n, .fz (.tup ds), P2] with
  | none => rw [e1] at h; cases h
  | some out =>
  rw [e1] at h
  try simp only at h
  cases e2 : evL F__law_moved [rest ds out, nI n, nI (0 - 1), nI (0 - 1)] with
  | none => rw [e2] at h; cases h
  | some lf =>
  rw [e2] at h
  try simp only at h
  cases e3 : evD F__law_diamond [nI (n - 1)] with
  | none => rw [e3] at h; cases h
  | some cells =>
  rw [e3] at h
  try simp only at h
  cases e4 : evD F__law_rooms [.fz cells, .fz (.lst lf)] with
  | none => rw [e4] at h; cases h
  | some r =>
  cases e5 : evD F_shrunk [nI n, .fz (pav ds)] with
  | none => rw [e4, e5] at h; cases h
  | some s =>
  rw [e4, e5] at h
  simp only [Bool.and_eq_true] at h
  cases sameD_eq _ _ h.1.1
  exact ⟨out, lf, cells, r, rfl, e2, rfl, e4, rfl, h.1.2, h.2.1.1.1, h.2.1.1.2, h.2.1.2, h.2.2⟩
/-- words drawn are words -/
theorem words_mem : ∀ (ws : List Dat), (∀ w ∈ ws, w = .str "level" ∨ w = .str "upright") → ws ∈ wordsN ws.length
  | [], _ => List.mem_singleton.mpr rfl
  | w :: r, h => by
    have ih := words_mem r fun x hx => h x (List.mem_cons_of_mem _ hx)
    show w :: r ∈ (wordsN r.length).map (fun w => .str "level" :: w) ++ (wordsN r.length).map (fun w => .str "upright" :: w)
    rcases h w List.mem_cons_self with rfl | rfl
    · exact List.mem_append_left _ (List.mem_map.mpr ⟨r, ih, rfl⟩)
    · exact List.mem_append_right _ (List.mem_map.mpr ⟨r, ih, rfl⟩)
theorem plD_solid : ∀ (n : Nat) (d : Dat), plD n d = true → solid d = true
  | _, .non, _ => by unfold solid; rfl
  | _, .bl _, _ => by unfold solid; rfl
  | _, .int _, _ => by unfold solid; rfl
  | _, .str _, _ => by unfold solid; rfl
  | n + 1, .tup xs, h => by
    unfold plD at h
    unfold solid
    rw [Bool.and_eq_true] at h
    have gen : ∀ l : List Dat, (∀ x ∈ l, plD n x = true) → solids l = true := by
      intro l
      induction l with
      | nil => intro _; unfold solids; rfl
      | cons x l ih =>
        intro hl
        unfold solids
        rw [plD_solid n x (hl x List.mem_cons_self), ih fun y hy => hl y (List.mem_cons_of_mem _ hy)]
        rfl
    exact gen xs fun x hx => List.all_eq_true.mp h.2 x hx
  | 0, .tup xs, h => by cases h
  | n, .lst _, h => by cases n <;> cases h
  | n, .dic _, h => by cases n <;> cases h
  | n, .kst _, h => by cases n <;> cases h
theorem frzs_map : ∀ ds : List Dat, frzs (ds.map OT.fz) = ds
  | [] => rfl
  | d :: r => by rw [List.map_cons, frzs, frz, frzs_map r]
theorem solidOs_map : ∀ ds : List Dat, solidOs (ds.map OT.fz) = solids ds
  | [] => by unfold solids; rfl
  | d :: r => by rw [List.map_cons, solidOs, solidO, solidOs_map r]; rw [solids]
end K10
namespace K10
open PySem PySem.Spec L2 Lay Com
local macro_rules | `(tactic| walk_at "WP") => `(tactic| (repeat (first | apply_rules (transparency := .reducible) only [@wo_ev, @w_varE, w_D, w_Cons, w_x2, ws_seq, ws_asg, ws_if, ws_ret, ws_expr, ws_par, ws_nx, ws_raise, o_TT, ws_bk, ws_ct, ws_retN, ws_st_nil, ws_st_cons, w_x1, w_notV, w_Nil, w_N, w_M, w_Ty, w_Tup, w_LstF, w_Fz, w_T, w_Tru, w_And, w_Or, w_Not, w_If, w_OrV, w_AndV, w_Js_nil, w_Js_cons, w_Call, w_Mut, w_Yes, w_gIx, w_gS_nil, w_gS_cons, w_Sq, w_Rg1, w_Rg2, w_NoPart, w_Part, w_Sl, ws_aug, o_addI, o_find2, o_find3, o_add, o_sub, o_lt, o_le, o_gt, o_ge, o_eqI, o_neI, o_int, o_intB, o_gcd, o_lenT, o_lenL, o_lenK, o_lenO, o_isN, o_isB, o_isnN, o_isnB, o_neg, o_eqS, o_neS, @w_gNmE, @and_tt] | ((with_reducible refine id_o ?_); first | refine o_isi (by decide) (by first | rfl | assumption) ?_ | refine o_mul (by first | exact cMul_r (by omega) (by omega) | exact cMul_l (by omega) (by omega)) ?_ | refine o_mul (by assumption) ?_ | refine o_mod (by omega) ?_ | refine o_fdivS (by omega) (by omega) ?_ | refine o_absN ?_ | refine w_back rfl ?_ | refine wo rfl ?_) | ((with_reducible refine id_a ?_); first | refine ⟨⟨by omega, by omega⟩, ?_⟩ | refine ⟨⟨⟨by omega, by omega⟩, by omega, by omega⟩, ?_⟩ | refine ⟨@rfl _ _, ?_⟩ | refine ⟨⟨@rfl _ _, @rfl _ _⟩, ?_⟩ | refine ⟨⟨Nat.le_of_ble_eq_true rfl, fun _ h => nomatch h⟩, ?_⟩ | refine ⟨Nat.le_of_ble_eq_true rfl, ?_⟩) | ((with_reducible refine id_b ?_); first | refine br_true ?_ | refine br_false ?_) | ((with_reducible refine id_p ?_); first | refine w_gJ rfl (by assumption) ?_ | refine w_gS_cons ?_ | refine w_gS_nil ?_ | refine w_gLs rfl ?_ | refine w_gTu rfl ?_ | refine w_Js_cons ?_ | refine w_Js_nil ?_ | refine w_var rfl ?_ | refine w_gNm rfl ?_) | ((with_reducible refine id_e ?_); first | refine ⟨_, rfl, ?_⟩) | ((with_reducible refine id_s ?_); first | refine ws_st_cons ?_ | refine ws_st_nil ?_))))
local macro_rules | `(tactic| walk_at "WQ") => `(tactic| (repeat (first | apply_rules (transparency := .reducible) only [@wo_ev, @w_varE, w_D, w_Cons, w_x2, ws_seq, ws_asg, ws_ret, ws_expr, ws_par, ws_nx, ws_raise, o_TT, ws_bk, ws_ct, ws_retN, ws_st_nil, ws_st_cons, w_x1, w_notV, w_Nil, w_N, w_M, w_Ty, w_Tup, w_LstF, w_Fz, w_T, w_Tru, w_And, w_Or, w_Not, w_If, w_OrV, w_AndV, w_Js_nil, w_Js_cons, w_Call, w_Mut, w_Yes, w_gIx, w_gS_nil, w_gS_cons, w_Sq, w_Rg1, w_Rg2, w_NoPart, w_Part, w_Sl, ws_aug, o_addI, o_find2, o_find3, o_add, o_sub, o_lt, o_le, o_gt, o_ge, o_eqI, o_neI, o_int, o_intB, o_gcd, o_lenT, o_lenL, o_lenK, o_lenO, o_isN, o_isB, o_isnN, o_isnB, o_neg, o_eqS, o_neS, @w_gNmE, @and_tt] | ((with_reducible refine id_o ?_); first | refine o_isi (by decide) (by first | rfl | assumption) ?_ | refine o_mul (by first | exact cMul_r (by omega) (by omega) | exact cMul_l (by omega) (by omega)) ?_ | refine o_mul (by assumption) ?_ | refine o_mod (by omega) ?_ | refine o_fdivS (by omega) (by omega) ?_ | refine o_absN ?_ | refine w_back rfl ?_ | refine wo rfl ?_) | ((with_reducible refine id_a ?_); first | refine ⟨⟨by omega, by omega⟩, ?_⟩ | refine ⟨⟨⟨by omega, by omega⟩, by omega, by omega⟩, ?_⟩ | refine ⟨@rfl _ _, ?_⟩ | refine ⟨⟨@rfl _ _, @rfl _ _⟩, ?_⟩ | refine ⟨⟨Nat.le_of_ble_eq_true rfl, fun _ h => nomatch h⟩, ?_⟩ | refine ⟨Nat.le_of_ble_eq_true rfl, ?_⟩) | ((with_reducible refine id_b ?_); first | refine br_true ?_ | refine br_false ?_) | ((with_reducible refine id_p ?_); first | refine w_gJ rfl (by assumption) ?_ | refine w_gS_cons ?_ | refine w_gS_nil ?_ | refine w_gLs rfl ?_ | refine w_gTu rfl ?_ | refine w_Js_cons ?_ | refine w_Js_nil ?_ | refine w_var rfl ?_ | refine w_gNm rfl ?_) | ((with_reducible refine id_e ?_); first | refine ⟨_, rfl, ?_⟩) | ((with_reducible refine id_s ?_); first | refine ws_st_cons ?_ | refine ws_st_nil ?_))))
local macro_rules | `(tactic| walk_at "WI") => `(tactic| (repeat (first | apply_rules (transparency := .reducible) only [@wo_ev, @w_varE, w_D, w_Cons, w_x2, ws_seq, ws_asg, ws_if, ws_ret, ws_expr, ws_par, ws_nx, ws_raise, o_TT, ws_bk, ws_ct, ws_retN, ws_st_nil, ws_st_cons, w_x1, w_notV, w_Nil, w_N, w_M, w_Ty, w_Tup, w_LstF, w_Fz, w_T, w_Tru, w_And, w_Or, w_Not, w_OrV, w_AndV, w_Js_nil, w_Js_cons, w_Call, w_Mut, w_Yes, w_gIx, w_gS_nil, w_gS_cons, w_Sq, w_Rg1, w_Rg2, w_NoPart, w_Part, w_Sl, ws_aug, o_addI, o_find2, o_find3, o_add, o_sub, o_lt, o_le, o_gt, o_ge, o_eqI, o_neI, o_int, o_intB, o_gcd, o_lenT, o_lenL, o_lenK, o_lenO, o_isN, o_isB, o_isnN, o_isnB, o_neg, o_eqS, o_neS, @w_gNmE, @and_tt] | ((with_reducible refine id_o ?_); first | refine o_isi (by decide) (by first | rfl | assumption) ?_ | refine o_mul (by first | exact cMul_r (by omega) (by omega) | exact cMul_l (by omega) (by omega)) ?_ | refine o_mul (by assumption) ?_ | refine o_mod (by omega) ?_ | refine o_fdivS (by omega) (by omega) ?_ | refine o_absN ?_ | refine w_back rfl ?_ | refine wo rfl ?_) | ((with_reducible refine id_a ?_); first | refine ⟨⟨by omega, by omega⟩, ?_⟩ | refine ⟨⟨⟨by omega, by omega⟩, by omega, by omega⟩, ?_⟩ | refine ⟨@rfl _ _, ?_⟩ | refine ⟨⟨@rfl _ _, @rfl _ _⟩, ?_⟩ | refine ⟨⟨Nat.le_of_ble_eq_true rfl, fun _ h => nomatch h⟩, ?_⟩ | refine ⟨Nat.le_of_ble_eq_true rfl, ?_⟩) | ((with_reducible refine id_b ?_); first | refine br_true ?_ | refine br_false ?_) | ((with_reducible refine id_p ?_); first | refine w_gJ rfl (by assumption) ?_ | refine w_gS_cons ?_ | refine w_gS_nil ?_ | refine w_gLs rfl ?_ | refine w_gTu rfl ?_ | refine w_Js_cons ?_ | refine w_Js_nil ?_ | refine w_var rfl ?_ | refine w_gNm rfl ?_) | ((with_reducible refine id_e ?_); first | refine ⟨_, rfl, ?_⟩) | ((with_reducible refine id_s ?_); first | refine ws_st_cons ?_ | refine ws_st_nil ?_))))
local macro_rules | `(tactic| walk_at "NE") => `(tactic| (dsimp only [List.set_cons_succ, List.set_cons_zero, frz]))
local macro_rules | `(tactic| walk_at "FIN") => `(tactic| (first | rfl | exact ⟨rfl, rfl⟩ | exact trivial | exact ⟨trivial, rfl⟩ | exact ⟨trivial, trivial⟩ | exact ⟨rfl, trivial⟩))
def ch : Nat → Nat → Nat
  | _, 0 => 1
  | 0, _ + 1 => 0
  | n + 1, k + 1 => ch n k + ch n (k + 1)
theorem ch_zero (n : Nat) : ch n 0 = 1 := by cases n <;> rfl
theorem ch_up : ∀ n k : Nat, ch (n + 1) (k + 1) * (k + 1) = ch n k * (n + 1)
  | 0, 0 => rfl
  | 0, k + 1 => by show (ch 0 (k + 1) + ch 0 (k + 2)) * _ = _; simp [ch]
  | n + 1, 0 => by
    have h := ch_up n 0
    show (ch (n + 1) 0 + ch (n + 1) 1) * 1 = ch (n + 1) 0 * _
    simp only [ch_zero, Nat.mul_one, Nat.one_mul, Nat.zero_add] at h ⊢
    omega
  | n + 1, k + 1 => by
    have h1 := ch_up n k
    have h2 := ch_up n (k + 1)
    have e1 : ch (n + 2) (k + 2) = ch (n + 1) (k + 1) + ch (n + 1) (k + 2) := rfl
    have e2 : ch (n + 1) (k + 1) = ch n k + ch n (k + 1) := rfl
    show ch (n + 2) (k + 2) * (k + 2) = ch (n + 1) (k + 1) * (n + 2)
    rw [e1]
    have e3 : (ch (n + 1) (k + 1) + ch (n + 1) (k + 2)) * (k + 2) = ch (n + 1) (k + 1) * (k + 1) + ch (n + 1) (k + 1) + ch (n + 1) (k + 2) * (k + 1 + 1) := by
      rw [Nat.add_mul, show k + 2 = (k + 1) + 1 from rfl, Nat.mul_add (ch (n + 1) (k + 1)), Nat.mul_one]
    rw [e3, h1, h2, show n + 2 = (n + 1) + 1 from rfl, Nat.mul_add (ch (n + 1) (k + 1)) (n + 1) 1, Nat.mul_one]
    have e4 : ch (n + 1) (k + 1) * (n + 1) = ch n k * (n + 1) + ch n (k + 1) * (n + 1) := by rw [e2, Nat.add_mul]
    rw [e4]
    omega
theorem ch_step {n k : Nat} (h : k ≤ n) : ch n (k + 1) * (k + 1) = ch n k * (n - k) := by
  have h1 := ch_up n k
  have e : ch (n + 1) (k + 1) = ch n k + ch n (k + 1) := rfl
  rw [e, Nat.add_mul] at h1
  have e2 : ch n k * (n + 1) = ch n k * (k + 1) + ch n k * (n - k) := by
    rw [← Nat.mul_add]
    congr 1
    omega
  omega
theorem ch_sym : ∀ a b : Nat, ch (a + b) a = ch (a + b) b
  | 0, b => by
    have : ∀ b : Nat, ch b b = 1 ∧ ∀ j, ch b (b + 1 + j) = 0 := by
      intro b
      induction b with
      | zero => exact ⟨rfl, fun j => by rw [Nat.add_right_comm]; rfl⟩
      | succ b ih =>
        obtain ⟨h1, h2⟩ := ih
        refine ⟨?_, fun j => ?_⟩
        · show ch b b + ch b (b + 1) = 1
          rw [h1, show ch b (b + 1) = 0 from h2 0]
        · rw [show b + 1 + 1 + j = (b + 1 + j) + 1 by omega]
          show ch b (b + 1 + j) + ch b (b + 1 + j + 1) = 0
          rw [h2 j, show b + 1 + j + 1 = b + 1 + (j + 1) by omega, h2 (j + 1)]
    rw [Nat.zero_add, ch_zero, (this b).1]
  | a + 1, 0 => by
    have := ch_sym 0 (a + 1)
    rw [Nat.zero_add] at this
    rw [Nat.add_zero]
    exact this.symm
  | a + 1, b + 1 => by
    have h1 := ch_sym a (b + 1)
    have h2 := ch_sym (a + 1) b
    rw [show a + 1 + (b + 1) = (a + (b + 1)) + 1 by omega]
    show ch (a + (b + 1)) a + ch (a + (b + 1)) (a + 1) = ch (a + (b + 1)) b + ch (a + (b + 1)) (b + 1)
    rw [show a + 1 + b = a + (b + 1) by omega] at h2
    rw [h1, h2, Nat.add_comm]
def fac : Nat → Nat
  | 0 => 1
  | k + 1 => fac k * (k + 1)
theorem fac_pos : ∀ k, 0 < fac k
  | 0 => Nat.one_pos
  | k + 1 => Nat.mul_pos (fac_pos k) (Nat.succ_pos k)
theorem fp_ch (n : Nat) : ∀ k : Nat, k ≤ n → Builtin.Math.fallingProduct (n : Int) k = ((ch n k * fac k : Nat) : Int)
  | 0, _ => by rw [PySem.W.mc_fp_zero, ch_zero]; rfl
  | k + 1, h => by
    rw [PySem.W.mc_fp_succ, fp_ch n k (by omega)]
    have e : ch n (k + 1) * fac (k + 1) = ch n k * fac k * (n - k) := by
      show ch n (k + 1) * (fac k * (k + 1)) = _
      rw [← Nat.mul_assoc, Nat.mul_right_comm, ch_step (by omega), Nat.mul_right_comm]
    rw [e, Int.natCast_mul (ch n k * fac k) (n - k), show ((n - k : Nat) : Int) = (n : Int) - (k : Int) by omega]
theorem mcComb_ch {n k : Nat} (h : k ≤ n) : PySem.W.mcComb (n : Int) (k : Int) = (ch n k : Int) := by
  have key : ∀ m : Nat, m ≤ n → Builtin.Math.fallingProduct (n : Int) m / Builtin.Math.fallingProduct (m : Int) m = (ch n m : Int) := fun m hm => by
    rw [fp_ch n m hm, fp_ch m m (Nat.le_refl m)]
    have c1 : ch m m = 1 := by
      have := ch_sym 0 m
      rw [Nat.zero_add, ch_zero] at this
      exact this.symm
    rw [c1, Nat.one_mul, Int.natCast_mul]
    exact Int.mul_ediv_cancel _ (by have := fac_pos m; omega)
  by_cases c : k ≤ n - k
  · rw [PySem.W.mcComb_at (m := (k : Int)) (by omega) (by omega) (by omega), Int.toNat_natCast]
    exact key k h
  · rw [PySem.W.mcComb_at (m := ((n - k : Nat) : Int)) (by omega) (by omega) (by omega), Int.toNat_natCast, key (n - k) (by omega)]
    have := ch_sym k (n - k)
    rw [show k + (n - k) = n by omega] at this
    rw [this]
theorem o_comb {i j : Int} {k : OT → Prop} (h : 0 ≤ i ∧ 0 ≤ j ∧ i ≤ 18000) (q : k (.fz (.int (PySem.W.mcComb i j)))) : Wo (opComb [.fz (.int i), .fz (.int j)]) k := by
  exact wo (x := .fz (.int (PySem.W.mcComb i j))) (show (if 0 ≤ i ∧ 0 ≤ j ∧ i ≤ 18000 then some (OT.fz (.int (PySem.W.mcComb i j))) else none) = _ from if_pos h) q
theorem power_spec {s : Nat} (h : s ≤ 1000) : Wf F_power_of [.fz (.int 2), .fz (.int (s : Int))] (fun r out => r = .fz (.int ((2 ^ s : Nat) : Int)) ∧ out = .fz .non) nX := by
  refine Wf.run ?_
  show Ws G_power_of [.vl _, .vl _, .un, .un] _
  unfold G_power_of
  walk_at "WP"
  walk_at "NE"
  refine ws_for ?_
  walk_at "WP"
  refine ⟨fun k ρ => ∃ a, Jk a ∧ ρ = [.vl (.fz (.int 2)), .vl (.fz (.int (s : Int))), .vl (.fz (.int ((2 ^ k : Nat) : Int))), a], ⟨_, jk_un, rfl⟩, ?_, ?_⟩
  · rintro k d ρ hd ⟨a, ha, rfl⟩
    obtain ⟨hk, rfl⟩ := rng_inv hd
    walk_at "WP"
    walk_at "NE"
    refine ⟨.vl (.fz (.int (0 + (k : Int)))), jk_vl, ?_⟩
    rw [show ((2 ^ (k + 1) : Nat) : Int) = ((2 ^ k : Nat) : Int) * 2 by rw [Nat.pow_succ]; omega]
  · rintro ρ ⟨a, ha, rfl⟩
    rw [rngL_length, Int.toNat_natCast]
    walk_at "WP"
    walk_at "FIN"
theorem half {m : Nat} : (m : Int) * ((m : Int) + 1) / 2 = ((m * (m + 1) / 2 : Nat) : Int) := by
  rw [show (m : Int) * ((m : Int) + 1) = ((m * (m + 1) : Nat) : Int) by rw [Int.natCast_mul]; rfl]
  exact (Int.natCast_ediv _ _).symm
theorem half_le {m : Nat} (h : m ≤ 40) : m * (m + 1) / 2 ≤ 820 := by
  have : m * (m + 1) ≤ 40 * 41 := Nat.mul_le_mul h (by omega)
  omega
theorem many_spec {m : Nat} (h : m ≤ 40) : Wf F_how_many_diamond [.fz (.int (m : Int))] (fun r out => r = .fz (.int ((2 ^ (m * (m + 1) / 2) : Nat) : Int)) ∧ out = .fz .non) nX := by
  refine Wf.run ?_
  show Ws G_how_many_diamond [.vl _] _
  unfold G_how_many_diamond
  walk_at "WP"
  rw [half]
  refine (power_spec (by have := half_le h; omega)).go fun r out h => ?_
  obtain ⟨rfl, rfl⟩ := h
  walk_at "WP"
  walk_at "FIN"
theorem level_spec {m k : Nat} (h : m ≤ 40) (hk : k ≤ m * (m + 1) / 2) : Wf F_with_level [.fz (.int (m : Int)), .fz (.int (k : Int))] (fun r out => r = .fz (.int (ch (m * (m + 1) / 2) k : Int)) ∧ out = .fz .non) nX := by
  refine Wf.run ?_
  show Ws G_with_level [.vl _, .vl _] _
  unfold G_with_level
  walk_at "WP"
  rw [half]
  have h2 := half_le h
  refine o_comb ⟨by omega, by omega, by omega⟩ ?_
  rw [mcComb_ch hk]
  walk_at "WP"
  walk_at "FIN"
theorem chosen_spec {n k : Nat} (h : n ≤ 1000) (hk : k ≤ n) : Wf F__law_chosen [.fz (.int (n : Int)), .fz (.int (k : Int))] (fun r out => r = .fz (.int (ch n k : Int)) ∧ out = .fz .non) nX := by
  refine Wf.run ?_
  show Ws G__law_chosen [.vl _, .vl _, .un, .un] _
  unfold G__law_chosen
  walk_at "WP"
  walk_at "NE"
  refine ws_for ?_
  walk_at "WP"
  refine ⟨fun j ρ => ∃ a, Jk a ∧ ρ = [.vl (.fz (.int (n : Int))), .vl (.fz (.int (k : Int))), a, .vl (.fz (.int (ch n j : Int)))], ⟨_, jk_un, by rw [ch_zero]; rfl⟩, ?_, ?_⟩
  · rintro j d ρ hd ⟨a, ha, rfl⟩
    obtain ⟨hj, rfl⟩ := rng_inv hd
    rw [Int.toNat_natCast] at hj
    walk_at "WP"
    walk_at "NE"
    refine ⟨.vl (.fz (.int (0 + (j : Int)))), jk_vl, ?_⟩
    have e : ((ch n j : Int) * ((n : Int) - (0 + (j : Int)))) / (0 + (j : Int) + 1) = (ch n (j + 1) : Int) := by
      have s := ch_step (n := n) (k := j) (by omega)
      rw [show (ch n j : Int) * ((n : Int) - (0 + (j : Int))) = ((ch n j * (n - j) : Nat) : Int) by rw [Int.natCast_mul, show ((n - j : Nat) : Int) = (n : Int) - (0 + (j : Int)) by omega], ← s, Int.natCast_mul, show (0 + (j : Int) + 1) = ((j + 1 : Nat) : Int) by omega]
      exact Int.mul_ediv_cancel _ (by omega)
    rw [e]
  · rintro ρ ⟨a, ha, rfl⟩
    rw [rngL_length, Int.toNat_natCast]
    walk_at "WP"
    walk_at "FIN"
end K10
namespace K10
open PySem PySem.Spec L2 Lay Com
local macro_rules | `(tactic| walk_at "WP") => `(tactic| (repeat (first | apply_rules (transparency := .reducible) only [@wo_ev, @w_varE, w_D, w_Cons, w_x2, ws_seq, ws_asg, ws_if, ws_ret, ws_expr, ws_par, ws_nx, ws_raise, o_TT, ws_bk, ws_ct, ws_retN, ws_st_nil, ws_st_cons, w_x1, w_notV, w_Nil, w_N, w_M, w_Ty, w_Tup, w_LstF, w_Fz, w_T, w_Tru, w_And, w_Or, w_Not, w_If, w_OrV, w_AndV, w_Js_nil, w_Js_cons, w_Call, w_Mut, w_Yes, w_gIx, w_gS_nil, w_gS_cons, w_Sq, w_Rg1, w_Rg2, w_NoPart, w_Part, w_Sl, ws_aug, o_addI, o_find2, o_find3, o_add, o_sub, o_lt, o_le, o_gt, o_ge, o_eqI, o_neI, o_int, o_intB, o_gcd, o_lenT, o_lenL, o_lenK, o_lenO, o_isN, o_isB, o_isnN, o_isnB, o_neg, o_eqS, o_neS, @w_gNmE, @and_tt] | ((with_reducible refine id_o ?_); first | refine o_isi (by decide) (by first | rfl | assumption) ?_ | refine o_mul (by first | exact cMul_r (by omega) (by omega) | exact cMul_l (by omega) (by omega)) ?_ | refine o_mul (by assumption) ?_ | refine o_mod (by omega) ?_ | refine o_fdivS (by omega) (by omega) ?_ | refine o_absN ?_ | refine w_back rfl ?_ | refine wo rfl ?_) | ((with_reducible refine id_a ?_); first | refine ⟨⟨by omega, by omega⟩, ?_⟩ | refine ⟨⟨⟨by omega, by omega⟩, by omega, by omega⟩, ?_⟩ | refine ⟨@rfl _ _, ?_⟩ | refine ⟨⟨@rfl _ _, @rfl _ _⟩, ?_⟩ | refine ⟨⟨Nat.le_of_ble_eq_true rfl, fun _ h => nomatch h⟩, ?_⟩ | refine ⟨Nat.le_of_ble_eq_true rfl, ?_⟩) | ((with_reducible refine id_b ?_); first | refine br_true ?_ | refine br_false ?_) | ((with_reducible refine id_p ?_); first | refine w_gJ rfl (by assumption) ?_ | refine w_gS_cons ?_ | refine w_gS_nil ?_ | refine w_gLs rfl ?_ | refine w_gTu rfl ?_ | refine w_Js_cons ?_ | refine w_Js_nil ?_ | refine w_var rfl ?_ | refine w_gNm rfl ?_) | ((with_reducible refine id_e ?_); first | refine ⟨_, rfl, ?_⟩) | ((with_reducible refine id_s ?_); first | refine ws_st_cons ?_ | refine ws_st_nil ?_))))
local macro_rules | `(tactic| walk_at "WQ") => `(tactic| (repeat (first | apply_rules (transparency := .reducible) only [@wo_ev, @w_varE, w_D, w_Cons, w_x2, ws_seq, ws_asg, ws_ret, ws_expr, ws_par, ws_nx, ws_raise, o_TT, ws_bk, ws_ct, ws_retN, ws_st_nil, ws_st_cons, w_x1, w_notV, w_Nil, w_N, w_M, w_Ty, w_Tup, w_LstF, w_Fz, w_T, w_Tru, w_And, w_Or, w_Not, w_If, w_OrV, w_AndV, w_Js_nil, w_Js_cons, w_Call, w_Mut, w_Yes, w_gIx, w_gS_nil, w_gS_cons, w_Sq, w_Rg1, w_Rg2, w_NoPart, w_Part, w_Sl, ws_aug, o_addI, o_find2, o_find3, o_add, o_sub, o_lt, o_le, o_gt, o_ge, o_eqI, o_neI, o_int, o_intB, o_gcd, o_lenT, o_lenL, o_lenK, o_lenO, o_isN, o_isB, o_isnN, o_isnB, o_neg, o_eqS, o_neS, @w_gNmE, @and_tt] | ((with_reducible refine id_o ?_); first | refine o_isi (by decide) (by first | rfl | assumption) ?_ | refine o_mul (by first | exact cMul_r (by omega) (by omega) | exact cMul_l (by omega) (by omega)) ?_ | refine o_mul (by assumption) ?_ | refine o_mod (by omega) ?_ | refine o_fdivS (by omega) (by omega) ?_ | refine o_absN ?_ | refine w_back rfl ?_ | refine wo rfl ?_) | ((with_reducible refine id_a ?_); first | refine ⟨⟨by omega, by omega⟩, ?_⟩ | refine ⟨⟨⟨by omega, by omega⟩, by omega, by omega⟩, ?_⟩ | refine ⟨@rfl _ _, ?_⟩ | refine ⟨⟨@rfl _ _, @rfl _ _⟩, ?_⟩ | refine ⟨⟨Nat.le_of_ble_eq_true rfl, fun _ h => nomatch h⟩, ?_⟩ | refine ⟨Nat.le_of_ble_eq_true rfl, ?_⟩) | ((with_reducible refine id_b ?_); first | refine br_true ?_ | refine br_false ?_) | ((with_reducible refine id_p ?_); first | refine w_gJ rfl (by assumption) ?_ | refine w_gS_cons ?_ | refine w_gS_nil ?_ | refine w_gLs rfl ?_ | refine w_gTu rfl ?_ | refine w_Js_cons ?_ | refine w_Js_nil ?_ | refine w_var rfl ?_ | refine w_gNm rfl ?_) | ((with_reducible refine id_e ?_); first | refine ⟨_, rfl, ?_⟩) | ((with_reducible refine id_s ?_); first | refine ws_st_cons ?_ | refine ws_st_nil ?_))))
local macro_rules | `(tactic| walk_at "WI") => `(tactic| (repeat (first | apply_rules (transparency := .reducible) only [@wo_ev, @w_varE, w_D, w_Cons, w_x2, ws_seq, ws_asg, ws_if, ws_ret, ws_expr, ws_par, ws_nx, ws_raise, o_TT, ws_bk, ws_ct, ws_retN, ws_st_nil, ws_st_cons, w_x1, w_notV, w_Nil, w_N, w_M, w_Ty, w_Tup, w_LstF, w_Fz, w_T, w_Tru, w_And, w_Or, w_Not, w_OrV, w_AndV, w_Js_nil, w_Js_cons, w_Call, w_Mut, w_Yes, w_gIx, w_gS_nil, w_gS_cons, w_Sq, w_Rg1, w_Rg2, w_NoPart, w_Part, w_Sl, ws_aug, o_addI, o_find2, o_find3, o_add, o_sub, o_lt, o_le, o_gt, o_ge, o_eqI, o_neI, o_int, o_intB, o_gcd, o_lenT, o_lenL, o_lenK, o_lenO, o_isN, o_isB, o_isnN, o_isnB, o_neg, o_eqS, o_neS, @w_gNmE, @and_tt] | ((with_reducible refine id_o ?_); first | refine o_isi (by decide) (by first | rfl | assumption) ?_ | refine o_mul (by first | exact cMul_r (by omega) (by omega) | exact cMul_l (by omega) (by omega)) ?_ | refine o_mul (by assumption) ?_ | refine o_mod (by omega) ?_ | refine o_fdivS (by omega) (by omega) ?_ | refine o_absN ?_ | refine w_back rfl ?_ | refine wo rfl ?_) | ((with_reducible refine id_a ?_); first | refine ⟨⟨by omega, by omega⟩, ?_⟩ | refine ⟨⟨⟨by omega, by omega⟩, by omega, by omega⟩, ?_⟩ | refine ⟨@rfl _ _, ?_⟩ | refine ⟨⟨@rfl _ _, @rfl _ _⟩, ?_⟩ | refine ⟨⟨Nat.le_of_ble_eq_true rfl, fun _ h => nomatch h⟩, ?_⟩ | refine ⟨Nat.le_of_ble_eq_true rfl, ?_⟩) | ((with_reducible refine id_b ?_); first | refine br_true ?_ | refine br_false ?_) | ((with_reducible refine id_p ?_); first | refine w_gJ rfl (by assumption) ?_ | refine w_gS_cons ?_ | refine w_gS_nil ?_ | refine w_gLs rfl ?_ | refine w_gTu rfl ?_ | refine w_Js_cons ?_ | refine w_Js_nil ?_ | refine w_var rfl ?_ | refine w_gNm rfl ?_) | ((with_reducible refine id_e ?_); first | refine ⟨_, rfl, ?_⟩) | ((with_reducible refine id_s ?_); first | refine ws_st_cons ?_ | refine ws_st_nil ?_))))
local macro_rules | `(tactic| walk_at "NE") => `(tactic| (dsimp only [List.set_cons_succ, List.set_cons_zero, frz]))
local macro_rules | `(tactic| walk_at "FIN") => `(tactic| (first | rfl | exact ⟨rfl, rfl⟩ | exact trivial | exact ⟨trivial, rfl⟩ | exact ⟨trivial, trivial⟩ | exact ⟨rfl, trivial⟩))
/-- the pavings of an order -/
def Sn : Nat → List (List Dat)
  | 0 => S1
  | 1 => S2
  | _ => S3
structure Fin10 : Prop where
  cmp : ∀ k : Nat, k ≤ 2 → ∀ ds ∈ Sn k, (cmpOks 60 ds && decide (ds.length ≤ 12) && !ds.isEmpty) = true
  sol : ∀ k : Nat, k ≤ 2 → ∀ ds ∈ Sn k, solids ds = true
  i1 : (chk1 "level" S1 && chk1 "upright" S1) = true
  d : ∀ k : Nat, k ≤ 2 → chkD ((k : Int) + 1) = true
  w : ∀ k : Nat, k ≤ 2 → ∀ ds ∈ Sn k, chkW ((k : Int) + 1) ds = true
  z : ∀ k : Nat, k ≤ 2 → ∀ ds ∈ Sn k, chkZ ((k : Int) + 1) ds = true
  s : ∀ k : Nat, k ≤ 2 → 1 ≤ k → ∀ ds ∈ Sn k, chkS ((k : Int) + 1) ds = true
  g1 : ∀ k : Nat, k ≤ 1 → ∀ ds ∈ Sn k, chkG1 ((k : Int) + 1) ds = true
  g2 : ∀ k : Nat, k ≤ 1 → ∀ ds ∈ Sn k, chkG2 ((k : Int) + 1) (Sn (k + 1)) ds = true
@[irreducible] def pv (ds : List Dat) : Dat := pav ds
theorem pv_eq : pav = pv := by
  with_unfolding_all
    rfl
theorem o_ixP {p : List Dat} {k : OT → Prop} (q : k (.fz (.tup p))) : Wo (opIx (.fz (pv p)) (.fz (.int 1))) k := by
  rw [← pv_eq]
  exact o_ixT (xs := [.str "paving", .tup p]) (i := 1) (atI_int (by decide) rfl) q
theorem solid_pv {p : List Dat} (h : solids p = true) : solid (pv p) = true := by
  rw [← pv_eq]
  simp [pav, solid, solids, h]
structure EvD (F : FD) (as : List OT) (d : Dat) : Prop where
  h : evD F as = some d
structure EvL (F : FD) (as : List OT) (d : List Dat) : Prop where
  h : evL F as = some d
structure Cmp (ds : List Dat) : Prop where
  h : cmpOks 60 ds = true
structure Sol (ds : List Dat) : Prop where
  h : solids ds = true
structure So1 (d : Dat) : Prop where
  h : solid d = true
structure Pl (d : Dat) : Prop where
  h : plD 63 d = true
theorem G_f (fi : Fin10) {k : Nat} (hk : k ≤ 1) {p : List Dat} (hp : p ∈ Sn k) : ∃ out mv places cells, EvL F__law_squares [nI ((k : Int) + 1), .fz (.tup p), P1] out ∧ EvL F__law_moved [rest p out, nI ((k : Int) + 1), nI 1, nI 1] mv ∧ EvD F__law_diamond [nI ((k : Int) + 1 + 1)] cells ∧
    EvD F__law_rooms [.fz cells, .fz (.lst mv)] (.tup places) ∧ (places.length : Int) = (k : Int) + 1 + 1 + (out.length : Int) / 2 ∧ Sol out ∧ Sol mv ∧ So1 cells ∧ Sol places ∧ Cmp out ∧ places.length ≤ 12 ∧ EvD F_rooms [nI ((k : Int) + 1), .fz (pv p)] (.tup places) ∧
    ∀ ws ∈ wordsN places.length, ∃ d', EvD F__law_filled [.fz (.lst mv), .fz (.tup places), .fz (.tup ws)] (pv d') ∧ d' ∈ Sn (k + 1) ∧ EvD F_grown [nI ((k : Int) + 1), .fz (pv p), .fz (.tup ws)] (pv d') ∧ Pl (.tup [.tup places, pv d']) := by
  obtain ⟨out, mv, places, cells, g1, g2, g3, g4, ⟨g5, g6, g7, g8, g9, g0, g11⟩, g10, gw⟩ := G_facts (fi.g1 k hk p hp) (fi.g2 k hk p hp)
  rw [pv_eq] at g10
  refine ⟨out, mv, places, cells, ⟨g1⟩, ⟨g2⟩, ⟨g3⟩, ⟨g4⟩, g5, ⟨g6⟩, ⟨g7⟩, ⟨g8⟩, ⟨g9⟩, ⟨g0⟩, g11, ⟨g10⟩, fun ws hw => ?_⟩
  obtain ⟨d', h1, h2, h3, h4⟩ := gw ws hw
  rw [pv_eq] at h1 h3 h4
  exact ⟨d', ⟨h1⟩, h2, ⟨h3⟩, ⟨h4⟩⟩
theorem inO_lst {d : Dat} {out : List Dat} (h1 : cmpOk 60 d = true) (h2 : cmpOks 60 out = true) : inO (.fz d) (.lst (out.map .fz)) = some (anyEq out d) := by
  have e : asSq (.lst (out.map .fz)) = some out := by
    show (match asT (.lst (out.map .fz)) with | some ds => some ds | none => asL (.lst (out.map .fz))) = some out
    exact allFz_map out
  cases d <;> (unfold inO; simp only [e, frz, h1, h2, Bool.and_self, if_true])
theorem cmp_mem : ∀ {p : List Dat} {d : Dat}, cmpOks 60 p = true → d ∈ p → cmpOk 60 d = true
  | x :: p, d, h, hd => by
    have h : (cmpOk 60 x && cmpOks 60 p) = true := h
    rw [Bool.and_eq_true] at h
    rcases List.mem_cons.mp hd with rfl | hd
    · exact h.1
    · exact cmp_mem h.2 hd
theorem filt_eq {out : List Dat} : ∀ p : List Dat, (p.filterMap fun d => if anyEq out d = true then none else some (OT.fz d)) = (p.filter fun d => !anyEq out d).map .fz
  | [] => rfl
  | d :: p => by
    rw [List.filterMap_cons, List.filter_cons]
    by_cases h : anyEq out d = true
    · simp only [h, if_true, Bool.not_true, Bool.false_eq_true, if_false]
      exact filt_eq p
    · have h : anyEq out d = false := by simpa using h
      simp only [h, Bool.false_eq_true, if_false, Bool.not_false, if_true, List.map_cons]
      rw [← filt_eq p]
theorem map_fz : ∀ ds : List Dat, (ds.map OT.fz).map (fun o => OT.fz (frz o)) = ds.map OT.fz
  | [] => rfl
  | d :: r => by rw [List.map_cons, List.map_cons, map_fz r]; rfl
theorem like_eq {d d' : Dat} (h : d = d') (hp : plD 63 d = true) : Wf (F__law_like 64) [.fz d, .fz d'] (fun r out => r = .fz (.bl true) ∧ out = .fz .non) nX := by
  subst h
  exact like_refl 63 d hp
theorem D_f (fi : Fin10) {k : Nat} (hk : k ≤ 2) : ∃ a, EvD F_diamond [nI ((k : Int) + 1)] (.tup [.str "yard", a]) ∧ EvD F__law_diamond [nI ((k : Int) + 1)] a ∧ Pl (.tup [.str "yard", a]) := by
  obtain ⟨a, h1, h2, h3⟩ := D_facts (fi.d k hk)
  exact ⟨a, ⟨h1⟩, ⟨h2⟩, ⟨h3⟩⟩
theorem W_f (fi : Fin10) {k : Nat} (hk : k ≤ 2) {p : List Dat} (hp : p ∈ Sn k) {d : Dat} (hd : d ∈ p) : ∃ a, EvD F_way [nI ((k : Int) + 1), .fz d] a ∧ EvD F__law_way [nI ((k : Int) + 1), .fz d] a ∧ Pl a := by
  obtain ⟨a, h1, h2, h3⟩ := W_facts (fi.w k hk p hp) hd
  exact ⟨a, ⟨h1⟩, ⟨h2⟩, ⟨h3⟩⟩
theorem Z_f (fi : Fin10) {k : Nat} (hk : k ≤ 2) {p : List Dat} (hp : p ∈ Sn k) : ∃ a, EvD F_frozen [nI ((k : Int) + 1), .fz (pv p)] a ∧ EvD F__law_frozen [nI ((k : Int) + 1), .fz (.tup p)] a ∧ Pl a := by
  obtain ⟨a, h1, h2, h3⟩ := Z_facts (fi.z k hk p hp)
  rw [pv_eq] at h1
  exact ⟨a, ⟨h1⟩, ⟨h2⟩, ⟨h3⟩⟩
theorem S_f (fi : Fin10) {k : Nat} (hk : k ≤ 2) (h1k : 1 ≤ k) {p : List Dat} (hp : p ∈ Sn k) : ∃ out lf cells r, EvL F__law_squares [nI ((k : Int) + 1), .fz (.tup p), P2] out ∧ EvL F__law_moved [rest p out, nI ((k : Int) + 1), nI (0 - 1), nI (0 - 1)] lf ∧ EvD F__law_diamond [nI ((k : Int) + 1 - 1)] cells ∧
    EvD F__law_rooms [.fz cells, .fz (.lst lf)] r ∧ EvD F_shrunk [nI ((k : Int) + 1), .fz (pv p)] (.tup [.tup lf, r]) ∧ Pl (.tup [.tup lf, r]) ∧ Sol out ∧ Sol lf ∧ So1 cells ∧ Cmp out ∧ So1 r := by
  obtain ⟨out, lf, cells, r, h1, h2, h3, h4, h5, h6, h7, h8, h9, h10⟩ := S_facts (fi.s k hk h1k p hp)
  rw [pv_eq] at h5
  have h11 := plD_solid _ _ h6
  refine ⟨out, lf, cells, r, ⟨h1⟩, ⟨h2⟩, ⟨h3⟩, ⟨h4⟩, ⟨h5⟩, ⟨h6⟩, ⟨h7⟩, ⟨h8⟩, ⟨h9⟩, ⟨h10⟩, ⟨?_⟩⟩
  simp only [solid, solids, Bool.and_eq_true] at h11
  exact h11.2.1
theorem pl_solid {d : Dat} (h : Pl d) : solid d = true := plD_solid _ _ h.h
theorem bsol {d : Dat} (h : solid d = true) : (solidO (.fz d) && solidO (.fz .non)) = true := by
  show (solid d && solid .non) = true
  rw [h]
  rfl
theorem bsolL {ds : List Dat} (h : solids ds = true) : (solidO (.lst (ds.map .fz)) && solidO (.fz .non)) = true := by
  show (solidOs (ds.map .fz) && solid .non) = true
  rw [solidOs_map, h]
  rfl
theorem word_of {w : Dat} (h : w ∈ [Dat.str "level", Dat.str "upright"]) : w = .str "level" ∨ w = .str "upright" := by
  simpa using h
theorem law_run (fi : Fin10) (ns : List Int) : Wf F_law [.fz (.kst ns)] (fun r _ => r = .fz (.bl true)) nX := by
  refine Wf.run ?_
  show Ws G_law [.vl _, .un, .un, .un, .un, .un, .un, .un, .un, .un, .un, .un, .un, .un, .un, .un, .un, .un] _
  unfold G_law
  walk_at "WP"
  refine digits_spec.go fun r out h => ?_
  obtain ⟨⟨ds, rfl, hds⟩, rfl⟩ := h
  refine w_backT (by rw [solid_ints]; rfl) ?_
  walk_at "WP"
  dsimp only [List.set_cons_succ, List.set_cons_zero, List.map, frz]
  rw [frzs_ints]
  walk_at "WP"
  refine (pick_specL (xs := [.str "level", .str "upright"]) ⟨ds, 0, rfl, Int.le_refl _⟩ (by simp)).go fun r out h => ?_
  obtain ⟨⟨ds1, at1, rfl, hp1⟩, w, rfl, hw⟩ := h
  walk_at "WP"
  obtain ⟨d1, hd1, hm1⟩ : ∃ d', EvD F__law_filled [.fz (.lst []), .fz (.lst [.tup [.int 0, .int 0]]), .fz (.lst [w])] (pv d') ∧ d' ∈ S1 := by
    have := fi.i1
    rw [Bool.and_eq_true] at this
    rw [← pv_eq]
    rcases word_of hw with rfl | rfl
    · obtain ⟨d, h1, h2⟩ := I_facts this.1
      exact ⟨d, ⟨h1⟩, h2⟩
    · obtain ⟨d, h1, h2⟩ := I_facts this.2
      exact ⟨d, ⟨h1⟩, h2⟩
  refine (evD_wf hd1.h).go fun r out h => ?_
  obtain ⟨rfl, rfl⟩ := h
  refine w_backT (by show (solid (pv d1) && _) = true; rw [solid_pv (fi.sol 0 (by omega) d1 hm1)]; rfl) ?_
  walk_at "WP"
  walk_at "NE"
  refine ws_for ?_
  walk_at "WP"
  refine (draw_spec (m := 3) ⟨ds1, at1, rfl, hp1⟩ (by decide)).go fun r out h => ?_
  obtain ⟨⟨ds2, at2, rfl, hp2⟩, v, rfl, hv1, hv2⟩ := h
  walk_at "WP"
  walk_at "NE"
  refine ⟨fun k ρ => ∃ (o : OT) (p : List Dat) (s3 s6 s8 s9 s10 s12 : Sl), Box o ∧ p ∈ Sn k ∧ Jk s3 ∧ Jk s6 ∧ Jk s8 ∧ Jk s9 ∧ Jk s10 ∧ Jk s12 ∧ ρ = [.vl (.fz (.kst ns)), .un, .vl (.fz (.int ((k : Int) + 1))), s3, .vl o, .vl (.fz (pv p)), s6, .un, s8, s9, s10, .un, s12, .un, .un, .un, .un, .un], ?_, ?_, ?_⟩
  · exact ⟨_, d1, _, _, _, _, _, _, ⟨ds2, at2, rfl, hp2⟩, hm1, jk_un, jk_un, jk_un, jk_un, jk_un, jk_un, rfl⟩
  · rintro k d ρ hd ⟨o, p, s3, s6, s8, s9, s10, s12, hb, hp, j3, j6, j8, j9, j10, j12, rfl⟩
    obtain ⟨hk, rfl⟩ := rng_inv hd
    have hk1 : k ≤ 1 := by omega
    obtain ⟨out, mv, places, cells, g1, g2, g3, g4, g5, g6, g7, g8, g9, g0, pl, g10, gw⟩ := G_f fi hk1 hp
    have sp : Sol p := ⟨fi.sol k (by omega) p hp⟩
    obtain ⟨ds3, at3, rfl, hp3⟩ := hb
    walk_at "WP"
    walk_at "NE"
    refine o_ixP ?_
    walk_at "WP"
    walk_at "NE"
    refine (evL_wf g1.h).go fun r out' h => ?_
    obtain ⟨rfl, rfl⟩ := h
    refine w_backT (bsolL g6.h) ?_
    walk_at "WP"
    walk_at "NE"
    have cp := fi.cmp k (by omega) p hp
    simp only [Bool.and_eq_true, decide_eq_true_eq] at cp
    obtain ⟨⟨cp1, cp2⟩, cp3⟩ := cp
    refine w_LcP ?_
    walk_at "WP"
    refine o_ixP ?_
    walk_at "WP"
    refine ⟨⟨by show p.length ≤ 16777216; omega, fun _ h => nomatch h⟩, fun d => if anyEq out d then none else some (.fz d), fun d hd => ?_, rfl, ?_⟩
    · walk_at "WP"
      walk_at "NE"
      refine o_in (inO_lst (cmp_mem cp1 hd) g0.h) ?_
      walk_at "WP"
      refine br (fun h => ?_) (fun h => ?_)
      · have h : anyEq out d = false := by simpa using h
        walk_at "WP"
        walk_at "NE"
        rw [h]
        exact ⟨rfl, rfl⟩
      · have h : anyEq out d = true := by simpa using h
        rw [h]
        exact ⟨rfl, rfl⟩
    · walk_at "WP"
      walk_at "NE"
      rw [filt_eq, map_fz, frzs_map]
      refine (evL_wf g2.h).go fun r out' h => ?_
      obtain ⟨rfl, rfl⟩ := h
      refine w_backT (bsolL g7.h) ?_
      walk_at "WP"
      walk_at "NE"
      refine (evD_wf g3.h).go fun r out' h => ?_
      obtain ⟨rfl, rfl⟩ := h
      refine w_backT (bsol g8.h) ?_
      walk_at "WP"
      walk_at "NE"
      simp only [frzs_map]
      refine (evD_wf g4.h).go fun r out' h => ?_
      obtain ⟨rfl, rfl⟩ := h
      refine w_backT (bsol (show solid (.tup places) = true from by unfold solid; exact g9.h)) ?_
      walk_at "WP"
      walk_at "NE"
      rw [List.length_map, decide_eq_true g5, Bool.not_true]
      walk_at "WP"
      simp only [restE, wipeE, List.set_cons_succ, List.set_cons_zero, List.getElem?_cons_succ, List.getElem?_cons_zero]
      refine w_Lc ?_
      walk_at "WP"
      refine ⟨⟨by show places.length ≤ 16777216; omega, fun _ h => nomatch h⟩, fun j os ρ => ∃ (o : OT) (xs : List Dat), Box o ∧ os = xs.map .fz ∧ xs.length = j ∧ (∀ d ∈ xs, d = .str "level" ∨ d = .str "upright") ∧ ρ = [.vl (.fz (.kst ns)), .un, .vl (.fz (.int ((k : Int) + 1))), .vl (.lst (out.map .fz)), .vl o, .vl (.fz (pv p)), .vl (.fz (.tup places)), .un, .vl (.lst (mv.map .fz)), s9, s10, .un, .vl (.fz (.int (0 + (k : Int)))), .un, .un, .un, .un, .un], ?_, ?_, ?_⟩
      · exact ⟨_, [], ⟨ds3, at3, rfl, hp3⟩, rfl, rfl, (fun _ h => nomatch h), rfl⟩
      · rintro j d os ρ hd ⟨o, xs, hb, rfl, hx, hxs, rfl⟩
        obtain ⟨ds4, at4, rfl, hp4⟩ := hb
        walk_at "WP"
        refine (pick_specL (xs := [.str "level", .str "upright"]) ⟨ds4, at4, rfl, hp4⟩ (by simp)).go fun r out' h => ?_
        obtain ⟨⟨ds5, at5, rfl, hp5⟩, w', rfl, hw'⟩ := h
        walk_at "WP"
        refine ⟨_, xs ++ [w'], ⟨ds5, at5, rfl, hp5⟩, by simp, by simp; omega, fun x hx => ?_, rfl⟩
        rcases List.mem_append.mp hx with h | h
        · exact hxs x h
        · rw [List.mem_singleton.mp h]; exact word_of hw'
      · rintro os ρ3 ⟨o, xs, hb, rfl, hx, hxs, rfl⟩
        obtain ⟨ds4, at4, rfl, hp4⟩ := hb
        refine ⟨rfl, ?_⟩
        walk_at "WP"
        rw [map_fz]
        refine o_tupL (ds := xs) ?_
        walk_at "WP"
        simp only [restE, wipeE, List.set_cons_succ, List.set_cons_zero, List.getElem?_cons_succ, List.getElem?_cons_zero, frz, frzs_map]
        have hw2 := words_mem xs hxs
        rw [show xs.length = places.length from hx] at hw2
        obtain ⟨d', e1, e2, e3, e4⟩ := gw xs hw2
        have sd : Sol d' := ⟨fi.sol (k + 1) (by omega) d' e2⟩
        refine (evD_wf e1.h).go fun r out' h => ?_
        obtain ⟨rfl, rfl⟩ := h
        refine w_backT (bsol (solid_pv sd.h)) ?_
        walk_at "WP"
        walk_at "NE"
        refine (evD_wf g10.h).go fun r out' h => ?_
        obtain ⟨rfl, rfl⟩ := h
        refine w_backT (bsol (show solid (.tup places) = true from by unfold solid; exact g9.h)) ?_
        walk_at "WP"
        walk_at "NE"
        refine (evD_wf e3.h).go fun r out' h => ?_
        obtain ⟨rfl, rfl⟩ := h
        refine w_backT (bsol (solid_pv sd.h)) ?_
        walk_at "WP"
        walk_at "NE"
        refine (like_eq rfl e4.h).go fun r out' h => ?_
        obtain ⟨rfl, rfl⟩ := h
        walk_at "WP"
        walk_at "NE"
        exact ⟨_, d', _, _, _, _, _, _, ⟨ds4, at4, rfl, hp4⟩, e2, jk_vl, jk_vl, jk_vl, jk_vl, jk_vl, jk_vl, rfl⟩
  · rintro ρ ⟨o, p, s3, s6, s8, s9, s10, s12, hb, hp, j3, j6, j8, j9, j10, j12, rfl⟩
    rw [rngL_length] at hp ⊢
    generalize hk : v.toNat = k at hp
    have hk2 : k ≤ 2 := by omega
    have sp : Sol p := ⟨fi.sol k hk2 p hp⟩
    have cp := fi.cmp k hk2 p hp
    simp only [Bool.and_eq_true, decide_eq_true_eq] at cp
    obtain ⟨⟨cp1, cp2⟩, cp3⟩ := cp
    have hne : p ≠ [] := by
      intro e
      subst e
      cases cp3
    obtain ⟨ds3, at3, rfl, hp3⟩ := hb
    obtain ⟨a, a1, a2, a3⟩ := D_f fi hk2
    have sa := pl_solid a3
    have sa2 : So1 a := ⟨by simp only [solid, solids, Bool.and_eq_true] at sa; exact sa.2.1⟩
    have sa : So1 (.tup [.str "yard", a]) := ⟨sa⟩
    walk_at "WQ"
    walk_at "NE"
    refine ws_JE ?_ ?_
    · walk_at "WP"
      refine (evD_wf a1.h).go fun r out' h => ?_
      obtain ⟨rfl, rfl⟩ := h
      refine w_backT (bsol sa.h) ?_
      walk_at "WP"
      refine (evD_wf a2.h).go fun r out' h => ?_
      obtain ⟨rfl, rfl⟩ := h
      refine w_backT (bsol sa2.h) ?_
      walk_at "WP"
      walk_at "NE"
      refine (like_eq rfl a3.h).go fun r out' h => ?_
      obtain ⟨rfl, rfl⟩ := h
      walk_at "WP"
      walk_at "FIN"
    walk_at "WP"
    walk_at "NE"
    refine o_ixP ?_
    walk_at "WP"
    refine (pick_specT ⟨ds3, at3, rfl, hp3⟩ hne).go fun r out' h => ?_
    obtain ⟨⟨ds4, at4, rfl, hp4⟩, d, rfl, hd⟩ := h
    obtain ⟨b, b1, b2, b3⟩ := W_f fi hk2 hp hd
    have sb : So1 b := ⟨pl_solid b3⟩
    walk_at "WQ"
    refine ws_JE ?_ ?_
    · walk_at "WP"
      refine (evD_wf b1.h).go fun r out' h => ?_
      obtain ⟨rfl, rfl⟩ := h
      refine w_backT (bsol sb.h) ?_
      walk_at "WP"
      refine (evD_wf b2.h).go fun r out' h => ?_
      obtain ⟨rfl, rfl⟩ := h
      refine w_backT (bsol sb.h) ?_
      walk_at "WP"
      refine (like_eq rfl b3.h).go fun r out' h => ?_
      obtain ⟨rfl, rfl⟩ := h
      walk_at "WP"
      walk_at "FIN"
    walk_at "WQ"
    refine ws_J (fun ρ => ∃ s3 s16 : Sl, Jk s3 ∧ Jk s16 ∧ ρ = [.vl (.fz (.kst ns)), .un, .vl (.fz (.int ((k : Int) + 1))), s3, .vl (.lst [.fz (.lst (ds4.map .int)), .fz (.int at4)]), .vl (.fz (pv p)), s6, .un, s8, s9, s10, .un, s12, .un, .un, .vl (.fz d), s16, .un]) ?_ (fun ρ h => ?_)
    · walk_at "WP"
      refine br_dec (fun h => ?_) (fun h => ?_)
      · obtain ⟨out, lf, cells, r, g1, g2, g3, g4, g5, g6, g7, g8, g9, g0, gr⟩ := S_f fi hk2 (by omega) hp
        walk_at "WP"
        walk_at "NE"
        refine o_ixP ?_
        walk_at "WP"
        walk_at "NE"
        refine (evL_wf g1.h).go fun r' out' h => ?_
        obtain ⟨rfl, rfl⟩ := h
        refine w_backT (bsolL g7.h) ?_
        walk_at "WP"
        walk_at "NE"
        refine w_LcP ?_
        walk_at "WP"
        refine o_ixP ?_
        walk_at "WP"
        refine ⟨⟨by show p.length ≤ 16777216; omega, fun _ h => nomatch h⟩, fun d => if anyEq out d then none else some (.fz d), fun d hd => ?_, rfl, ?_⟩
        · walk_at "WP"
          walk_at "NE"
          refine o_in (inO_lst (cmp_mem cp1 hd) g0.h) ?_
          walk_at "WP"
          refine br (fun h => ?_) (fun h => ?_)
          · have h : anyEq out d = false := by simpa using h
            walk_at "WP"
            walk_at "NE"
            rw [h]
            exact ⟨rfl, rfl⟩
          · have h : anyEq out d = true := by simpa using h
            rw [h]
            exact ⟨rfl, rfl⟩
        · walk_at "WP"
          walk_at "NE"
          rw [filt_eq, map_fz, frzs_map]
          refine (evL_wf g2.h).go fun r' out' h => ?_
          obtain ⟨rfl, rfl⟩ := h
          refine w_backT (bsolL g8.h) ?_
          walk_at "WP"
          simp only [restE, wipeE, List.set_cons_succ, List.set_cons_zero, List.getElem?_cons_succ, List.getElem?_cons_zero, frz, frzs_map]
          refine (evD_wf g5.h).go fun r' out' h => ?_
          obtain ⟨rfl, rfl⟩ := h
          refine w_backT (bsol (pl_solid g6)) ?_
          walk_at "WP"
          refine o_tupL (ds := lf) ?_
          walk_at "WP"
          refine (evD_wf g3.h).go fun r' out' h => ?_
          obtain ⟨rfl, rfl⟩ := h
          refine w_backT (bsol g9.h) ?_
          walk_at "WP"
          simp only [frz, frzs_map]
          refine (evD_wf g4.h).go fun r' out' h => ?_
          obtain ⟨rfl, rfl⟩ := h
          refine w_backT (bsol gr.h) ?_
          walk_at "WP"
          walk_at "NE"
          refine (like_eq rfl g6.h).go fun r' out' h => ?_
          obtain ⟨rfl, rfl⟩ := h
          walk_at "WP"
          exact ⟨_, _, jk_vl, jk_vl, rfl⟩
      · walk_at "WP"
        exact ⟨_, _, j3, jk_un, rfl⟩
    obtain ⟨s3', s16, j3', j16, rfl⟩ := h
    obtain ⟨z, z1, z2, z3⟩ := Z_f fi hk2 hp
    have sz : So1 z := ⟨pl_solid z3⟩
    walk_at "WQ"
    refine ws_JE ?_ ?_
    · walk_at "WP"
      refine (evD_wf z1.h).go fun r out' h => ?_
      obtain ⟨rfl, rfl⟩ := h
      refine w_backT (bsol sz.h) ?_
      walk_at "WP"
      refine o_ixP ?_
      walk_at "WP"
      refine (evD_wf z2.h).go fun r out' h => ?_
      obtain ⟨rfl, rfl⟩ := h
      refine w_backT (bsol sz.h) ?_
      walk_at "WP"
      refine (like_eq rfl z3.h).go fun r out' h => ?_
      obtain ⟨rfl, rfl⟩ := h
      walk_at "WP"
      walk_at "FIN"
    walk_at "WP"
    refine (draw_spec (m := 40) ⟨ds4, at4, rfl, hp4⟩ (by decide)).go fun r out' h => ?_
    obtain ⟨⟨ds5, at5, rfl, hp5⟩, mi, rfl, hm1', hm2⟩ := h
    obtain ⟨m, hm⟩ : ∃ m : Nat, 1 + mi = (m : Int) := ⟨(1 + mi).toNat, by omega⟩
    have hm40 : m ≤ 40 := by omega
    walk_at "WP"
    rw [hm, half]
    have hz := half_le hm40
    generalize hs : m * (m + 1) / 2 = sz at hz
    refine (draw_spec (m := 900) ⟨ds5, at5, rfl, hp5⟩ (by decide)).go fun r out' h => ?_
    obtain ⟨⟨ds6, at6, rfl, hp6⟩, ki, rfl, hk1', hk2'⟩ := h
    walk_at "WP"
    have hkk := Int.emod_nonneg ki (show (sz : Int) + 1 ≠ 0 by omega)
    have hkl := Int.emod_lt_of_pos ki (show (0 : Int) < (sz : Int) + 1 by omega)
    obtain ⟨kk, ek⟩ : ∃ kk : Nat, ki % ((sz : Int) + 1) = (kk : Int) := ⟨(ki % ((sz : Int) + 1)).toNat, by omega⟩
    rw [ek] at hkl ⊢
    have hkle : kk ≤ sz := by omega
    walk_at "NE"
    refine ws_for ?_
    walk_at "WP"
    refine ⟨fun j ρ => ∃ (s12 : Sl), Jk s12 ∧ ρ = [.vl (.fz (.kst ns)), .un, .vl (.fz (.int ((k : Int) + 1))), s3', .vl (.lst [.fz (.lst (ds6.map .int)), .fz (.int at6)]), .vl (.fz (pv p)), s6, .un, s8, s9, s10, .vl (.fz (.int ((2 ^ j : Nat) : Int))), s12, .vl (.fz (.int (m : Int))), .vl (.fz (.int (sz : Int))), .vl (.fz d), s16, .vl (.fz (.int (kk : Int)))], ?_, ?_, ?_⟩
    · exact ⟨s12, j12, rfl⟩
    · rintro j x ρ hx ⟨s12', h12, rfl⟩
      obtain ⟨hj, rfl⟩ := rng_inv hx
      walk_at "WP"
      walk_at "NE"
      refine ⟨.vl (.fz (.int (0 + (j : Int)))), jk_vl, ?_⟩
      rw [show ((2 ^ (j + 1) : Nat) : Int) = 2 * ((2 ^ j : Nat) : Int) by rw [Nat.pow_succ]; omega]
    · rintro ρ ⟨s12', h12, rfl⟩
      rw [rngL_length, Int.toNat_natCast]
      walk_at "WP"
      refine (many_spec hm40).go fun r out' h => ?_
      obtain ⟨rfl, rfl⟩ := h
      walk_at "WP"
      rw [hs]
      refine (level_spec hm40 (by rw [hs]; exact hkle)).go fun r out' h => ?_
      obtain ⟨rfl, rfl⟩ := h
      walk_at "WP"
      rw [hs]
      refine (chosen_spec (by omega) hkle).go fun r out' h => ?_
      obtain ⟨rfl, rfl⟩ := h
      walk_at "WP"
      refine (like_eq rfl (by rfl)).go fun r out' h => ?_
      obtain ⟨rfl, rfl⟩ := h
      walk_at "WP"
      walk_at "FIN"
end K10
namespace K10
open PySem PySem.Spec L2 Lay Com
theorem cmp_all : (S1.all (fun ds => cmpOks 60 ds && decide (ds.length ≤ 12) && !ds.isEmpty) && S2.all (fun ds => cmpOks 60 ds && decide (ds.length ≤ 12) && !ds.isEmpty) && S3.all (fun ds => cmpOks 60 ds && decide (ds.length ≤ 12) && !ds.isEmpty)) = true := by decide +kernel
theorem sol_all : (S1.all solids && S2.all solids && S3.all solids) = true := by decide +kernel
theorem all_Sn {f : List Dat → Bool} (h : (S1.all f && S2.all f && S3.all f) = true) : ∀ k : Nat, k ≤ 2 → ∀ ds ∈ Sn k, f ds = true := by
  simp only [Bool.and_eq_true, List.all_eq_true] at h
  intro k hk ds hd
  match k, hk, hd with
  | 0, _, hd => exact h.1.1 ds hd
  | 1, _, hd => exact h.1.2 ds hd
  | 2, _, hd => exact h.2 ds hd
theorem fin10 (c_1 : (chk1 "level" S1 && chk1 "upright" S1) = true) (c_D1 : chkD 1 = true) (c_D2 : chkD 2 = true) (c_D3 : chkD 3 = true)
  (w1 : ∀ ds ∈ S1, chkW 1 ds = true) (w2 : ∀ ds ∈ S2, chkW 2 ds = true) (w3 : ∀ ds ∈ S3, chkW 3 ds = true)
  (z1 : ∀ ds ∈ S1, chkZ 1 ds = true) (z2 : ∀ ds ∈ S2, chkZ 2 ds = true) (z3 : ∀ ds ∈ S3, chkZ 3 ds = true)
  (s2 : ∀ ds ∈ S2, chkS 2 ds = true) (s3 : ∀ ds ∈ S3, chkS 3 ds = true)
  (g11 : ∀ ds ∈ S1, chkG1 1 ds = true) (g12 : ∀ ds ∈ S2, chkG1 2 ds = true)
  (g21 : ∀ ds ∈ S1, chkG2 1 S2 ds = true) (g22 : ∀ ds ∈ S2, chkG2 2 S3 ds = true) : Fin10 where
  cmp := all_Sn cmp_all
  sol := all_Sn sol_all
  i1 := c_1
  d := fun k hk => match k, hk with | 0, _ => c_D1 | 1, _ => c_D2 | 2, _ => c_D3
  w := fun k hk => match k, hk with | 0, _ => w1 | 1, _ => w2 | 2, _ => w3
  z := fun k hk => match k, hk with | 0, _ => z1 | 1, _ => z2 | 2, _ => z3
  s := fun k hk h1 => match k, hk, h1 with | 1, _, _ => s2 | 2, _, _ => s3
  g1 := fun k hk => match k, hk with | 0, _ => g11 | 1, _ => g12
  g2 := fun k hk => match k, hk with | 0, _ => g21 | 1, _ => g22
end K10
namespace K10
open PySem PySem.Spec L2 Lay Com
theorem law_ok : LawOk F_law := law_of fun ns _ _ => law_run (fin10 c_1 c_D1 c_D2 c_D3 a_W1 a_W2 a_W3 a_Z1 a_Z2 a_Z3 a_S2 a_S3 a_G11 a_G12 a_G21 a_G22) ns
end K10
open PySem PySem.W PyProof.Rows
set_option maxRecDepth 100000 in
set_option maxHeartbeats 0 in
theorem PySem.Challenge.cw_tileyard_k10_diamonds_diamonds_holds : PySem.Challenge.rw_tileyard_k10_diamonds_diamonds.Holds := by
  refine K10top ?_
  k_fill
  refine Lay.law_walk (l := PySem.Challenge.rw_tileyard_k10_diamonds_diamonds) (k := 65) K10.law_ok rfl rfl ⟨rfl, by decide, by decide⟩ (fun w h Y => PySem.W.kIn_of Y) ?F
  case F =>
    intro w mg fa h KX G hmg
    refine' K10.all_mk KX G hmg ?a__law_draw ?l__law_draw ?c__law_draw ?k__law_draw ?a__law_pick ?l__law_pick ?c__law_pick ?k__law_pick ?a__law_like ?l__law_like ?c__law_like ?k__law_like ?a__law_cell ?l__law_cell ?c__law_cell ?k__law_cell ?a__law_digits ?l__law_digits ?c__law_digits ?k__law_digits ?a__law_filled ?l__law_filled ?c__law_filled ?k__law_filled ?a__law_way ?l__law_way ?c__law_way ?k__law_way ?a__law_squares ?l__law_squares ?c__law_squares ?k__law_squares ?a__law_step ?l__law_step ?c__law_step ?k__law_step ?a__law_moved ?l__law_moved ?c__law_moved ?k__law_moved ?a__law_rooms ?l__law_rooms ?c__law_rooms ?k__law_rooms ?a__law_diamond ?l__law_diamond ?c__law_diamond ?k__law_diamond ?a_diamond ?l_diamond ?c_diamond ?k_diamond ?a_way ?l_way ?c_way ?k_way ?a_is_at_edge ?l_is_at_edge ?c_is_at_edge ?k_is_at_edge ?a_moved_by ?l_moved_by ?c_moved_by ?k_moved_by ?a_frozen_of ?l_frozen_of ?c_frozen_of ?k_frozen_of ?a_frozen ?l_frozen ?c_frozen ?k_frozen ?a__law_is_frozen ?l__law_is_frozen ?c__law_is_frozen ?k__law_is_frozen ?a__law_frozen ?l__law_frozen ?c__law_frozen ?k__law_frozen ?a_power_of ?l_power_of ?c_power_of ?k_power_of ?a_how_many_diamond ?l_how_many_diamond ?c_how_many_diamond ?k_how_many_diamond ?a_with_level ?l_with_level ?c_with_level ?k_with_level ?a__law_chosen ?l__law_chosen ?c__law_chosen ?k__law_chosen ?a_partner_of ?l_partner_of ?c_partner_of ?k_partner_of ?a_without_squares ?l_without_squares ?c_without_squares ?k_without_squares ?a_free_squares ?l_free_squares ?c_free_squares ?k_free_squares ?a_shrunk ?l_shrunk ?c_shrunk ?k_shrunk ?a_slid ?l_slid ?c_slid ?k_slid ?a_rooms ?l_rooms ?c_rooms ?k_rooms ?a_filled ?l_filled ?c_filled ?k_filled ?a_grown ?l_grown ?c_grown ?k_grown ?a_law ?l_law ?c_law ?k_law ?z_all ?z_bool ?z_int ?z_isinstance ?z_len ?z_list ?z_max ?z_min ?z_range ?z_sorted ?z_str ?z_tuple ?z_zip ?y_comb ?a_GOING ?lk_GOING ?kl_GOING ?e_GOING_0 ?hT_1 ?e_GOING_1 ?hT_4 ?e_GOING_2 ?hT_7 ?e_GOING_3 ?hT_10
    (case a__law_draw => k_is); (case l__law_draw => k_is); (case c__law_draw => k_is); (case k__law_draw => k_is); (case a__law_pick => k_is); (case l__law_pick => k_is)
    (case c__law_pick => k_is); (case k__law_pick => k_is); (case a__law_like => k_is); (case l__law_like => k_is); (case c__law_like => k_is); (case k__law_like => k_is)
    (case a__law_cell => k_is); (case l__law_cell => k_is); (case c__law_cell => k_is); (case k__law_cell => k_is); (case a__law_digits => k_is); (case l__law_digits => k_is)
    (case c__law_digits => k_is); (case k__law_digits => k_is); (case a__law_filled => k_is); (case l__law_filled => k_is); (case c__law_filled => k_is); (case k__law_filled => k_is)
    (case a__law_way => k_is); (case l__law_way => k_is); (case c__law_way => k_is); (case k__law_way => k_is); (case a__law_squares => k_is); (case l__law_squares => k_is)
    (case c__law_squares => k_is); (case k__law_squares => k_is); (case a__law_step => k_is); (case l__law_step => k_is); (case c__law_step => k_is); (case k__law_step => k_is)
    (case a__law_moved => k_is); (case l__law_moved => k_is); (case c__law_moved => k_is); (case k__law_moved => k_is); (case a__law_rooms => k_is); (case l__law_rooms => k_is)
    (case c__law_rooms => k_is); (case k__law_rooms => k_is); (case a__law_diamond => k_is); (case l__law_diamond => k_is); (case c__law_diamond => k_is); (case k__law_diamond => k_is)
    (case a_diamond => k_is); (case l_diamond => k_is); (case c_diamond => k_is); (case k_diamond => k_is); (case a_way => k_is); (case l_way => k_is)
    (case c_way => k_is); (case k_way => k_is); (case a_is_at_edge => k_is); (case l_is_at_edge => k_is); (case c_is_at_edge => k_is); (case k_is_at_edge => k_is)
    (case a_moved_by => k_is); (case l_moved_by => k_is); (case c_moved_by => k_is); (case k_moved_by => k_is); (case a_frozen_of => k_is); (case l_frozen_of => k_is)
    (case c_frozen_of => k_is); (case k_frozen_of => k_is); (case a_frozen => k_is); (case l_frozen => k_is); (case c_frozen => k_is); (case k_frozen => k_is)
    (case a__law_is_frozen => k_is); (case l__law_is_frozen => k_is); (case c__law_is_frozen => k_is); (case k__law_is_frozen => k_is); (case a__law_frozen => k_is); (case l__law_frozen => k_is)
    (case c__law_frozen => k_is); (case k__law_frozen => k_is); (case a_power_of => k_is); (case l_power_of => k_is); (case c_power_of => k_is); (case k_power_of => k_is)
    (case a_how_many_diamond => k_is); (case l_how_many_diamond => k_is); (case c_how_many_diamond => k_is); (case k_how_many_diamond => k_is); (case a_with_level => k_is); (case l_with_level => k_is)
    (case c_with_level => k_is); (case k_with_level => k_is); (case a__law_chosen => k_is); (case l__law_chosen => k_is); (case c__law_chosen => k_is); (case k__law_chosen => k_is)
    (case a_partner_of => k_is); (case l_partner_of => k_is); (case c_partner_of => k_is); (case k_partner_of => k_is); (case a_without_squares => k_is); (case l_without_squares => k_is)
    (case c_without_squares => k_is); (case k_without_squares => k_is); (case a_free_squares => k_is); (case l_free_squares => k_is); (case c_free_squares => k_is); (case k_free_squares => k_is)
    (case a_shrunk => k_is); (case l_shrunk => k_is); (case c_shrunk => k_is); (case k_shrunk => k_is); (case a_slid => k_is); (case l_slid => k_is)
    (case c_slid => k_is); (case k_slid => k_is); (case a_rooms => k_is); (case l_rooms => k_is); (case c_rooms => k_is); (case k_rooms => k_is)
    (case a_filled => k_is); (case l_filled => k_is); (case c_filled => k_is); (case k_filled => k_is); (case a_grown => k_is); (case l_grown => k_is)
    (case c_grown => k_is); (case k_grown => k_is); (case a_law => k_is); (case l_law => k_is); (case c_law => k_is); (case k_law => k_is)
    (case z_all => k_is); (case z_bool => k_is); (case z_int => k_is); (case z_isinstance => k_is); (case z_len => k_is); (case z_list => k_is)
    (case z_max => k_is); (case z_min => k_is); (case z_range => k_is); (case z_sorted => k_is); (case z_str => k_is); (case z_tuple => k_is)
    (case z_zip => k_is); (case y_comb => k_is); (case a_GOING => k_is); (case lk_GOING => k_is); (case kl_GOING => k_keys); (case e_GOING_0 => k_is)
    (case hT_1 => k_is); (case e_GOING_1 => k_is); (case hT_4 => k_is); (case e_GOING_2 => k_is); (case hT_7 => k_is); (case e_GOING_3 => k_is)
    (case hT_10 => k_is)
#print axioms PySem.Challenge.cw_tileyard_k10_diamonds_diamonds_holds
