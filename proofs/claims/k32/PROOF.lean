import PyProof.Rows.All
import Wide.All
import OpenK.AllK
import Wide.FinOn
import HandS.ForMost
import HandS.ForExc
import HandS.Wide
import HandS.EndBits
import HandS.Flow
import HandS.Style
import HandS.Zip
import HandS.Deep
import HandS.Codes
import HandS.IsInst
import HandS.FStr
import HandS.Conv
import KE.KeyNested
import HandS.TupAny
import HandS.Walk
import HandS.Dict
import PyProof.Draws
import HandS.More
import HandS.NoneIn
import KE.DatumOrd
import PyProof.Rows.RowBridgeK
import HandS.TupLen
import KE.SortData
import PyProof.Rows.StrLawsPart
import PyProof.StrLawsIn
import HandS.DictEq
import KE.KDictKeyed
import HandS.SetFor
import HandS.Iter
import KE.DataMinKey
import HandS.StrMore
import HandS.Replace
import HandS.ReplaceList
import PyProof.ToksMono
import HandS.Defaults
import HandS.Exc
import PyProof.StrLawsFirst
import KE.KEqDict
import HandS.Rev
import PySem.Challenge.RW_outweave_k32_ways_walked
set_option Elab.async false
set_option synthInstance.maxSize 10000
set_option linter.all false
set_option maxRecDepth 100000
set_option exponentiation.threshold 20000
set_option maxHeartbeats 4000000
namespace LI
open PySem L2

inductive D where
  | gone
  | non
  | bl (b : Bool)
  | int (i : Int)
  | str (s : List Nat)
  | scr (ns : List Int)
  | kst (ss : List (List Nat))
  | key (ks : List Key)
  | tup (ds : List D)
  | lst (o : Bool) (ds : List D)
  | dK (o : Bool) (ks : List Key) (ds : List D)
  | dT (o : Bool) (ks : List (List Key)) (ds : List D)
  | dN (o : Bool) (ks : List NestedKey) (ds : List D)
  | obj (o : Bool) (c : Nat) (fs : List Str) (ds : List D)

abbrev FP := Addr → Nat
def one (a : Addr) : FP := fun b => if b = a then 1 else 0
def fz : FP := fun _ => 0
def fa (S T : FP) : FP := fun b => S b + T b
def Ex (H H' : Hp) : Prop := ∀ a o, H a = some o → H' a = some o
theorem Ex.refl (H : Hp) : Ex H H := fun _ _ h => h
theorem Ex.trans {H H1 H2 : Hp} (a : Ex H H1) (b : Ex H1 H2) : Ex H H2 := fun x o h => b x o (a x o h)

structure LC where
  K : PySem.W.Frag
  cl : Nat → Addr
  w : World

mutual
/-- the value is the key -/
def NkRep (K : PySem.W.Frag) (P : Hp) : NestedKey → V → Prop
  | .none, v => v = .non
  | .num i, v => v = .int i
  | .text x, v => v = .str x
  | .tup ks, v => ∃ a xs, v = .ref a ∧ SqT K P a xs ∧ NkAll K P ks xs
def NkAll (K : PySem.W.Frag) (P : Hp) : List NestedKey → List V → Prop
  | [], xs => xs = []
  | k :: ks, xs => ∃ y ys, xs = y :: ys ∧ NkRep K P k y ∧ NkAll K P ks ys
end
structure NkOk (K : PySem.W.Frag) (P : Hp) (a : Addr) (ks : List NestedKey) (bs : List Addr) : Prop where
  ne : (a == sysModules) = false
  len : ks.length = bs.length
  le : ks.length ≤ sizeLine
  nd : ks.Nodup
  at_ : ∀ p ∈ ks.zip bs, NkRep K P p.1 (.ref p.2) ∧ p.1.depth ≤ 8
abbrev DnE (w : World) : List (NestedKey × Addr × V) → List DictEntry → Prop := Paired fun p e => e.hash = p.1.hash w ∧ e.key = .ref p.2.1 ∧ RelV p.2.2 e.val
def DnObj (w : World) (l : List (NestedKey × Addr × V)) (o : Obj) : Prop := o.ExactDict ∧ ∃ es ep, o.data = .dict es ep ∧ DnE w l es.toList
def exO (a : Addr) (o : Obj) : HO := .ext fun h => h.get? a = some o
def DnAt (w : World) (H : Hp) (a : Addr) (l : List (NestedKey × Addr × V)) : Prop := ∃ o, H a = some (exO a o) ∧ DnObj w l o
theorem DnAt.of {w : World} {H H' : Hp} {a : Addr} {l : List (NestedKey × Addr × V)} (h : DnAt w H a l) (k : ∀ o, H a = some o → H' a = some o) : DnAt w H' a l := let ⟨o, h1, h2⟩ := h; ⟨o, k _ h1, h2⟩

mutual
def Rep (c : LC) (P H : Hp) : D → V → FP → Prop
  | .gone, _, S => S = fz
  | .non, v, S => v = .non ∧ S = fz
  | .bl b, v, S => v = .bl b ∧ S = fz
  | .int i, v, S => v = .int i ∧ S = fz
  | .str s, v, S => v = .str ⟨s.toArray⟩ ∧ S = fz
  | .scr ns, v, S => ∃ a, v = .ref a ∧ SqL c.K P a (ns.map V.int) ∧ S = fz
  | .kst ss, v, S => ∃ a, v = .ref a ∧ SqT c.K P a (ss.map fun s => V.str ⟨s.toArray⟩) ∧ S = fz
  | .key ks, v, S => ∃ a, v = .ref a ∧ P a = some (.tup (ks.map kV)) ∧ S = fz
  | .tup ds, v, S => ∃ a xs, v = .ref a ∧ SqT c.K P a xs ∧ RepL c P H ds xs S
  | .lst true ds, v, S => ∃ a xs T, v = .ref a ∧ H a = some (.lst xs) ∧ RepL c P H ds xs T ∧ S = fa (one a) T
  | .lst false ds, v, S => ∃ a xs, v = .ref a ∧ P a = some (.lst xs) ∧ RepL c P H ds xs S
  | .dK true ks ds, v, S => ∃ a xs T, v = .ref a ∧ H a = some (.dK (ks.zip xs)) ∧ ks.length = xs.length ∧ RepL c P H ds xs T ∧ S = fa (one a) T
  | .dK false ks ds, v, S => ∃ a xs, v = .ref a ∧ P a = some (.dK (ks.zip xs)) ∧ ks.length = xs.length ∧ RepL c P H ds xs S
  | .dT true ks ds, v, S => ∃ a xs T, v = .ref a ∧ H a = some (.dT (ks.zip xs)) ∧ ks.length = xs.length ∧ RepL c P H ds xs T ∧ S = fa (one a) T
  | .dT false ks ds, v, S => ∃ a xs, v = .ref a ∧ P a = some (.dT (ks.zip xs)) ∧ ks.length = xs.length ∧ RepL c P H ds xs S
  | .dN true ks ds, v, S => ∃ a bs xs T, v = .ref a ∧ DnAt c.w H a (ks.zip (bs.zip xs)) ∧ NkOk c.K P a ks bs ∧ ks.length = xs.length ∧ RepL c P H ds xs T ∧ S = fa (one a) T
  | .dN false ks ds, v, S => ∃ a bs xs, v = .ref a ∧ DnAt c.w P a (ks.zip (bs.zip xs)) ∧ NkOk c.K P a ks bs ∧ ks.length = xs.length ∧ RepL c P H ds xs S
  | .obj true k fs ds, v, S => ∃ a dx xs T, v = .ref a ∧ H a = some (.ins (c.cl k) dx (fs.zip xs)) ∧ fs.length = xs.length ∧ RepL c P H ds xs T ∧ S = fa (one a) T
  | .obj false k fs ds, v, S => ∃ a dx xs, v = .ref a ∧ P a = some (.ins (c.cl k) dx (fs.zip xs)) ∧ fs.length = xs.length ∧ RepL c P H ds xs S
def RepL (c : LC) (P H : Hp) : List D → List V → FP → Prop
  | [], xs, S => xs = [] ∧ S = fz
  | d :: ds, xs, S => ∃ y ys T U, xs = y :: ys ∧ Rep c P H d y T ∧ RepL c P H ds ys U ∧ S = fa T U
end
mutual
/-- nothing in it is owned -/
def frz : D → Bool
  | .tup ds => frzL ds
  | .lst o ds => !o && frzL ds
  | .dK o _ ds => !o && frzL ds
  | .dT o _ ds => !o && frzL ds
  | .dN o _ ds => !o && frzL ds
  | .obj o _ _ ds => !o && frzL ds
  | _ => true
def frzL : List D → Bool
  | [] => true
  | d :: ds => frz d && frzL ds
end
mutual
/-- the same, owned by none -/
def ice : D → D
  | .tup ds => .tup (iceL ds)
  | .lst _ ds => .lst false (iceL ds)
  | .dK _ ks ds => .dK false ks (iceL ds)
  | .dT _ ks ds => .dT false ks (iceL ds)
  | .dN _ ks ds => .dN false ks (iceL ds)
  | .obj _ k fs ds => .obj false k fs (iceL ds)
  | d => d
def iceL : List D → List D
  | [] => []
  | d :: ds => ice d :: iceL ds
end
mutual
/-- no list, dict or instance in it that is frozen -/
def noIce : D → Bool
  | .scr _ => false
  | .tup ds => noIceL ds
  | .lst o ds => o && noIceL ds
  | .dK o _ ds => o && noIceL ds
  | .dT o _ ds => o && noIceL ds
  | .dN o _ ds => o && noIceL ds
  | .obj o _ _ ds => o && noIceL ds
  | _ => true
def noIceL : List D → Bool
  | [] => true
  | d :: ds => noIce d && noIceL ds
end
theorem fa_fz (S : FP) : fa S fz = S := by funext b; simp [fa, fz]
theorem fz_fa (S : FP) : fa fz S = S := by funext b; simp [fa, fz]

theorem sqt_mono {K : PySem.W.Frag} {H H' : Hp} {a : Addr} {xs : List V} (e : Ex H H') (h : SqT K H a xs) : SqT K H' a xs := by
  rcases h with (h | ⟨o, h⟩) | h
  · exact .inl (.inl (e _ _ h))
  · exact .inl (.inr ⟨o, e _ _ h⟩)
  · exact .inr h
theorem sql_mono {K : PySem.W.Frag} {H H' : Hp} {a : Addr} {xs : List V} (e : Ex H H') (h : SqL K H a xs) : SqL K H' a xs := by
  rcases h with (h | ⟨o, h⟩) | h
  · exact .inl (.inl (e _ _ h))
  · exact .inl (.inr ⟨o, e _ _ h⟩)
  · exact .inr h

mutual
theorem NkRep.mono {K : PySem.W.Frag} {P P' : Hp} (e : ∀ (a : Addr) (xs : List V), SqT K P a xs → SqT K P' a xs) : ∀ (k : NestedKey) (v : V), NkRep K P k v → NkRep K P' k v
  | .none, v, h => h
  | .num _, v, h => h
  | .text _, v, h => h
  | .tup ks, v, ⟨a, xs, h1, h2, h3⟩ => ⟨a, xs, h1, e a xs h2, NkAll.mono e ks xs h3⟩
theorem NkAll.mono {K : PySem.W.Frag} {P P' : Hp} (e : ∀ (a : Addr) (xs : List V), SqT K P a xs → SqT K P' a xs) : ∀ (ks : List NestedKey) (vs : List V), NkAll K P ks vs → NkAll K P' ks vs
  | [], vs, h => h
  | k :: ks, vs, ⟨y, ys, h1, h2, h3⟩ => ⟨y, ys, h1, NkRep.mono e k y h2, NkAll.mono e ks ys h3⟩
end
theorem NkOk.mono {K : PySem.W.Frag} {P P' : Hp} {a : Addr} {ks : List NestedKey} {bs : List Addr} (h : NkOk K P a ks bs) (e : ∀ (a : Addr) (xs : List V), SqT K P a xs → SqT K P' a xs) : NkOk K P' a ks bs :=
  ⟨h.ne, h.len, h.le, h.nd, fun p hp => ⟨NkRep.mono e _ _ (h.at_ p hp).1, (h.at_ p hp).2⟩⟩
mutual
theorem Rep.mono {c : LC} {P H P' H' : Hp} (eP : Ex P P') : ∀ (d : D) (v : V) (S : FP), (∀ a o, 0 < S a → H a = some o → H' a = some o) → Rep c P H d v S → Rep c P' H' d v S
  | .gone, v, S, _, h => h
  | .non, v, S, _, h => h
  | .bl _, v, S, _, h => h
  | .int _, v, S, _, h => h
  | .str _, v, S, _, h => h
  | .scr ns, v, S, k, ⟨a, e, q, z⟩ => ⟨a, e, sql_mono eP q, z⟩
  | .kst ss, v, S, k, ⟨a, e, q, z⟩ => ⟨a, e, sqt_mono eP q, z⟩
  | .key ks, v, S, k, ⟨a, e, q, z⟩ => ⟨a, e, eP _ _ q, z⟩
  | .tup ds, v, S, k, ⟨a, xs, e, q, r⟩ => ⟨a, xs, e, sqt_mono eP q, RepL.mono eP ds xs S k r⟩
  | .lst true ds, v, S, k, ⟨a, xs, T, e, q, r, f⟩ => ⟨a, xs, T, e, k _ _ (by rw [f]; simp [fa, one]; omega) q, RepL.mono eP ds xs T (fun b o hb => k b o (by rw [f]; simp only [fa]; omega)) r, f⟩
  | .lst false ds, v, S, k, ⟨a, xs, e, q, r⟩ => ⟨a, xs, e, eP _ _ q, RepL.mono eP ds xs S k r⟩
  | .dK true ks ds, v, S, k, ⟨a, xs, T, e, q, n, r, f⟩ => ⟨a, xs, T, e, k _ _ (by rw [f]; simp [fa, one]; omega) q, n, RepL.mono eP ds xs T (fun b o hb => k b o (by rw [f]; simp only [fa]; omega)) r, f⟩
  | .dK false ks ds, v, S, k, ⟨a, xs, e, q, n, r⟩ => ⟨a, xs, e, eP _ _ q, n, RepL.mono eP ds xs S k r⟩
  | .dT true ks ds, v, S, k, ⟨a, xs, T, e, q, n, r, f⟩ => ⟨a, xs, T, e, k _ _ (by rw [f]; simp [fa, one]; omega) q, n, RepL.mono eP ds xs T (fun b o hb => k b o (by rw [f]; simp only [fa]; omega)) r, f⟩
  | .dT false ks ds, v, S, k, ⟨a, xs, e, q, n, r⟩ => ⟨a, xs, e, eP _ _ q, n, RepL.mono eP ds xs S k r⟩
  | .dN true ks ds, v, S, k, ⟨a, bs, xs, T, e, q, z, n, r, f⟩ => ⟨a, bs, xs, T, e, q.of fun o h => k a o (by rw [f]; simp [fa, one]; omega) h, z.mono fun _ _ => sqt_mono eP, n, RepL.mono eP ds xs T (fun b o hb => k b o (by rw [f]; simp only [fa]; omega)) r, f⟩
  | .dN false ks ds, v, S, k, ⟨a, bs, xs, e, q, z, n, r⟩ => ⟨a, bs, xs, e, q.of fun o h => eP a o h, z.mono fun _ _ => sqt_mono eP, n, RepL.mono eP ds xs S k r⟩
  | .obj true _ fs ds, v, S, k, ⟨a, dx, xs, T, e, q, n, r, f⟩ => ⟨a, dx, xs, T, e, k _ _ (by rw [f]; simp [fa, one]; omega) q, n, RepL.mono eP ds xs T (fun b o hb => k b o (by rw [f]; simp only [fa]; omega)) r, f⟩
  | .obj false _ fs ds, v, S, k, ⟨a, dx, xs, e, q, n, r⟩ => ⟨a, dx, xs, e, eP _ _ q, n, RepL.mono eP ds xs S k r⟩
theorem RepL.mono {c : LC} {P H P' H' : Hp} (eP : Ex P P') : ∀ (ds : List D) (xs : List V) (S : FP), (∀ a o, 0 < S a → H a = some o → H' a = some o) → RepL c P H ds xs S → RepL c P' H' ds xs S
  | [], xs, S, _, h => h
  | d :: ds, xs, S, k, ⟨y, ys, T, U, e, r, rs, f⟩ => ⟨y, ys, T, U, e, Rep.mono eP d y T (fun b o hb => k b o (by rw [f]; simp only [fa]; omega)) r, RepL.mono eP ds ys U (fun b o hb => k b o (by rw [f]; simp only [fa]; omega)) rs, f⟩
end
mutual
theorem Rep.frz0 {c : LC} {P H : Hp} : ∀ (d : D) (v : V) (S : FP), frz d = true → Rep c P H d v S → S = fz
  | .gone, v, S, _, h => h
  | .non, v, S, _, h => h.2
  | .bl _, v, S, _, h => h.2
  | .int _, v, S, _, h => h.2
  | .str _, v, S, _, h => h.2
  | .scr ns, v, S, k, ⟨a, e, q, z⟩ => z
  | .kst ss, v, S, k, ⟨a, e, q, z⟩ => z
  | .key ks, v, S, k, ⟨a, e, q, z⟩ => z
  | .tup ds, v, S, k, ⟨a, xs, e, q, r⟩ => RepL.frz0 ds xs S k r
  | .lst true ds, v, S, k, _ => by simp [frz] at k
  | .lst false ds, v, S, k, ⟨a, xs, e, q, r⟩ => RepL.frz0 ds xs S (by simpa [frz] using k) r
  | .dK true ks ds, v, S, k, _ => by simp [frz] at k
  | .dK false ks ds, v, S, k, ⟨a, xs, e, q, n, r⟩ => RepL.frz0 ds xs S (by simpa [frz] using k) r
  | .dT true ks ds, v, S, k, _ => by simp [frz] at k
  | .dT false ks ds, v, S, k, ⟨a, xs, e, q, n, r⟩ => RepL.frz0 ds xs S (by simpa [frz] using k) r
  | .dN true ks ds, v, S, k, _ => by simp [frz] at k
  | .dN false ks ds, v, S, k, ⟨a, bs, xs, e, q, z, n, r⟩ => RepL.frz0 ds xs S (by simpa [frz] using k) r
  | .obj true _ fs ds, v, S, k, _ => by simp [frz] at k
  | .obj false _ fs ds, v, S, k, ⟨a, dx, xs, e, q, n, r⟩ => RepL.frz0 ds xs S (by simpa [frz] using k) r
theorem RepL.frz0 {c : LC} {P H : Hp} : ∀ (ds : List D) (xs : List V) (S : FP), frzL ds = true → RepL c P H ds xs S → S = fz
  | [], xs, S, _, h => h.2
  | d :: ds, xs, S, k, ⟨y, ys, T, U, e, r, rs, f⟩ => by
    simp only [frzL, Bool.and_eq_true] at k
    rw [f, Rep.frz0 d y T k.1 r, RepL.frz0 ds ys U k.2 rs, fa_fz]
end
mutual
theorem Rep.ice {c : LC} {P H P' H' : Hp} (eP : Ex P P') : ∀ (d : D) (v : V) (S : FP), (∀ a o, 0 < S a → H a = some o → P' a = some o) → Rep c P H d v S → Rep c P' H' (ice d) v fz
  | .gone, v, S, _, h => rfl
  | .non, v, S, _, h => ⟨h.1, rfl⟩
  | .bl _, v, S, _, h => ⟨h.1, rfl⟩
  | .int _, v, S, _, h => ⟨h.1, rfl⟩
  | .str _, v, S, _, h => ⟨h.1, rfl⟩
  | .scr ns, v, S, k, ⟨a, e, q, z⟩ => ⟨a, e, sql_mono eP q, rfl⟩
  | .kst ss, v, S, k, ⟨a, e, q, z⟩ => ⟨a, e, sqt_mono eP q, rfl⟩
  | .key ks, v, S, k, ⟨a, e, q, z⟩ => ⟨a, e, eP _ _ q, rfl⟩
  | .tup ds, v, S, k, ⟨a, xs, e, q, r⟩ => ⟨a, xs, e, sqt_mono eP q, RepL.ice eP ds xs S k r⟩
  | .lst true ds, v, S, k, ⟨a, xs, T, e, q, r, f⟩ => ⟨a, xs, e, k _ _ (by rw [f]; simp [fa, one]; omega) q, RepL.ice eP ds xs T (fun b o hb => k b o (by rw [f]; simp only [fa]; omega)) r⟩
  | .lst false ds, v, S, k, ⟨a, xs, e, q, r⟩ => ⟨a, xs, e, eP _ _ q, RepL.ice eP ds xs S k r⟩
  | .dK true ks ds, v, S, k, ⟨a, xs, T, e, q, n, r, f⟩ => ⟨a, xs, e, k _ _ (by rw [f]; simp [fa, one]; omega) q, n, RepL.ice eP ds xs T (fun b o hb => k b o (by rw [f]; simp only [fa]; omega)) r⟩
  | .dK false ks ds, v, S, k, ⟨a, xs, e, q, n, r⟩ => ⟨a, xs, e, eP _ _ q, n, RepL.ice eP ds xs S k r⟩
  | .dT true ks ds, v, S, k, ⟨a, xs, T, e, q, n, r, f⟩ => ⟨a, xs, e, k _ _ (by rw [f]; simp [fa, one]; omega) q, n, RepL.ice eP ds xs T (fun b o hb => k b o (by rw [f]; simp only [fa]; omega)) r⟩
  | .dT false ks ds, v, S, k, ⟨a, xs, e, q, n, r⟩ => ⟨a, xs, e, eP _ _ q, n, RepL.ice eP ds xs S k r⟩
  | .dN true ks ds, v, S, k, ⟨a, bs, xs, T, e, q, z, n, r, f⟩ => ⟨a, bs, xs, e, q.of fun o h => k a o (by rw [f]; simp [fa, one]; omega) h, z.mono fun _ _ => sqt_mono eP, n, RepL.ice eP ds xs T (fun b o hb => k b o (by rw [f]; simp only [fa]; omega)) r⟩
  | .dN false ks ds, v, S, k, ⟨a, bs, xs, e, q, z, n, r⟩ => ⟨a, bs, xs, e, q.of fun o h => eP a o h, z.mono fun _ _ => sqt_mono eP, n, RepL.ice eP ds xs S k r⟩
  | .obj true _ fs ds, v, S, k, ⟨a, dx, xs, T, e, q, n, r, f⟩ => ⟨a, dx, xs, e, k _ _ (by rw [f]; simp [fa, one]; omega) q, n, RepL.ice eP ds xs T (fun b o hb => k b o (by rw [f]; simp only [fa]; omega)) r⟩
  | .obj false _ fs ds, v, S, k, ⟨a, dx, xs, e, q, n, r⟩ => ⟨a, dx, xs, e, eP _ _ q, n, RepL.ice eP ds xs S k r⟩
theorem RepL.ice {c : LC} {P H P' H' : Hp} (eP : Ex P P') : ∀ (ds : List D) (xs : List V) (S : FP), (∀ a o, 0 < S a → H a = some o → P' a = some o) → RepL c P H ds xs S → RepL c P' H' (iceL ds) xs fz
  | [], xs, S, _, h => ⟨h.1, rfl⟩
  | d :: ds, xs, S, k, ⟨y, ys, T, U, e, r, rs, f⟩ => ⟨y, ys, fz, fz, e, Rep.ice eP d y T (fun b o hb => k b o (by rw [f]; simp only [fa]; omega)) r, RepL.ice eP ds ys U (fun b o hb => k b o (by rw [f]; simp only [fa]; omega)) rs, (fa_fz fz).symm⟩
end
mutual
/-- what is owned stands in the heap -/
theorem Rep.there {c : LC} {P H : Hp} : ∀ (d : D) (v : V) (S : FP), Rep c P H d v S → ∀ a, 0 < S a → H a ≠ none
  | .gone, v, S, h => fun a p => by rw [show S = fz from h] at p; simp [fz] at p
  | .non, v, S, h => fun a p => by rw [h.2] at p; simp [fz] at p
  | .bl _, v, S, h => fun a p => by rw [h.2] at p; simp [fz] at p
  | .int _, v, S, h => fun a p => by rw [h.2] at p; simp [fz] at p
  | .str _, v, S, h => fun a p => by rw [h.2] at p; simp [fz] at p
  | .scr ns, v, S, ⟨a, e, q, z⟩ => fun b p => by rw [z] at p; simp [fz] at p
  | .kst ss, v, S, ⟨a, e, q, z⟩ => fun b p => by rw [z] at p; simp [fz] at p
  | .key ks, v, S, ⟨a, e, q, z⟩ => fun b p => by rw [z] at p; simp [fz] at p
  | .tup ds, v, S, ⟨a, xs, e, q, r⟩ => RepL.there ds xs S r
  | .lst true ds, v, S, ⟨a, xs, T, e, q, r, f⟩ => fun b p => by
    by_cases z : b = a
    · rw [z, q]; simp
    · exact RepL.there ds xs T r b (by rw [f] at p; simpa [fa, one, z] using p)
  | .lst false ds, v, S, ⟨a, xs, e, q, r⟩ => RepL.there ds xs S r
  | .dK true ks ds, v, S, ⟨a, xs, T, e, q, n, r, f⟩ => fun b p => by
    by_cases z : b = a
    · rw [z, q]; simp
    · exact RepL.there ds xs T r b (by rw [f] at p; simpa [fa, one, z] using p)
  | .dK false ks ds, v, S, ⟨a, xs, e, q, n, r⟩ => RepL.there ds xs S r
  | .dT true ks ds, v, S, ⟨a, xs, T, e, q, n, r, f⟩ => fun b p => by
    by_cases z : b = a
    · rw [z, q]; simp
    · exact RepL.there ds xs T r b (by rw [f] at p; simpa [fa, one, z] using p)
  | .dT false ks ds, v, S, ⟨a, xs, e, q, n, r⟩ => RepL.there ds xs S r
  | .dN true ks ds, v, S, ⟨a, bs, xs, T, e, q, _, n, r, f⟩ => fun b p => by
    by_cases z : b = a
    · obtain ⟨_, q, _⟩ := q; rw [z, q]; simp
    · exact RepL.there ds xs T r b (by rw [f] at p; simpa [fa, one, z] using p)
  | .dN false ks ds, v, S, ⟨a, bs, xs, e, q, _, n, r⟩ => RepL.there ds xs S r
  | .obj true _ fs ds, v, S, ⟨a, dx, xs, T, e, q, n, r, f⟩ => fun b p => by
    by_cases z : b = a
    · rw [z, q]; simp
    · exact RepL.there ds xs T r b (by rw [f] at p; simpa [fa, one, z] using p)
  | .obj false _ fs ds, v, S, ⟨a, dx, xs, e, q, n, r⟩ => RepL.there ds xs S r
theorem RepL.there {c : LC} {P H : Hp} : ∀ (ds : List D) (xs : List V) (S : FP), RepL c P H ds xs S → ∀ a, 0 < S a → H a ≠ none
  | [], xs, S, h => fun a p => by rw [h.2] at p; simp [fz] at p
  | d :: ds, xs, S, ⟨y, ys, T, U, e, r, rs, f⟩ => fun a p => by
    rw [f] at p
    by_cases z : 0 < T a
    · exact Rep.there d y T r a z
    · exact RepL.there ds ys U rs a (by simp only [fa] at p; omega)
end
def notTup : HO → Bool
  | .lst _ => true
  | .dK _ => true
  | .dT _ => true
  | .ins .. => true
  | .ext _ => true
  | _ => false
mutual
/-- what is owned is no tuple -/
theorem Rep.nt {c : LC} {P H : Hp} : ∀ (d : D) (v : V) (S : FP), Rep c P H d v S → ∀ a, 0 < S a → ∃ o, H a = some o ∧ notTup o = true
  | .gone, v, S, h => fun a p => by rw [show S = fz from h] at p; simp [fz] at p
  | .non, v, S, h => fun a p => by rw [h.2] at p; simp [fz] at p
  | .bl _, v, S, h => fun a p => by rw [h.2] at p; simp [fz] at p
  | .int _, v, S, h => fun a p => by rw [h.2] at p; simp [fz] at p
  | .str _, v, S, h => fun a p => by rw [h.2] at p; simp [fz] at p
  | .scr ns, v, S, ⟨a, e, q, z⟩ => fun b p => by rw [z] at p; simp [fz] at p
  | .kst ss, v, S, ⟨a, e, q, z⟩ => fun b p => by rw [z] at p; simp [fz] at p
  | .key ks, v, S, ⟨a, e, q, z⟩ => fun b p => by rw [z] at p; simp [fz] at p
  | .tup ds, v, S, ⟨a, xs, e, q, r⟩ => RepL.nt ds xs S r
  | .lst true ds, v, S, ⟨a, xs, T, e, q, r, f⟩ => fun b p => by
    by_cases z : b = a
    · rw [z]; exact ⟨_, q, rfl⟩
    · exact RepL.nt ds xs T r b (by rw [f] at p; simpa [fa, one, z] using p)
  | .lst false ds, v, S, ⟨a, xs, e, q, r⟩ => RepL.nt ds xs S r
  | .dK true ks ds, v, S, ⟨a, xs, T, e, q, n, r, f⟩ => fun b p => by
    by_cases z : b = a
    · rw [z]; exact ⟨_, q, rfl⟩
    · exact RepL.nt ds xs T r b (by rw [f] at p; simpa [fa, one, z] using p)
  | .dK false ks ds, v, S, ⟨a, xs, e, q, n, r⟩ => RepL.nt ds xs S r
  | .dT true ks ds, v, S, ⟨a, xs, T, e, q, n, r, f⟩ => fun b p => by
    by_cases z : b = a
    · rw [z]; exact ⟨_, q, rfl⟩
    · exact RepL.nt ds xs T r b (by rw [f] at p; simpa [fa, one, z] using p)
  | .dT false ks ds, v, S, ⟨a, xs, e, q, n, r⟩ => RepL.nt ds xs S r
  | .dN true ks ds, v, S, ⟨a, bs, xs, T, e, q, _, n, r, f⟩ => fun b p => by
    by_cases z : b = a
    · obtain ⟨_, q, _⟩ := q; rw [z]; exact ⟨_, q, rfl⟩
    · exact RepL.nt ds xs T r b (by rw [f] at p; simpa [fa, one, z] using p)
  | .dN false ks ds, v, S, ⟨a, bs, xs, e, q, _, n, r⟩ => RepL.nt ds xs S r
  | .obj true _ fs ds, v, S, ⟨a, dx, xs, T, e, q, n, r, f⟩ => fun b p => by
    by_cases z : b = a
    · rw [z]; exact ⟨_, q, rfl⟩
    · exact RepL.nt ds xs T r b (by rw [f] at p; simpa [fa, one, z] using p)
  | .obj false _ fs ds, v, S, ⟨a, dx, xs, e, q, n, r⟩ => RepL.nt ds xs S r
theorem RepL.nt {c : LC} {P H : Hp} : ∀ (ds : List D) (xs : List V) (S : FP), RepL c P H ds xs S → ∀ a, 0 < S a → ∃ o, H a = some o ∧ notTup o = true
  | [], xs, S, h => fun a p => by rw [h.2] at p; simp [fz] at p
  | d :: ds, xs, S, ⟨y, ys, T, U, e, r, rs, f⟩ => fun a p => by
    rw [f] at p
    by_cases z : 0 < T a
    · exact Rep.nt d y T r a z
    · exact RepL.nt ds ys U rs a (by simp only [fa] at p; omega)
end
theorem sqt_thaw {K : PySem.W.Frag} {H H' : Hp} {a : Addr} {xs : List V} (e : ∀ b o, H b = some o → notTup o = false → H' b = some o) (h : SqT K H a xs) : SqT K H' a xs := by
  rcases h with (h | ⟨o, h⟩) | h
  · exact .inl (.inl (e _ _ h rfl))
  · exact .inl (.inr ⟨o, e _ _ h rfl⟩)
  · exact .inr h
mutual
/-- what holds no frozen list asks of the frozen things for the tuples alone -/
theorem Rep.thaw {c : LC} {P P' H : Hp} (e : ∀ b o, P b = some o → notTup o = false → P' b = some o) : ∀ (d : D) (v : V) (S : FP), noIce d = true → Rep c P H d v S → Rep c P' H d v S
  | .gone, v, S, _, h => h
  | .non, v, S, _, h => h
  | .bl _, v, S, _, h => h
  | .int _, v, S, _, h => h
  | .str _, v, S, _, h => h
  | .scr ns, v, S, n, _ => by simp [noIce] at n
  | .kst ss, v, S, _, ⟨a, e1, q, z⟩ => ⟨a, e1, sqt_thaw e q, z⟩
  | .key ks, v, S, _, ⟨a, e1, q, z⟩ => ⟨a, e1, e _ _ q rfl, z⟩
  | .tup ds, v, S, n, ⟨a, xs, e1, q, r⟩ => ⟨a, xs, e1, sqt_thaw e q, RepL.thaw e ds xs S (by simpa [noIce] using n) r⟩
  | .lst true ds, v, S, n, ⟨a, xs, T, e1, q, r, f⟩ => ⟨a, xs, T, e1, q, RepL.thaw e ds xs T (by simpa [noIce] using n) r, f⟩
  | .lst false ds, v, S, n, _ => by simp [noIce] at n
  | .dK true ks ds, v, S, n, ⟨a, xs, T, e1, q, l, r, f⟩ => ⟨a, xs, T, e1, q, l, RepL.thaw e ds xs T (by simpa [noIce] using n) r, f⟩
  | .dK false ks ds, v, S, n, _ => by simp [noIce] at n
  | .dT true ks ds, v, S, n, ⟨a, xs, T, e1, q, l, r, f⟩ => ⟨a, xs, T, e1, q, l, RepL.thaw e ds xs T (by simpa [noIce] using n) r, f⟩
  | .dT false ks ds, v, S, n, _ => by simp [noIce] at n
  | .dN true ks ds, v, S, n, ⟨a, bs, xs, T, e1, q, z, l, r, f⟩ => ⟨a, bs, xs, T, e1, q, z.mono fun _ _ => sqt_thaw e, l, RepL.thaw e ds xs T (by simpa [noIce] using n) r, f⟩
  | .dN false ks ds, v, S, n, _ => by simp [noIce] at n
  | .obj true _ fs ds, v, S, n, ⟨a, dx, xs, T, e1, q, l, r, f⟩ => ⟨a, dx, xs, T, e1, q, l, RepL.thaw e ds xs T (by simpa [noIce] using n) r, f⟩
  | .obj false _ fs ds, v, S, n, _ => by simp [noIce] at n
theorem RepL.thaw {c : LC} {P P' H : Hp} (e : ∀ b o, P b = some o → notTup o = false → P' b = some o) : ∀ (ds : List D) (xs : List V) (S : FP), noIceL ds = true → RepL c P H ds xs S → RepL c P' H ds xs S
  | [], xs, S, _, h => h
  | d :: ds, xs, S, n, ⟨y, ys, T, U, e1, r, rs, f⟩ => by
    rw [noIceL, Bool.and_eq_true] at n
    exact ⟨y, ys, T, U, e1, Rep.thaw e d y T n.1 r, RepL.thaw e ds ys U n.2 rs, f⟩
end
end LI
namespace LI
open PySem L2

structure En where
  P0 : Hp
  H0 : Hp
  S0 : FP
  kp : List Bool
  vs : List V
  hv : ∀ i : Nat, kp[i]? = some true → ∃ v, vs[i]? = some v
  xw : WX

def RepO (c : LC) (P H : Hp) (d : D) : Option V → FP → Prop
  | some v, T => Rep c P H d v T
  | none, T => d = .gone ∧ T = fz
def RepE (c : LC) (P H : Hp) : List D → St → FP → Prop
  | [], [], S => S = fz
  | d :: ds, ov :: σ, S => ∃ T U, RepO c P H d ov T ∧ RepE c P H ds σ U ∧ S = fa T U
  | _, _, _ => False

structure Wd (c : LC) (E : En) (P : Hp) (S T : FP) (σ : St) (H : Hp) (ρ : List D) : Prop where
  env : RepE c P H ρ σ S
  le : ∀ a, S a + T a ≤ 1
  out : ∀ a, 0 < S a + T a → P a = none
  th : ∀ a, 0 < T a → H a ≠ none
  ph : Ex P H
  p0 : Ex E.P0 P
  fr : ∀ a o, E.S0 a = 0 → E.H0 a = some o → H a = some o
  np : ∀ a, P a ≠ none → E.P0 a ≠ none ∨ 0 < E.S0 a ∨ E.H0 a = none
  ns : ∀ a, 0 < S a + T a → 0 < E.S0 a ∨ E.H0 a = none
  kp : ∀ (i : Nat) (v : V), E.kp[i]? = some true → E.vs[i]? = some v → σ[i]? = some (some v)

structure Gr (P H P' H' : Hp) : Prop where
  p : Ex P P'
  h : Ex H H'
  ph : Ex P' H'
  new : ∀ a, P' a ≠ none → P a ≠ none ∨ H a = none
theorem Gr.refl {P H : Hp} (e : Ex P H) : Gr P H P H := ⟨.refl _, .refl _, e, fun _ h => .inl h⟩
theorem Gr.trans {P H P1 H1 P2 H2 : Hp} (a : Gr P H P1 H1) (b : Gr P1 H1 P2 H2) : Gr P H P2 H2 :=
  ⟨a.p.trans b.p, a.h.trans b.h, b.ph, fun x h => by
    rcases b.new x h with q | q
    · exact a.new x q
    · cases z : H x with
      | none => exact .inr rfl
      | some o => rw [a.h x o z] at q; cases q⟩

theorem RepO.mono {c : LC} {P H P' H' : Hp} (eP : Ex P P') {d : D} {v : Option V} {S : FP} (k : ∀ a o, 0 < S a → H a = some o → H' a = some o) (h : RepO c P H d v S) : RepO c P' H' d v S := by
  cases v with
  | none => exact h
  | some v => exact Rep.mono eP d v S k h
theorem RepE.mono {c : LC} {P H P' H' : Hp} (eP : Ex P P') : ∀ (ρ : List D) (σ : St) (S : FP), (∀ a o, 0 < S a → H a = some o → H' a = some o) → RepE c P H ρ σ S → RepE c P' H' ρ σ S
  | [], [], S, _, h => h
  | d :: ds, v :: σ, S, k, ⟨T, U, r, rs, f⟩ => ⟨T, U, RepO.mono eP (fun b o hb => k b o (by rw [f]; simp only [fa]; omega)) r, RepE.mono eP ds σ U (fun b o hb => k b o (by rw [f]; simp only [fa]; omega)) rs, f⟩
  | [], _ :: _, _, _, h => h.elim
  | _ :: _, [], _, _, h => h.elim
theorem RepO.there {c : LC} {P H : Hp} {d : D} {v : Option V} {S : FP} (h : RepO c P H d v S) : ∀ a, 0 < S a → H a ≠ none := by
  cases v with
  | none => intro a p; rw [h.2] at p; simp [fz] at p
  | some v => exact Rep.there d v S h
theorem RepE.there {c : LC} {P H : Hp} : ∀ (ρ : List D) (σ : St) (S : FP), RepE c P H ρ σ S → ∀ a, 0 < S a → H a ≠ none
  | [], [], S, h => fun a p => by rw [show S = fz from h] at p; simp [fz] at p
  | d :: ds, v :: σ, S, ⟨T, U, r, rs, f⟩ => fun a p => by
    rw [f] at p
    by_cases z : 0 < T a
    · exact r.there a z
    · exact RepE.there ds σ U rs a (by simp only [fa] at p; omega)
  | [], _ :: _, _, h => h.elim
  | _ :: _, [], _, h => h.elim
theorem RepE.len {c : LC} {P H : Hp} : ∀ (ρ : List D) (σ : St) (S : FP), RepE c P H ρ σ S → ρ.length = σ.length
  | [], [], _, _ => rfl
  | _ :: ds, _ :: σ, _, ⟨_, U, _, rs, _⟩ => by simp [RepE.len ds σ U rs]
  | [], _ :: _, _, h => h.elim
  | _ :: _, [], _, h => h.elim

section
variable {c : LC} {E : En} {P P' : Hp} {S T : FP} {σ : St} {H H' : Hp} {ρ : List D}
theorem Wd.grow (w : Wd c E P S T σ H ρ) (g : Gr P H P' H') : Wd c E P' S T σ H' ρ where
  env := w.env.mono g.p ρ σ S (fun a o _ h => g.h a o h)
  le := w.le
  out := fun a h => by
    cases z : P' a with
    | none => rfl
    | some o =>
      rcases g.new a (by rw [z]; simp) with q | q
      · exact absurd (w.out a h) q
      · by_cases hT : 0 < T a
        · exact absurd q (w.th a hT)
        · exact absurd q (RepE.there ρ σ S w.env a (by omega))
  th := fun a h z => by
    cases q : H a with
    | none => exact w.th a h q
    | some o => rw [g.h a o q] at z; cases z
  ph := g.ph
  p0 := w.p0.trans g.p
  fr := fun a o h1 h2 => g.h a o (w.fr a o h1 h2)
  np := fun a h => by
    rcases g.new a h with q | q
    · exact w.np a q
    · cases z : E.H0 a with
      | none => exact .inr (.inr rfl)
      | some o =>
        by_cases hs : E.S0 a = 0
        · rw [w.fr a o hs z] at q; cases q
        · exact .inr (.inl (by omega))
  ns := w.ns
  kp := w.kp
theorem Wd.aside (w : Wd c E P S T σ H ρ) (g : Gr P H P' H') {U : FP} (h1 : ∀ a, U a ≤ 1) (h2 : ∀ a, 0 < U a → H a = none ∧ P' a = none) (h3 : ∀ a, 0 < U a → H' a ≠ none) : Wd c E P' S (fa T U) σ H' ρ := by
  have w' := w.grow g
  have hS : ∀ a, 0 < U a → S a = 0 ∧ T a = 0 := fun a h => by
    have n := (h2 a h).1
    refine ⟨?_, ?_⟩
    · rcases Nat.eq_zero_or_pos (S a) with z | z
      · exact z
      · exact absurd n (RepE.there ρ σ S w.env a z)
    · rcases Nat.eq_zero_or_pos (T a) with z | z
      · exact z
      · exact absurd n (w.th a z)
  refine ⟨w'.env, fun a => ?_, fun a h => ?_, fun a h => ?_, w'.ph, w'.p0, w'.fr, w'.np, fun a h => ?_, w'.kp⟩
  · by_cases z : 0 < U a
    · have := hS a z; have := h1 a; simp only [fa]; omega
    · have := w.le a; simp only [fa]; omega
  · by_cases z : 0 < U a
    · exact (h2 a z).2
    · exact w'.out a (by simp only [fa] at h; omega)
  · by_cases z : 0 < U a
    · exact h3 a z
    · exact w'.th a (by simp only [fa] at h; omega)
  · by_cases z : 0 < U a
    · have n := (h2 a z).1
      cases q : E.H0 a with
      | none => exact .inr rfl
      | some o =>
        by_cases hs : E.S0 a = 0
        · rw [w.fr a o hs q] at n; cases n
        · exact .inl (by omega)
    · exact w'.ns a (by simp only [fa] at h; omega)
end

abbrev RM := List D → Option D
abbrev GM := List D → Option (D × List D)
abbrev BM := List D → Option Bool
abbrev BGM := List D → Option (Bool × List D)
def RQ (c : LC) (P H : Hp) (d : D) (Q : VK) : Prop := ∀ v H' P' U, Gr P H P' H' → Rep c P' H' d v U → Q v H'
def FQ (c : LC) (P H : Hp) (d : D) (Q : VK) : Prop := ∀ v H' P' U, Gr P H P' H' → Rep c P' H' d v U → (∀ a, U a ≤ 1) → (∀ a, 0 < U a → H a = none ∧ P' a = none) → Q v H'
def tR (c : LC) (E : En) (m : RM) : TE := fun σ H Q => ∃ P S T ρ d, Wd c E P S T σ H ρ ∧ m ρ = some d ∧ RQ c P H d Q
def tF (c : LC) (E : En) (m : RM) : TE := fun σ H Q => ∃ P S T ρ d, Wd c E P S T σ H ρ ∧ m ρ = some d ∧ FQ c P H d Q
def tG (c : LC) (E : En) (m : GM) : TE := fun σ H Q => ∃ P S T ρ d ρ', Wd c E P S T σ H ρ ∧ m ρ = some (d, ρ') ∧
  ∀ v H' P' S' U, Wd c E P' S' (fa T U) σ H' ρ' → Ex P P' → Rep c P' H' d v U → (∀ a o, 0 < T a → H a = some o → H' a = some o) → Q v H'
def tT (c : LC) (E : En) (m : BM) : TT := fun σ H Q => ∃ P S T ρ b, Wd c E P S T σ H ρ ∧ m ρ = some b ∧ ∀ H' P', Gr P H P' H' → Q b H'
theorem PE_imp {X : Cx} {e : Expr} {t t' : TE} (h : PE X e t) (k : ∀ σ H Q, t' σ H Q → t σ H Q) : PE X e t' := ⟨fun pins s σ H Q I q => h.run pins s σ H Q I (k σ H Q q)⟩
theorem PT_imp {X : Cx} {e : Expr} {t t' : TT} (h : PT X e t) (k : ∀ σ H Q, t' σ H Q → t σ H Q) : PT X e t' := ⟨fun pins s σ H Q I q => h.run pins s σ H Q I (k σ H Q q)⟩
theorem PW_imp {X : Cx} {e : Expr} {t t' : TT} (h : PW X e t) (k : ∀ σ H Q, t' σ H Q → t σ H Q) : PW X e t' := ⟨fun whole pins s σ H Q I q => h.run whole pins s σ H Q I (k σ H Q q)⟩
theorem PA_imp {X : Cx} {e : List Expr} {t t' : TA} (h : PA X e t) (k : ∀ σ H Q, t' σ H Q → t σ H Q) : PA X e t' := ⟨fun pos pins s σ H Q I q => h.run pos pins s σ H Q I (k σ H Q q)⟩
theorem PS_imp {X : Cx} {e : Stmt} {t t' : TS} (h : PS X e t) (k : ∀ D σ H, t' D σ H → t D σ H) : PS X e t' := ⟨fun pins s σ H D I q => h.run pins s σ H D I (k D σ H q)⟩
theorem PSs_imp {X : Cx} {e : List Stmt} {t t' : TS} (h : PSs X e t) (k : ∀ D σ H, t' D σ H → t D σ H) : PSs X e t' := ⟨fun pins s σ H D I q => h.run pins s σ H D I (k D σ H q)⟩

section
variable {c : LC} {E : En} {P P' : Hp} {S T : FP} {σ : St} {H H' : Hp} {ρ : List D} {X : Cx} {e : Expr} {m : RM}
theorem FQ.of_R {d : D} {Q : VK} (h : RQ c P H d Q) : FQ c P H d Q := fun v H' P' U g r _ _ => h v H' P' U g r
theorem FQ.flat {d : D} {v : V} {Q : VK} (h : FQ c P H d Q) (e : Ex P H) (r : Rep c P H d v fz) : Q v H :=
  h v H P fz (.refl e) r (fun _ => Nat.zero_le _) fun a p => by simp [fz] at p
theorem r_f (h : PE X e (tF c E m)) : PE X e (tR c E m) := PE_imp h fun σ H Q ⟨P, S, T, ρ, d, w, hm, q⟩ => ⟨P, S, T, ρ, d, w, hm, .of_R q⟩
def upF (m : RM) : GM := fun ρ => (m ρ).map fun d => (d, ρ)
def upR (m : RM) : GM := fun ρ => (m ρ).bind fun d => if frz d = true then some (d, ρ) else none
theorem g_f (h : PE X e (tF c E m)) : PE X e (tG c E (upF m)) := PE_imp h fun σ H Q ⟨P, S, T, ρ, d, ρ', w, hm, q⟩ => by
  unfold upF at hm
  cases hd : m ρ with
  | none => rw [hd] at hm; cases hm
  | some d1 =>
    rw [hd] at hm
    cases hm
    exact ⟨P, S, T, ρ, d, w, hd, fun v H' P' U g r u1 u2 => q v H' P' S U (w.aside g u1 u2 (Rep.there d v U r)) g.p r fun a o _ h => g.h a o h⟩
theorem g_r (h : PE X e (tR c E m)) : PE X e (tG c E (upR m)) := PE_imp h fun σ H Q ⟨P, S, T, ρ, d, ρ', w, hm, q⟩ => by
  unfold upR at hm
  cases hd : m ρ with
  | none => rw [hd] at hm; cases hm
  | some d1 =>
    rw [hd] at hm
    simp only [Option.bind_some] at hm
    split at hm
    · rename_i hf
      cases hm
      refine ⟨P, S, T, ρ, d, w, hd, fun v H' P' U g r => ?_⟩
      have e := Rep.frz0 d v U hf r
      subst e
      exact q v H' P' S fz (w.aside g (fun _ => Nat.zero_le _) (fun a p => by simp [fz] at p) (fun a p => by simp [fz] at p)) g.p r fun a o _ h => g.h a o h
    · cases hm
def coldM (m : RM) : RM := fun ρ => (m ρ).map ice
theorem f_cold (h : PE X e (tF c E m)) : PE X e (tF c E (coldM m)) := PE_imp h fun σ H Q ⟨P, S, T, ρ, d, w, hm, q⟩ => by
  unfold coldM at hm
  cases hd : m ρ with
  | none => rw [hd] at hm; cases hm
  | some d1 =>
    rw [hd] at hm
    cases hm
    refine ⟨P, S, T, ρ, d1, w, hd, fun v H' P' U g r u1 u2 => ?_⟩
    have r2 : Rep c (fun a => if 0 < U a then H' a else P' a) H' (ice d1) v fz := Rep.ice (fun a o z => by
        by_cases hu : 0 < U a
        · rw [(u2 a hu).2] at z; cases z
        · simp [hu, z]) d1 v U (fun a o hu hh => by simp [hu, hh]) r
    refine q v H' _ fz ⟨fun a o z => ?_, g.h, fun a o z => ?_, fun a z => ?_⟩ r2 (fun _ => Nat.zero_le _) (fun a p => by simp [fz] at p)
    · by_cases hu : 0 < U a
      · have := (u2 a hu).2; rw [g.p a o z] at this; cases this
      · simp [hu, g.p a o z]
    · by_cases hu : 0 < U a
      · simpa [hu] using z
      · exact g.ph a o (by simpa [hu] using z)
    · by_cases hu : 0 < U a
      · exact .inr (u2 a hu).1
      · exact g.new a (by simpa [hu] using z)
end
end LI
namespace LI
open PySem L2

def LIM : Nat := 4000000
theorem lim_le {n : Nat} (h : n ≤ LIM) : n ≤ sizeLine := Nat.le_trans h (by decide)
theorem lim_lt {n : Nat} (h : n < LIM) : n < sizeLine := Nat.lt_of_lt_of_le h (by decide)

theorem RepL.length {c : LC} {P H : Hp} : ∀ {ds : List D} {xs : List V} {S : FP}, RepL c P H ds xs S → ds.length = xs.length
  | [], xs, S, h => by rw [h.1]; rfl
  | d :: ds, xs, S, ⟨y, ys, T, U, e, _, rs, _⟩ => by rw [e]; simp [RepL.length rs]
theorem RepL.append {c : LC} {P H : Hp} : ∀ {ds es : List D} {xs ys : List V} {S T : FP}, RepL c P H ds xs S → RepL c P H es ys T → RepL c P H (ds ++ es) (xs ++ ys) (fa S T)
  | [], es, xs, ys, S, T, h, k => by rw [h.1, h.2, fz_fa]; exact k
  | d :: ds, es, xs, ys, S, T, ⟨y, zs, A, B, e, r, rs, f⟩, k => by
    rw [e, f]
    exact ⟨y, zs ++ ys, A, fa B T, rfl, r, RepL.append rs k, by funext a; simp only [fa]; omega⟩
theorem RepL.get {c : LC} {P H : Hp} : ∀ {ds : List D} {xs : List V} {S : FP} {i : Nat} {d : D}, RepL c P H ds xs S → ds[i]? = some d → ∃ x T, xs[i]? = some x ∧ Rep c P H d x T ∧ ∀ a, T a ≤ S a
  | [], xs, S, i, d, h, e => by simp at e
  | d0 :: ds, xs, S, 0, d, ⟨y, zs, A, B, e, r, rs, f⟩, q => by
    simp at q; subst q
    exact ⟨y, A, by rw [e]; rfl, r, fun a => by rw [f]; simp only [fa]; omega⟩
  | d0 :: ds, xs, S, i + 1, d, ⟨y, zs, A, B, e, r, rs, f⟩, q => by
    obtain ⟨x, T, h1, h2, h3⟩ := RepL.get (i := i) (d := d) rs (by simpa using q)
    exact ⟨x, T, by rw [e]; simpa using h1, h2, fun a => by have := h3 a; rw [f]; simp only [fa]; omega⟩
theorem frzL_iff : ∀ {ds : List D}, frzL ds = true ↔ ∀ d ∈ ds, frz d = true
  | [] => by simp [frzL]
  | d :: ds => by simp [frzL, frzL_iff (ds := ds)]
theorem RepL.drop {c : LC} {P H : Hp} : ∀ {ds : List D} {xs : List V} (n : Nat), RepL c P H ds xs fz → RepL c P H (ds.drop n) (xs.drop n) fz
  | ds, xs, 0, h => h
  | [], xs, n + 1, h => by rw [h.1]; exact ⟨rfl, rfl⟩
  | d :: ds, xs, n + 1, ⟨y, zs, A, B, e, r, rs, f⟩ => by
    have hB : B = fz := by
      funext a
      have := congrFun f a
      simp only [fa, fz] at this ⊢
      omega
    subst hB
    rw [e]
    exact RepL.drop n rs
theorem RepL.take {c : LC} {P H : Hp} : ∀ {ds : List D} {xs : List V} (n : Nat), RepL c P H ds xs fz → RepL c P H (ds.take n) (xs.take n) fz
  | ds, xs, 0, h => ⟨rfl, rfl⟩
  | [], xs, n + 1, h => by rw [h.1]; exact ⟨rfl, rfl⟩
  | d :: ds, xs, n + 1, ⟨y, zs, A, B, e, r, rs, f⟩ => by
    have hB : A = fz ∧ B = fz := by
      refine ⟨?_, ?_⟩ <;> funext a <;> (have := congrFun f a; simp only [fa, fz] at this ⊢; omega)
    obtain ⟨rfl, rfl⟩ := hB
    rw [e]
    exact ⟨y, zs.take n, fz, fz, rfl, r, RepL.take n rs, (fa_fz fz).symm⟩
theorem RepL.rep {c : LC} {P H : Hp} {ds : List D} {xs : List V} (h : RepL c P H ds xs fz) : ∀ n : Nat, RepL c P H (List.replicate n ds).flatten (List.replicate n xs).flatten fz
  | 0 => ⟨rfl, rfl⟩
  | n + 1 => by
    have := RepL.append h (RepL.rep h n)
    rw [fa_fz] at this
    simpa [List.replicate_succ] using this

section
variable {c : LC} {P H : Hp} {Q : VK}
theorem none_of {a : Addr} (e : Ex P H) (h : H a = none) : P a = none := by
  cases z : P a with
  | none => rfl
  | some o => rw [e a o z] at h; cases h
theorem ex_new {p : Addr} {o : HO} (h : H p = none) : Ex H (upd H p o) := fun a u e => by
  rw [upd_ne (ne_of_none e h)]; exact e
theorem one_le {p : Addr} : ∀ a, one p a ≤ 1 := fun a => by unfold one; split <;> omega
theorem one_pos {p a : Addr} (h : 0 < one p a) : a = p := by unfold one at h; split at h <;> first | assumption | omega
theorem FQ.lst {ds : List D} {xs : List V} (h : FQ c P H (.lst true ds) Q) (e : Ex P H) (r : RepL c P H ds xs fz) : ∀ p, H p = none → Q (.ref p) (upd H p (.lst xs)) := fun p hp => by
  refine h _ _ P (one p) ⟨.refl _, ex_new hp, e.trans (ex_new hp), fun _ z => .inl z⟩ ⟨p, xs, fz, rfl, upd_same, RepL.mono (.refl _) ds xs fz (fun a o z _ => by simp [fz] at z) r, (fa_fz _).symm⟩ one_le fun a z => ?_
  rw [one_pos z]
  exact ⟨hp, none_of e hp⟩
theorem FQ.tup {ds : List D} {xs : List V} (h : FQ c P H (.tup ds) Q) (e : Ex P H) (r : RepL c P H ds xs fz) : ∀ p, H p = none → Q (.ref p) (upd H p (.tup xs)) := fun p hp => by
  have hP := none_of e hp
  refine h _ _ (upd P p (.tup xs)) fz ⟨ex_new hP, ex_new hp, fun a o z => ?_, fun a z => ?_⟩ ⟨p, xs, rfl, .inl (.inl upd_same), RepL.mono (ex_new hP) ds xs fz (fun a o z _ => by simp [fz] at z) r⟩ (fun _ => Nat.zero_le _) (fun a z => by simp [fz] at z)
  · by_cases q : a = p
    · subst q; rw [upd_same] at z ⊢; exact z
    · rw [upd_ne q] at z ⊢; exact e a o z
  · by_cases q : a = p
    · subst q; exact .inr hp
    · rw [upd_ne q] at z; exact .inl z
theorem FQ.grow {P2 H2 : Hp} {d : D} (h : FQ c P H d Q) (g : Gr P H P2 H2) : FQ c P2 H2 d Q := fun v H' P' U g2 r u1 u2 => h v H' P' U (g.trans g2) r u1 fun a z => by
  obtain ⟨n1, n2⟩ := u2 a z
  refine ⟨?_, n2⟩
  cases q : H a with
  | none => rfl
  | some o => rw [g.h a o q] at n1; cases n1
theorem RQ.grow {P2 H2 : Hp} {d : D} (h : RQ c P H d Q) (g : Gr P H P2 H2) : RQ c P2 H2 d Q := fun v H' P' U g2 r => h v H' P' U (g.trans g2) r
theorem Rep.gr {P2 H2 : Hp} {d : D} {v : V} {S : FP} (r : Rep c P H d v S) (g : Gr P H P2 H2) : Rep c P2 H2 d v S := Rep.mono g.p d v S (fun a o _ h => g.h a o h) r
theorem RepL.gr {P2 H2 : Hp} {d : List D} {v : List V} {S : FP} (r : RepL c P H d v S) (g : Gr P H P2 H2) : RepL c P2 H2 d v S := RepL.mono g.p d v S (fun a o _ h => g.h a o h) r
end

def m2 (f : D → D → Option D) (ma mb : RM) : RM := fun ρ => (ma ρ).bind fun x => (mb ρ).bind fun y => f x y
def m1 (f : D → Option D) (ma : RM) : RM := fun ρ => (ma ρ).bind f
def Op2 (c : LC) (r : R2) (f : D → D → Option D) : Prop := ∀ (P H : Hp), Ex P H → ∀ da db d x y U1 U2, f da db = some d → Rep c P H da x U1 → Rep c P H db y U2 → ∀ Q, FQ c P H d Q → r x y H Q
section
variable {X : Cx} {cl : Nat → Addr} {E : En} {a b : Expr} {pos : Pos} {ma mb : RM} {r : R2} {f : D → D → Option D}
theorem op2_run (hf : Op2 ⟨X.K, cl, X.w⟩ r f) {σ : L2.St} {H : Hp} {Q : VK} (h : tF ⟨X.K, cl, X.w⟩ E (m2 f ma mb) σ H Q) : tOp r (tR ⟨X.K, cl, X.w⟩ E ma) (tR ⟨X.K, cl, X.w⟩ E mb) σ H Q := by
  obtain ⟨P, S, T, ρ, d, w, hm, q⟩ := h
  unfold m2 at hm
  cases ea : ma ρ with
  | none => rw [ea] at hm; cases hm
  | some da =>
    cases eb : mb ρ with
    | none => rw [ea, eb] at hm; cases hm
    | some db =>
      rw [ea, eb] at hm
      refine ⟨P, S, T, ρ, da, w, ea, fun x H1 P1 U1 g1 r1 => ⟨P1, S, T, ρ, db, w.grow g1, eb, fun y H2 P2 U2 g2 r2 => ?_⟩⟩
      exact hf P2 H2 g2.ph _ _ _ _ _ _ _ hm (r1.gr g2) r2 Q (q.grow (g1.trans g2))
theorem f_bin {op : Operator} (ho : OpR X (binaryOp op) r) (hf : Op2 ⟨X.K, cl, X.w⟩ r f) (ha : PE X a (tR ⟨X.K, cl, X.w⟩ E ma)) (hb : PE X b (tR ⟨X.K, cl, X.w⟩ E mb)) : PE X (.BinOp a op b pos) (tF ⟨X.K, cl, X.w⟩ E (m2 f ma mb)) :=
  PE_imp (pe_op ho ha hb) fun _ _ _ h => op2_run hf h
theorem f_cmp {op : CmpOp} (ho : OpR X (compareOp op) r) (hf : Op2 ⟨X.K, cl, X.w⟩ r f) (ha : PE X a (tR ⟨X.K, cl, X.w⟩ E ma)) (hb : PE X b (tR ⟨X.K, cl, X.w⟩ E mb)) (hm : behindInMarks op b = false) : PE X (.Compare a [op] [b] pos) (tF ⟨X.K, cl, X.w⟩ E (m2 f ma mb)) :=
  PE_imp (pe_cmpR ho ha hb hm) fun _ _ _ h => op2_run hf h
def bM (m : RM) : BM := fun ρ => (m ρ).bind fun d => match d with | .bl b => some b | _ => none
theorem bM_some {m : RM} {ρ : List D} {b : Bool} (h : bM m ρ = some b) : m ρ = some (.bl b) := by
  unfold bM at h
  cases e : m ρ with
  | none => rw [e] at h; cases h
  | some d =>
    rw [e] at h
    cases d with
    | bl k => simp at h; rw [h]
    | _ => simp at h
theorem t_test {e : Expr} {m : RM} {t : TE} (h : PT X e (tTest t)) (k : ∀ σ H Q, tF ⟨X.K, cl, X.w⟩ E m σ H Q → t σ H Q) : PT X e (tT ⟨X.K, cl, X.w⟩ E (bM m)) :=
  PT_imp h fun σ H Q ⟨P, S, T, ρ, b, w, hm, q⟩ => k σ H _ ⟨P, S, T, ρ, .bl b, w, bM_some hm, fun v H' P' U g r _ _ => ⟨b, r.1, q H' P' g⟩⟩
theorem t_cmp {op : CmpOp} (ho : OpR X (compareOp op) r) (hf : Op2 ⟨X.K, cl, X.w⟩ r f) (ha : PE X a (tR ⟨X.K, cl, X.w⟩ E ma)) (hb : PE X b (tR ⟨X.K, cl, X.w⟩ E mb)) (hm : behindInMarks op b = false) : PT X (.Compare a [op] [b] pos) (tT ⟨X.K, cl, X.w⟩ E (bM (m2 f ma mb))) :=
  t_test (pt_cmpR ho ha hb hm) fun _ _ _ h => op2_run hf h
end
theorem OpR_or {X : Cx} {g : Value → Value → Sem Value} {r r' : R2} (h : OpR X g r) (h' : OpR X g r') : OpR X g (fun x y H Q => r x y H Q ∨ r' x y H Q) := fun pins s σ H x y v u Q I rx ry q => q.elim (h pins s σ H x y v u Q I rx ry) (h' pins s σ H x y v u Q I rx ry)

def addD : D → D → Option D
  | .int a, .int b => some (.int (a + b))
  | .str a, .str b => if a.length + b.length ≤ LIM then some (.str (a ++ b)) else none
  | .lst _ a, .lst _ b => if (frzL a && frzL b) = true ∧ a.length + b.length ≤ LIM then some (.lst true (a ++ b)) else none
  | .tup a, .tup b => if (frzL a && frzL b) = true ∧ a.length + b.length ≤ LIM then some (.tup (a ++ b)) else none
  | _, _ => none
def rAddA (K : PySem.W.Frag) : R2 := fun x y H Q => (rI0 (fun i j => .int (i + j))) x y H Q ∨ (∃ i j, x = .str i ∧ y = .str j ∧ i.length + j.length ≤ sizeLine ∧ Q (.str (i ++ j)) H) ∨ rCat x y H Q ∨ rCatA K x y H Q
section
variable {X : Cx} {c : LC}
theorem opr_add : OpR X (binaryOp .Add) (rAddA X.K) := OpR_or op_add (OpR_or op_add_str (OpR_or op_cat op_catA))
theorem lst_heap {P H : Hp} (e : Ex P H) {o : Bool} {ds : List D} {v : V} {U : FP} (r : Rep c P H (.lst o ds) v U) : ∃ a xs T, v = .ref a ∧ H a = some (.lst xs) ∧ RepL c P H ds xs T ∧ ∀ a, T a ≤ U a := by
  cases o with
  | true =>
    obtain ⟨a, xs, T, e1, h, rl, f⟩ := r
    exact ⟨a, xs, T, e1, h, rl, fun b => by rw [f]; simp only [fa]; omega⟩
  | false =>
    obtain ⟨a, xs, e1, h, rl⟩ := r
    exact ⟨a, xs, U, e1, e _ _ h, rl, fun _ => Nat.le_refl _⟩
theorem lst_heap0 {P H : Hp} (e : Ex P H) {o : Bool} {ds : List D} {v : V} {U : FP} (r : Rep c P H (.lst o ds) v U) (hf : frzL ds = true) : ∃ a xs, v = .ref a ∧ H a = some (.lst xs) ∧ RepL c P H ds xs fz := by
  obtain ⟨a, xs, T, e1, h, rl, _⟩ := lst_heap e r
  have z := RepL.frz0 ds xs T hf rl
  subst z
  exact ⟨a, xs, e1, h, rl⟩
theorem tup_heap0 {P H : Hp} (e : Ex P H) {ds : List D} {v : V} {U : FP} (r : Rep c P H (.tup ds) v U) (hf : frzL ds = true) : ∃ a xs, v = .ref a ∧ SqT c.K H a xs ∧ SqT c.K P a xs ∧ RepL c P H ds xs fz := by
  obtain ⟨a, xs, e1, h, rl⟩ := r
  have z := RepL.frz0 ds xs U hf rl
  subst z
  exact ⟨a, xs, e1, sqt_mono e h, h, rl⟩
theorem str_app (a b : List Nat) : (⟨a.toArray⟩ : Str) ++ (⟨b.toArray⟩ : Str) = ⟨(a ++ b).toArray⟩ := by
  show (Str.mk (a.toArray ++ b.toArray)) = _
  simp
theorem str_len (a : List Nat) : (⟨a.toArray⟩ : Str).length = a.length := by
  show a.toArray.size = _
  simp
theorem op_addD : Op2 c (rAddA c.K) addD := by
  intro P H e da db d x y U1 U2 hf r1 r2 Q q
  unfold addD at hf
  split at hf
  · rename_i a b
    cases hf
    exact .inl ⟨a, b, r1.1, r2.1, q.flat e ⟨rfl, rfl⟩⟩
  · rename_i a b
    split at hf
    · rename_i hl
      cases hf
      refine .inr (.inl ⟨_, _, r1.1, r2.1, ?_, ?_⟩)
      · rw [str_len, str_len]; exact lim_le hl
      · rw [str_app]; exact q.flat e ⟨rfl, rfl⟩
    · cases hf
  · rename_i o1 a o2 b
    split at hf
    · rename_i hl
      obtain ⟨hz, hl⟩ := hl
      simp only [Bool.and_eq_true] at hz
      cases hf
      obtain ⟨p1, xs, rfl, h1, l1⟩ := lst_heap0 e r1 hz.1
      obtain ⟨p2, ys, rfl, h2, l2⟩ := lst_heap0 e r2 hz.2
      refine .inr (.inr (.inl ⟨p1, p2, xs, ys, rfl, rfl, h1, h2, ?_, q.lst e ?_⟩))
      · rw [← l1.length, ← l2.length]; exact lim_le hl
      · have := l1.append l2; rwa [fa_fz] at this
    · cases hf
  · rename_i a b
    split at hf
    · rename_i hl
      obtain ⟨hz, hl⟩ := hl
      simp only [Bool.and_eq_true] at hz
      cases hf
      obtain ⟨p1, xs, rfl, h1, h1', l1⟩ := tup_heap0 e r1 hz.1
      obtain ⟨p2, ys, rfl, h2, h2', l2⟩ := tup_heap0 e r2 hz.2
      have ll := l1.append l2
      rw [fa_fz] at ll
      refine .inr (.inr (.inr ⟨p1, p2, xs, ys, rfl, rfl, h1, h2, ?_, ?_⟩))
      · rw [← l1.length, ← l2.length]; exact lim_le hl
      · refine ⟨fun z => ?_, fun _ z => ?_, fun _ _ => q.tup e ll⟩
        · subst z
          have h0 : a = [] := by have := l1.length; simpa using this
          subst h0
          exact q.flat e ⟨p2, ys, rfl, h2', l2⟩
        · subst z
          have h0 : b = [] := by have := l2.length; simpa using this
          subst h0
          exact q.flat e ⟨p1, xs, rfl, h1', by simpa using l1⟩
    · cases hf
  · cases hf

theorem op_i0 {g : Int → Int → V} {gd : Int → Int → D} {f : D → D → Option D} (hf : ∀ a b d, f a b = some d → ∃ i j, a = .int i ∧ b = .int j ∧ d = gd i j) (hg : ∀ (P H : Hp) i j, Rep c P H (gd i j) (g i j) fz) : Op2 c (rI0 g) f := by
  intro P H e da db d x y U1 U2 h r1 r2 Q q
  obtain ⟨i, j, rfl, rfl, rfl⟩ := hf _ _ _ h
  exact ⟨i, j, r1.1, r2.1, q.flat e (hg P H i j)⟩
theorem op_i {C : Int → Int → Prop} {g : Int → Int → V} {gd : Int → Int → D} {f : D → D → Option D} (hf : ∀ a b d, f a b = some d → ∃ i j, a = .int i ∧ b = .int j ∧ d = gd i j ∧ C i j) (hg : ∀ (P H : Hp) i j, Rep c P H (gd i j) (g i j) fz) : Op2 c (rI C g) f := by
  intro P H e da db d x y U1 U2 h r1 r2 Q q
  obtain ⟨i, j, rfl, rfl, rfl, hc⟩ := hf _ _ _ h
  exact ⟨i, j, r1.1, r2.1, hc, q.flat e (hg P H i j)⟩
def subD : D → D → Option D
  | .int a, .int b => some (.int (a - b))
  | _, _ => none
theorem op_subD : Op2 c (rI0 fun i j => .int (i - j)) subD := op_i0 (gd := fun i j => .int (i - j)) (fun a b d h => by
  unfold subD at h; split at h
  · cases h; exact ⟨_, _, rfl, rfl, rfl⟩
  · cases h) fun _ _ _ _ => ⟨rfl, rfl⟩
def fdivD : D → D → Option D
  | .int a, .int b => if 0 < b ∧ b.natAbs.log2 < 9000 then some (.int (a / b)) else none
  | _, _ => none
theorem op_fdivD : Op2 c (rI CDivW fun i j => .int (i / j)) fdivD := op_i (gd := fun i j => .int (i / j)) (fun a b d h => by
  unfold fdivD at h; split at h
  · split at h
    · cases h; exact ⟨_, _, rfl, rfl, rfl, by assumption⟩
    · cases h
  · cases h) fun _ _ _ _ => ⟨rfl, rfl⟩
def modD : D → D → Option D
  | .int a, .int b => if 0 < b then some (.int (a % b)) else none
  | _, _ => none
theorem op_modD : Op2 c (rI (fun _ j => 0 < j) fun i j => .int (i % j)) modD := op_i (gd := fun i j => .int (i % j)) (fun a b d h => by
  unfold modD at h; split at h
  · split at h
    · cases h; exact ⟨_, _, rfl, rfl, rfl, by assumption⟩
    · cases h
  · cases h) fun _ _ _ _ => ⟨rfl, rfl⟩
def powD : D → D → Option D
  | .int a, .int b => if 0 ≤ b ∧ b ≤ 1000000 ∧ a.natAbs < 2 ^ 64 then some (.int (a ^ b.toNat)) else none
  | _, _ => none
theorem op_powD : Op2 c (rI CPow fun i j => .int (i ^ j.toNat)) powD := op_i (gd := fun i j => .int (i ^ j.toNat)) (fun a b d h => by
  unfold powD at h; split at h
  · split at h
    · cases h; exact ⟨_, _, rfl, rfl, rfl, by assumption⟩
    · cases h
  · cases h) fun _ _ _ _ => ⟨rfl, rfl⟩

def mulD : D → D → Option D
  | .int a, .int b => if (-(2 ^ 64) < a ∧ a < 2 ^ 64) ∨ (-(2 ^ 64) < b ∧ b < 2 ^ 64) then some (.int (a * b)) else none
  | .lst _ a, .int k => if frzL a = true ∧ k ≤ 1000000 ∧ -1000000 ≤ k ∧ a.length * k.toNat ≤ LIM then some (.lst true (List.replicate k.toNat a).flatten) else none
  | .str a, .int k => if k ≤ 1000000 ∧ -1000000 ≤ k ∧ a.length * k.toNat ≤ LIM then some (.str (List.replicate k.toNat a).flatten) else none
  | _, _ => none
def rRepS : R2 := fun x y H Q => ∃ z k, x = .str z ∧ y = .int k ∧ MulOk z k ∧ Q (.str (Txt.mul z k)) H
theorem op_repS : OpR X (binaryOp .Mult) rRepS := by
  intro pins s σ H x y v u Q I rx ry h
  obtain ⟨z, k, rfl, rfl, hk, q⟩ := h
  obtain ⟨t, rfl⟩ := rx
  obtain ⟨t', rfl⟩ := ry
  exact PySem.SB.mul hk fun t' k => ⟨.str _, H, I.tok _, ⟨_, rfl⟩, q⟩
def rMulA : R2 := fun x y H Q => rI CMul (fun i j => .int (i * j)) x y H Q ∨ rRep x y H Q ∨ rRepS x y H Q
theorem opr_mul : OpR X (binaryOp .Mult) rMulA := OpR_or op_mul (OpR_or op_rep op_repS)
theorem foldl_app (a : Array Nat) : ∀ (n : Nat) (b : Array Nat), (List.replicate n a).foldl (· ++ ·) b = (b.toList ++ (List.replicate n a.toList).flatten).toArray
  | 0, b => by simp
  | n + 1, b => by
    rw [List.replicate_succ, List.foldl_cons, foldl_app a n]
    simp [List.replicate_succ]
theorem str_mul {a : List Nat} {k : Int} (h1 : k ≤ 1000000) (h2 : -1000000 ≤ k) (h3 : a.length * k.toNat ≤ LIM) : MulOk ⟨a.toArray⟩ k ∧ Txt.mul ⟨a.toArray⟩ k = ⟨(List.replicate k.toNat a).flatten.toArray⟩ := by
  refine ⟨⟨?_, fun n1 n2 => ?_, fun n1 n2 => ?_⟩, ?_⟩
  · rw [Bool.or_eq_false_iff, decide_eq_false_iff_not, decide_eq_false_iff_not]; omega
  · rw [str_len]
    have h4 : (a.length : Int) * k ≤ 2 ^ 63 - 1 := by
      have e1 : (k.toNat : Int) = k := by omega
      have e2 : ((a.length * k.toNat : Nat) : Int) = (a.length : Int) * k := by rw [Int.natCast_mul, e1]
      unfold LIM at h3
      omega
    have := Int.le_ediv_of_mul_le (by omega) h4
    omega
  · rw [str_len]
    have := lim_le h3
    unfold Builtin.Str.tooLong
    simp; omega
  · unfold Txt.mul
    by_cases n1 : k < 1
    · rw [if_pos n1, show k.toNat = 0 by omega]; rfl
    · rw [if_neg n1]
      by_cases n2 : (k == 1 || (⟨a.toArray⟩ : Str).length == 0) = true
      · rw [if_pos n2]
        rw [str_len] at n2
        simp only [Bool.or_eq_true, beq_iff_eq] at n2
        rcases n2 with n2 | n2
        · subst n2; simp
        · have : a = [] := List.length_eq_zero_iff.mp n2
          subst this; simp
      · rw [if_neg n2, foldl_app]; simp
theorem op_mulD : Op2 c rMulA mulD := by
  intro P H e da db d x y U1 U2 hf r1 r2 Q q
  unfold mulD at hf
  split at hf
  · rename_i a b
    split at hf
    · rename_i hc
      cases hf
      exact .inl ⟨a, b, r1.1, r2.1, hc, q.flat e ⟨rfl, rfl⟩⟩
    · cases hf
  · rename_i o a k
    split at hf
    · rename_i hl
      obtain ⟨hz, h1, h2, h3⟩ := hl
      cases hf
      obtain ⟨p1, xs, rfl, hh, l1⟩ := lst_heap0 e r1 hz
      refine .inr (.inl ⟨p1, k, xs, rfl, r2.1, hh, by omega, by omega, ?_, q.lst e (l1.rep _)⟩)
      rw [← l1.length]; exact lim_le h3
    · cases hf
  · rename_i a k
    split at hf
    · rename_i hl
      obtain ⟨h1, h2, h3⟩ := hl
      cases hf
      obtain ⟨m1, m2⟩ := str_mul h1 h2 h3
      exact .inr (.inr ⟨_, k, r1.1, r2.1, m1, by rw [m2]; exact q.flat e ⟨rfl, rfl⟩⟩)
    · cases hf
  · cases hf

def cmpD (fi : Int → Int → Bool) (fs : List Nat → List Nat → Bool) : D → D → Option D
  | .int a, .int b => some (.bl (fi a b))
  | .str a, .str b => some (.bl (fs a b))
  | _, _ => none
theorem op_cmpD {fi : Int → Int → Bool} {fs : List Nat → List Nat → Bool} : Op2 c (fun x y H Q => rI0 (fun i j => .bl (fi i j)) x y H Q ∨ ∃ i j, x = .str i ∧ y = .str j ∧ Q (.bl (fs i.cps.toList j.cps.toList)) H) (cmpD fi fs) := by
  intro P H e da db d x y U1 U2 hf r1 r2 Q q
  unfold cmpD at hf
  split at hf
  · cases hf
    exact .inl ⟨_, _, r1.1, r2.1, q.flat e ⟨rfl, rfl⟩⟩
  · rename_i a b
    cases hf
    exact .inr ⟨_, _, r1.1, r2.1, q.flat e ⟨by simp, rfl⟩⟩
  · cases hf
def ltD : D → D → Option D := cmpD (fun i j => decide (i < j)) fun i j => decide (i < j)
def leD : D → D → Option D := cmpD (fun i j => decide (i ≤ j)) fun i j => !decide (j < i)
def gtD : D → D → Option D := cmpD (fun i j => decide (j < i)) fun i j => decide (j < i)
def geD : D → D → Option D := cmpD (fun i j => decide (j ≤ i)) fun i j => !decide (i < j)
theorem opr_lt : OpR X (compareOp .Lt) (fun x y H Q => rI0 (fun i j => .bl (decide (i < j))) x y H Q ∨ ∃ i j, x = .str i ∧ y = .str j ∧ Q (.bl (decide (i.cps.toList < j.cps.toList))) H) := OpR_or op_lt op_lt_str
theorem opr_gt : OpR X (compareOp .Gt) (fun x y H Q => rI0 (fun i j => .bl (decide (j < i))) x y H Q ∨ ∃ i j, x = .str i ∧ y = .str j ∧ Q (.bl (decide (j.cps.toList < i.cps.toList))) H) := OpR_or op_gt op_gt_str
theorem opr_ge : OpR X (compareOp .GtE) (fun x y H Q => rI0 (fun i j => .bl (decide (j ≤ i))) x y H Q ∨ ∃ i j, x = .str i ∧ y = .str j ∧ Q (.bl (!decide (i.cps.toList < j.cps.toList))) H) := OpR_or op_ge op_ge_str

def keyP : Key → PyData
  | .inl i => .int i
  | .inr s => .str s
mutual
def toP : D → Option PyData
  | .non => some .none
  | .bl b => some (.bool b)
  | .int i => some (.int i)
  | .str s => some (.str ⟨s.toArray⟩)
  | .scr ns => some (.list (ns.map .int))
  | .kst ss => some (.tuple (ss.map fun s => .str ⟨s.toArray⟩))
  | .key ks => some (.tuple (ks.map keyP))
  | .tup ds => (toPL ds).map .tuple
  | .lst _ ds => (toPL ds).map .list
  | _ => none
def toPL : List D → Option (List PyData)
  | [] => some []
  | d :: ds => (toP d).bind fun p => (toPL ds).map fun ps => p :: ps
end
theorem dp_scr {K : PySem.W.Frag} {H : Hp} : ∀ ns : List Int, DpAll K H (ns.map V.int) (ns.map PyData.int)
  | [] => .nil
  | n :: ns => .cons (.int n) (dp_scr ns)
theorem dp_kst {K : PySem.W.Frag} {H : Hp} : ∀ ss : List (List Nat), DpAll K H (ss.map fun s => V.str ⟨s.toArray⟩) (ss.map fun s => PyData.str ⟨s.toArray⟩)
  | [] => .nil
  | s :: ss => .cons (.str _) (dp_kst ss)
theorem dp_key {K : PySem.W.Frag} {H : Hp} : ∀ ks : List Key, DpAll K H (ks.map kV) (ks.map keyP)
  | [] => .nil
  | .inl i :: ks => .cons (.int i) (dp_key ks)
  | .inr s :: ks => .cons (.str s) (dp_key ks)
mutual
theorem dp_of {P H : Hp} (e : Ex P H) : ∀ (d : D) (v : V) (U : FP) (p : PyData), toP d = some p → Rep c P H d v U → Dp c.K H v p
  | .non, v, U, p, h, r => by cases h; rw [r.1]; exact .non
  | .bl b, v, U, p, h, r => by cases h; rw [r.1]; exact .bl b
  | .int b, v, U, p, h, r => by cases h; rw [r.1]; exact .int b
  | .str b, v, U, p, h, r => by cases h; rw [r.1]; exact .str _
  | .scr ns, v, U, p, h, ⟨a, e1, q, _⟩ => by cases h; rw [e1]; exact .lst (sql_mono e q) (dp_scr ns)
  | .kst ss, v, U, p, h, ⟨a, e1, q, _⟩ => by cases h; rw [e1]; exact .tup (sqt_mono e q) (dp_kst ss)
  | .key ks, v, U, p, h, ⟨a, e1, q, _⟩ => by cases h; rw [e1]; exact .tup (.inl (.inl (e _ _ q))) (dp_key ks)
  | .tup ds, v, U, p, h, ⟨a, xs, e1, q, r⟩ => by
    unfold toP at h
    cases z : toPL ds with
    | none => rw [z] at h; cases h
    | some ps => rw [z] at h; cases h; rw [e1]; exact .tup (sqt_mono e q) (dp_all e ds xs U ps z r)
  | .lst true ds, v, U, p, h, ⟨a, xs, T, e1, q, r, _⟩ => by
    unfold toP at h
    cases z : toPL ds with
    | none => rw [z] at h; cases h
    | some ps => rw [z] at h; cases h; rw [e1]; exact .lst (.inl (.inl q)) (dp_all e ds xs T ps z r)
  | .lst false ds, v, U, p, h, ⟨a, xs, e1, q, r⟩ => by
    unfold toP at h
    cases z : toPL ds with
    | none => rw [z] at h; cases h
    | some ps => rw [z] at h; cases h; rw [e1]; exact .lst (.inl (.inl (e _ _ q))) (dp_all e ds xs U ps z r)
  | .gone, _, _, _, h, _ => by cases h
  | .dK .., _, _, _, h, _ => by cases h
  | .dT .., _, _, _, h, _ => by cases h
  | .dN .., _, _, _, h, _ => by cases h
  | .obj .., _, _, _, h, _ => by cases h
theorem dp_all {P H : Hp} (e : Ex P H) : ∀ (ds : List D) (vs : List V) (U : FP) (ps : List PyData), toPL ds = some ps → RepL c P H ds vs U → DpAll c.K H vs ps
  | [], vs, U, ps, h, r => by cases h; rw [r.1]; exact .nil
  | d :: ds, vs, U, ps, h, ⟨y, ys, T, T2, e1, r, rs, _⟩ => by
    unfold toPL at h
    cases z : toP d with
    | none => rw [z] at h; cases h
    | some q =>
      cases z2 : toPL ds with
      | none => rw [z, z2] at h; cases h
      | some qs => rw [z, z2] at h; cases h; rw [e1]; exact .cons (dp_of e d y T q z r) (dp_all e ds ys T2 qs z2 rs)
end
def eqB (a b : D) : Option Bool := (toP a).bind fun p => (toP b).bind fun q => if SeqAt.shaped p = true ∧ SeqAt.shaped q = true then some (PyData.eqv p q) else none
def eqD (a b : D) : Option D := (eqB a b).map .bl
def neD (a b : D) : Option D := (eqB a b).map fun k => .bl (!k)
theorem eqB_dp {P H : Hp} (e : Ex P H) {a b : D} {x y : V} {U1 U2 : FP} {k : Bool} (h : eqB a b = some k) (r1 : Rep c P H a x U1) (r2 : Rep c P H b y U2) :
    ∃ p q, Dp c.K H x p ∧ Dp c.K H y q ∧ SeqAt.shaped p = true ∧ SeqAt.shaped q = true ∧ PyData.eqv p q = k := by
  unfold eqB at h
  cases z1 : toP a with
  | none => rw [z1] at h; cases h
  | some p =>
    cases z2 : toP b with
    | none => rw [z1, z2] at h; cases h
    | some q =>
      rw [z1, z2] at h
      simp only [Option.bind_some] at h
      split at h
      · rename_i hs
        cases h
        exact ⟨p, q, dp_of e _ _ _ _ z1 r1, dp_of e _ _ _ _ z2 r2, hs.1, hs.2, rfl⟩
      · cases h
theorem op_eqqD : Op2 c (rEqD c.K) eqD := by
  intro P H e da db d x y U1 U2 hf r1 r2 Q q
  unfold eqD at hf
  cases z : eqB da db with
  | none => rw [z] at hf; cases hf
  | some k =>
    rw [z] at hf; cases hf
    obtain ⟨p, p2, d1, d2, s1, s2, rfl⟩ := eqB_dp e z r1 r2
    exact ⟨p, p2, d1, d2, s1, s2, q.flat e ⟨rfl, rfl⟩⟩
theorem op_neqD : Op2 c (rNeD c.K) neD := by
  intro P H e da db d x y U1 U2 hf r1 r2 Q q
  unfold neD at hf
  cases z : eqB da db with
  | none => rw [z] at hf; cases hf
  | some k =>
    rw [z] at hf; cases hf
    obtain ⟨p, p2, d1, d2, s1, s2, rfl⟩ := eqB_dp e z r1 r2
    exact ⟨p, p2, d1, d2, s1, s2, q.flat e ⟨rfl, rfl⟩⟩

def isNo : D → Option Bool
  | .non => some true
  | .gone => none
  | _ => some false
def isD : D → D → Option D
  | a, .non => (isNo a).map .bl
  | .bl a, .bl b => some (.bl (a == b))
  | _, _ => none
theorem isNo_v {P H : Hp} : ∀ {a : D} {x : V} {U : FP} {k : Bool}, isNo a = some k → Rep c P H a x U → decide (x = .non) = k
  | .non, x, U, k, h, r => by cases h; rw [r.1]; rfl
  | .bl _, x, U, k, h, r => by cases h; rw [r.1]; rfl
  | .int _, x, U, k, h, r => by cases h; rw [r.1]; rfl
  | .str _, x, U, k, h, r => by cases h; rw [r.1]; rfl
  | .scr _, x, U, k, h, ⟨_, e, _⟩ => by cases h; rw [e]; rfl
  | .kst _, x, U, k, h, ⟨_, e, _⟩ => by cases h; rw [e]; rfl
  | .key _, x, U, k, h, ⟨_, e, _⟩ => by cases h; rw [e]; rfl
  | .tup _, x, U, k, h, ⟨_, _, e, _⟩ => by cases h; rw [e]; rfl
  | .lst true _, x, U, k, h, ⟨_, _, _, e, _⟩ => by cases h; rw [e]; rfl
  | .lst false _, x, U, k, h, ⟨_, _, e, _⟩ => by cases h; rw [e]; rfl
  | .dK true _ _, x, U, k, h, ⟨_, _, _, e, _⟩ => by cases h; rw [e]; rfl
  | .dK false _ _, x, U, k, h, ⟨_, _, e, _⟩ => by cases h; rw [e]; rfl
  | .dT true _ _, x, U, k, h, ⟨_, _, _, e, _⟩ => by cases h; rw [e]; rfl
  | .dT false _ _, x, U, k, h, ⟨_, _, e, _⟩ => by cases h; rw [e]; rfl
  | .dN true _ _, x, U, k, h, ⟨_, _, _, _, e, _⟩ => by cases h; rw [e]; rfl
  | .dN false _ _, x, U, k, h, ⟨_, _, _, e, _⟩ => by cases h; rw [e]; rfl
  | .obj true _ _ _, x, U, k, h, ⟨_, _, _, _, e, _⟩ => by cases h; rw [e]; rfl
  | .obj false _ _ _, x, U, k, h, ⟨_, _, _, e, _⟩ => by cases h; rw [e]; rfl
theorem opr_is : OpR X (compareOp .Is) (fun x y H Q => (y = .non ∧ Q (.bl (decide (x = .non))) H) ∨ rIsB x y H Q) := OpR_or op_isN op_isBl
theorem op_isD : Op2 c (fun x y H Q => (y = .non ∧ Q (.bl (decide (x = .non))) H) ∨ rIsB x y H Q) isD := by
  intro P H e da db d x y U1 U2 hf r1 r2 Q q
  unfold isD at hf
  split at hf
  · cases z : isNo da with
    | none => rw [z] at hf; cases hf
    | some k =>
      rw [z] at hf; cases hf
      exact .inl ⟨r2.1, by rw [isNo_v z r1]; exact q.flat e ⟨rfl, rfl⟩⟩
  · cases hf
    exact .inr ⟨_, _, r1.1, r2.1, q.flat e ⟨by congr 1, rfl⟩⟩
  · cases hf
end
end LI
namespace LI
open PySem L2

theorem RepE.get {c : LC} {P H : Hp} : ∀ {ρ : List D} {σ : St} {S : FP} {i : Nat} {d : D}, RepE c P H ρ σ S → ρ[i]? = some d → ∃ ov T, σ[i]? = some ov ∧ RepO c P H d ov T ∧ ∀ a, T a ≤ S a
  | [], [], _, i, d, _, e => by simp at e
  | d0 :: ds, v0 :: σ, S, 0, d, ⟨T, U, r, rs, f⟩, e => by
    simp at e; subst e
    exact ⟨v0, T, rfl, r, fun a => by rw [f]; simp only [fa]; omega⟩
  | d0 :: ds, v0 :: σ, S, i + 1, d, ⟨T, U, r, rs, f⟩, e => by
    obtain ⟨ov, T2, h1, h2, h3⟩ := RepE.get (i := i) (d := d) rs (by simpa using e)
    exact ⟨ov, T2, by simpa using h1, h2, fun a => by have := h3 a; rw [f]; simp only [fa]; omega⟩
  | [], _ :: _, _, _, _, h, _ => h.elim
  | _ :: _, [], _, _, _, h, _ => h.elim
def notGone : D → Bool
  | .gone => false
  | _ => true
def vM (i : Nat) : RM := fun ρ => (ρ[i]?).bind fun d => if notGone d = true then some d else none
section
variable {X : Cx} {cl : Nat → Addr} {E : En} {e a b : Expr} {pos : Pos} {m ma mb : RM}
theorem tvar_run {c : LC} {i : Nat} {σ : St} {H : Hp} {Q : VK} (h : tR c E (vM i) σ H Q) : tVar i σ H Q := by
  obtain ⟨P, S, T, ρ, d, w, hm, q⟩ := h
  unfold vM at hm
  cases e : ρ[i]? with
  | none => rw [e] at hm; cases hm
  | some d1 =>
    rw [e] at hm
    simp only [Option.bind_some] at hm
    split at hm
    · rename_i hn
      cases hm
      obtain ⟨ov, T2, h1, h2, _⟩ := w.env.get e
      cases ov with
      | none => rw [h2.1] at hn; cases hn
      | some v => exact ⟨v, h1, q v H P T2 (.refl w.ph) h2⟩
    · cases hm
theorem r_v (i : Nat) {x : Str} (hN : X.N[i]? = some x := by rfl) (hv : Vis X.env.scope x := by first | exact Or.inl rfl | exact Or.inr (Or.inl rfl) | exact Or.inr (Or.inr rfl)) (hd : (x == ("__debug__" : Str)) = false := by decide)
    (hcd : (x == ("__classdict__" : Str)) = false := by decide) : PE X (.Name x pos) (tR ⟨X.K, cl, X.w⟩ E (vM i)) := PE_imp (pe_var hN hv hd hcd) fun _ _ _ h => tvar_run h

def kM (d : D) : RM := fun _ => some d
theorem tc_run {c : LC} {d : D} {v : V} (hr : ∀ P H, Ex P H → Rep c P H d v fz) {σ : St} {H : Hp} {Q : VK} (h : tF c E (kM d) σ H Q) : tC v σ H Q := by
  obtain ⟨P, S, T, ρ, d1, w, hm, q⟩ := h
  cases hm
  exact q.flat w.ph (hr P H w.ph)
theorem f_int {i : Int} {j} : PE X (.Constant (.int i) j pos) (tF ⟨X.K, cl, X.w⟩ E (kM (.int i))) := PE_imp pe_int fun _ _ _ h => tc_run (c := ⟨X.K, cl, X.w⟩) (d := .int i) (v := .int i) (fun _ _ _ => ⟨rfl, rfl⟩) h
theorem f_bl {k : Bool} {j} : PE X (.Constant (.bool k) j pos) (tF ⟨X.K, cl, X.w⟩ E (kM (.bl k))) := PE_imp pe_bl fun _ _ _ h => tc_run (c := ⟨X.K, cl, X.w⟩) (d := .bl k) (v := .bl k) (fun _ _ _ => ⟨rfl, rfl⟩) h
theorem f_non {j} : PE X (.Constant .none j pos) (tF ⟨X.K, cl, X.w⟩ E (kM .non)) := PE_imp pe_non fun _ _ _ h => tc_run (c := ⟨X.K, cl, X.w⟩) (d := .non) (v := .non) (fun _ _ _ => ⟨rfl, rfl⟩) h
theorem f_str {x : Str} {j} (s : List Nat) (hs : x = ⟨s.toArray⟩ := by rfl) : PE X (.Constant (.str x) j pos) (tF ⟨X.K, cl, X.w⟩ E (kM (.str s))) := PE_imp pe_str fun _ _ _ h => tc_run (c := ⟨X.K, cl, X.w⟩) (d := .str s) (v := .str x) (fun _ _ _ => ⟨by rw [hs], rfl⟩) h
def negD : D → Option D
  | .int a => some (.int (-a))
  | _ => none
theorem f_neg (ha : PE X a (tR ⟨X.K, cl, X.w⟩ E ma)) : PE X (.UnaryOp .USub a pos) (tF ⟨X.K, cl, X.w⟩ E (m1 negD ma)) := PE_imp (pe_un un_neg ha) fun σ H Q ⟨P, S, T, ρ, d, w, hm, q⟩ => by
  unfold m1 at hm
  cases ea : ma ρ with
  | none => rw [ea] at hm; cases hm
  | some da =>
    rw [ea] at hm
    cases da with
    | int i =>
      cases hm
      refine ⟨P, S, T, ρ, .int i, w, ea, fun v H' P' U g r => ⟨i, r.1, ?_⟩⟩
      exact q _ H' P' fz g ⟨rfl, rfl⟩ (fun _ => Nat.zero_le _) fun a z => by simp [fz] at z
    | _ => cases hm

abbrev AM := List D → Option (List D)
def tAR (c : LC) (E : En) (m : AM) : TA := fun σ H Q => ∃ P S T ρ ds, Wd c E P S T σ H ρ ∧ m ρ = some ds ∧ ∀ vs H' P' U, Gr P H P' H' → RepL c P' H' ds vs U → Q vs H'
def nilM : AM := fun _ => some []
def consM (m : RM) (ms : AM) : AM := fun ρ => (m ρ).bind fun d => (ms ρ).map fun ds => d :: ds
theorem a_nil : PA X [] (tAR ⟨X.K, cl, X.w⟩ E nilM) := PA_imp pa_nil fun σ H Q ⟨P, S, T, ρ, ds, w, hm, q⟩ => by
  cases hm
  exact q [] H P fz (.refl w.ph) ⟨rfl, rfl⟩
theorem a_cons {es : List Expr} {ms : AM} (h : PE X e (tR ⟨X.K, cl, X.w⟩ E m)) (hr : PA X es (tAR ⟨X.K, cl, X.w⟩ E ms)) (hs : starEach (e :: es) X.env = (false, eval e X.env) :: starEach es X.env := by rfl) : PA X (e :: es) (tAR ⟨X.K, cl, X.w⟩ E (consM m ms)) :=
  PA_imp (pa_cons h hr hs) fun σ H Q ⟨P, S, T, ρ, ds, w, hm, q⟩ => by
    unfold consM at hm
    cases e1 : m ρ with
    | none => rw [e1] at hm; cases hm
    | some d =>
      cases e2 : ms ρ with
      | none => rw [e1, e2] at hm; cases hm
      | some ds' =>
        rw [e1, e2] at hm
        cases hm
        exact ⟨P, S, T, ρ, d, w, e1, fun v H1 P1 U1 g1 r1 => ⟨P1, S, T, ρ, ds', w.grow g1, e2, fun vs H2 P2 U2 g2 r2 => q (v :: vs) H2 P2 (fa U1 U2) (g1.trans g2) ⟨v, vs, U1, U2, rfl, r1.gr g2, r2, rfl⟩⟩⟩
def tupM (ms : AM) : RM := fun ρ => (ms ρ).bind fun ds => if frzL ds = true ∧ ds.length ≤ LIM then some (.tup ds) else none
def lstM (ms : AM) : RM := fun ρ => (ms ρ).bind fun ds => if frzL ds = true ∧ ds.length ≤ LIM then some (.lst true ds) else none
theorem f_tup {es : List Expr} {ms : AM} {x1} (h : PA X es (tAR ⟨X.K, cl, X.w⟩ E ms)) : PE X (.Tuple es x1 pos) (tF ⟨X.K, cl, X.w⟩ E (tupM ms)) := PE_imp (pe_tup h) fun σ H Q ⟨P, S, T, ρ, d, w, hm, q⟩ => by
  unfold tupM at hm
  cases e1 : ms ρ with
  | none => rw [e1] at hm; cases hm
  | some ds =>
    rw [e1] at hm
    simp only [Option.bind_some] at hm
    split at hm
    · rename_i hf
      cases hm
      refine ⟨P, S, T, ρ, ds, w, e1, fun vs H' P' U g r => ⟨by rw [← r.length]; exact lim_le hf.2, ?_⟩⟩
      have z := RepL.frz0 ds vs U hf.1 r
      subst z
      exact (q.grow g).tup g.ph r
    · cases hm
theorem f_lst {es : List Expr} {ms : AM} (h : PA X es (tAR ⟨X.K, cl, X.w⟩ E ms)) : PE X (.List es pos) (tF ⟨X.K, cl, X.w⟩ E (lstM ms)) := PE_imp (pe_lst h) fun σ H Q ⟨P, S, T, ρ, d, w, hm, q⟩ => by
  unfold lstM at hm
  cases e1 : ms ρ with
  | none => rw [e1] at hm; cases hm
  | some ds =>
    rw [e1] at hm
    simp only [Option.bind_some] at hm
    split at hm
    · rename_i hf
      cases hm
      refine ⟨P, S, T, ρ, ds, w, e1, fun vs H' P' U g r => ⟨by rw [← r.length]; exact lim_le hf.2, ?_⟩⟩
      have z := RepL.frz0 ds vs U hf.1 r
      subst z
      exact (q.grow g).lst g.ph r
    · cases hm

def keyD : D → Option Key
  | .int i => some (.inl i)
  | .str s => some (.inr ⟨s.toArray⟩)
  | _ => none
def keyDs : List D → Option (List Key)
  | [] => some []
  | d :: ds => (keyD d).bind fun k => (keyDs ds).map fun ks => k :: ks
theorem keyD_v {c : LC} {P H : Hp} {d : D} {v : V} {U : FP} {k : Key} (h : keyD d = some k) (r : Rep c P H d v U) : v = kV k := by
  unfold keyD at h
  split at h
  · cases h; exact r.1
  · cases h; exact r.1
  · cases h
def under {κ : Type} [DecidableEq κ] : List κ → List D → κ → Option D
  | k :: ks, d :: ds, x => if k = x then some d else under ks ds x
  | _, _, _ => none
def ixD : D → D → Option D
  | .lst _ ds, .int i => atI ds i
  | .tup ds, .int i => atI ds i
  | .scr ns, .int i => (atI ns i).map .int
  | .str s, .int i => if s.length ≤ LIM then (atI s i).map fun k => .str [k] else none
  | .dK _ ks ds, k => (keyD k).bind fun k => under ks ds k
  | _, _ => none
theorem atI_rep {c : LC} {P H : Hp} {ds : List D} {xs : List V} {S : FP} {i : Int} {d : D} (r : RepL c P H ds xs S) (h : atI ds i = some d) : ∃ x T, atI xs i = some x ∧ Rep c P H d x T ∧ ∀ a, T a ≤ S a := by
  unfold atI at h ⊢
  rw [← r.length]
  cases e : ixN ds.length i with
  | none => rw [e] at h; cases h
  | some j => rw [e] at h; exact r.get h
theorem atI_map {α β : Type} (f : α → β) (xs : List α) (i : Int) : atI (xs.map f) i = (atI xs i).map f := by
  unfold atI
  rw [List.length_map]
  cases ixN xs.length i with
  | none => rfl
  | some j => simp
end
theorem under_rep {c : LC} {P H : Hp} {κ : Type} [DecidableEq κ] : ∀ {ks : List κ} {ds : List D} {xs : List V} {S : FP} {k : κ} {d : D}, RepL c P H ds xs S → ks.length = xs.length → under ks ds k = some d → ∃ x T, (ks.zip xs).find? (fun p => decide (p.1 = k)) = some (k, x) ∧ Rep c P H d x T ∧ ∀ a, T a ≤ S a
  | [], ds, xs, S, k, d, r, n, h => by simp [under] at h
  | k0 :: ks, [], xs, S, k, d, r, n, h => by simp [under] at h
  | k0 :: ks, d0 :: ds, xs, S, k, d, ⟨y, ys, T, T2, e1, r, rs, f⟩, n, h => by
    subst e1
    unfold under at h
    by_cases q : k0 = k
    · rw [if_pos q] at h
      cases h
      exact ⟨y, T, by simp [q], r, fun a => by rw [f]; simp only [fa]; omega⟩
    · rw [if_neg q] at h
      obtain ⟨x, T3, h1, h2, h3⟩ := under_rep rs (by simpa using n) h
      exact ⟨x, T3, by simp [q, h1], h2, fun a => by have := h3 a; rw [f]; simp only [fa]; omega⟩
end LI
namespace LI
open PySem L2

theorem PE_or {X : Cx} {e : Expr} {t u : TE} (h : PE X e t) (k : PE X e u) : PE X e (fun σ H Q => t σ H Q ∨ u σ H Q) := ⟨fun pins s σ H Q I q => q.elim (h.run pins s σ H Q I) (k.run pins s σ H Q I)⟩
theorem dict_under {c : LC} {P H : Hp} (e : Ex P H) {dt : D} {x y : V} {U1 U2 : FP} {dk : D} :
    (∀ o ks ds, dt = .dK o ks ds → ∀ k, keyD dk = some k → Rep c P H dt x U1 → Rep c P H dk y U2 → ∃ a xs, x = .ref a ∧ H a = some (.dK (ks.zip xs)) ∧ ks.length = xs.length ∧ y = kV k ∧ ∃ T, RepL c P H ds xs T) := by
  refine fun o ks ds hd k hk r1 r2 => ?_
  · subst hd
    cases o with
    | true => obtain ⟨a, xs, T, e1, h, n, rl, _⟩ := r1; exact ⟨a, xs, e1, h, n, keyD_v hk r2, T, rl⟩
    | false => obtain ⟨a, xs, e1, h, n, rl⟩ := r1; exact ⟨a, xs, e1, e _ _ h, n, keyD_v hk r2, U1, rl⟩
theorem under_val {c : LC} {P H : Hp} {κ : Type} [DecidableEq κ] {ks : List κ} {ds : List D} {xs : List V} {S : FP} {k : κ} {d : D} (r : RepL c P H ds xs S) (n : ks.length = xs.length) (h : under ks ds k = some d) : ∃ x T, valV (ks.zip xs) k = some x ∧ Rep c P H d x T := by
  obtain ⟨x, T, h1, h2, _⟩ := under_rep r n h
  exact ⟨x, T, by unfold valV; rw [h1]; rfl, h2⟩
theorem under_none {c : LC} {P H : Hp} {κ : Type} [DecidableEq κ] : ∀ {ks : List κ} {ds : List D} {xs : List V} {S : FP} {k : κ}, RepL c P H ds xs S → ks.length = xs.length → under ks ds k = none → valV (ks.zip xs) k = none
  | [], ds, xs, S, k, r, n, h => by simp [valV]
  | k0 :: ks, [], xs, S, k, r, n, h => by rw [r.1] at n; simp at n
  | k0 :: ks, d0 :: ds, xs, S, k, ⟨y, ys, T, T2, e1, r, rs, f⟩, n, h => by
    subst e1
    unfold under at h
    by_cases q : k0 = k
    · rw [if_pos q] at h; cases h
    · rw [if_neg q] at h
      have := under_none rs (by simpa using n) h
      rw [List.zip_cons_cons, valV_neg (by simpa using q)]
      exact this
section
variable {X : Cx} {cl : Nat → Addr} {E : En} {e a b : Expr} {pos : Pos} {m ma mb : RM}
theorem r_ix (hu : X.A.units + 64 < cLine) (ha : PE X a (tR ⟨X.K, cl, X.w⟩ E ma)) (hb : PE X b (tR ⟨X.K, cl, X.w⟩ E mb)) (hs : PlainIx b := by exact fun _ _ => rfl) : PE X (.Subscript a b pos) (tR ⟨X.K, cl, X.w⟩ E (m2 ixD ma mb)) := by
  refine PE_imp (PE_or (pe_ix ix_seq ha hb hs) (pe_dget (Nat.lt_of_le_of_lt (by omega) hu) ha hb hs)) fun σ H Q ⟨P, S, T, ρ, d, w, hm, q⟩ => ?_
  unfold m2 at hm
  cases ea : ma ρ with
  | none => rw [ea] at hm; cases hm
  | some da =>
    cases eb : mb ρ with
    | none => rw [ea, eb] at hm; cases hm
    | some db =>
      rw [ea, eb] at hm
      replace hm : ixD da db = some d := hm
      unfold ixD at hm
      split at hm
      · rename_i o ds i
        left
        refine ⟨P, S, T, ρ, .lst o ds, w, ea, fun x H1 P1 U1 g1 r1 => ⟨P1, S, T, ρ, .int i, w.grow g1, eb, fun y H2 P2 U2 g2 r2 => ?_⟩⟩
        obtain ⟨p, xs, T', e1, hh, rl, _⟩ := lst_heap g2.ph (r1.gr g2)
        obtain ⟨z, T2, h1, h2, _⟩ := atI_rep rl hm
        exact .inl ⟨p, xs, i, z, e1, r2.1, .inl (.inl hh), h1, q z H2 P2 T2 (g1.trans g2) h2⟩
      · rename_i ds i
        left
        refine ⟨P, S, T, ρ, .tup ds, w, ea, fun x H1 P1 U1 g1 r1 => ⟨P1, S, T, ρ, .int i, w.grow g1, eb, fun y H2 P2 U2 g2 r2 => ?_⟩⟩
        obtain ⟨p, xs, e1, hh, rl⟩ := r1.gr g2
        obtain ⟨z, T2, h1, h2, _⟩ := atI_rep rl hm
        exact .inr (.inl ⟨p, xs, i, z, e1, r2.1, sqt_mono g2.ph hh, h1, q z H2 P2 T2 (g1.trans g2) h2⟩)
      · rename_i ns i
        left
        refine ⟨P, S, T, ρ, .scr ns, w, ea, fun x H1 P1 U1 g1 r1 => ⟨P1, S, T, ρ, .int i, w.grow g1, eb, fun y H2 P2 U2 g2 r2 => ?_⟩⟩
        obtain ⟨p, e1, hh, _⟩ := r1.gr g2
        cases z : atI ns i with
        | none => rw [z] at hm; cases hm
        | some k =>
          rw [z] at hm; cases hm
          exact .inl ⟨p, _, i, .int k, e1, r2.1, sql_mono g2.ph hh, by rw [atI_map, z]; rfl, q _ H2 P2 fz (g1.trans g2) ⟨rfl, rfl⟩⟩
      · rename_i s i
        split at hm
        · rename_i hl
          left
          refine ⟨P, S, T, ρ, .str s, w, ea, fun x H1 P1 U1 g1 r1 => ⟨P1, S, T, ρ, .int i, w.grow g1, eb, fun y H2 P2 U2 g2 r2 => ?_⟩⟩
          cases z : atI s i with
          | none => rw [z] at hm; cases hm
          | some k =>
            rw [z] at hm; cases hm
            exact .inr (.inr ⟨⟨s.toArray⟩, i, k, r1.1, r2.1, by rw [str_len]; exact lim_le hl, by simpa using z, q _ H2 P2 fz (g1.trans g2) ⟨rfl, rfl⟩⟩)
        · cases hm
      · rename_i o ks ds
        right
        cases z : keyD db with
        | none => rw [z] at hm; cases hm
        | some k =>
          rw [z] at hm
          refine ⟨P, S, T, ρ, .dK o ks ds, w, ea, fun x H1 P1 U1 g1 r1 => ⟨P1, S, T, ρ, _, w.grow g1, eb, fun y H2 P2 U2 g2 r2 => ?_⟩⟩
          obtain ⟨p, xs, e1, hh, n, ey, T', rl⟩ := (dict_under g2.ph) o ks ds rfl k z (r1.gr g2) r2
          obtain ⟨v, T2, h1, h2⟩ := under_val rl n hm
          exact ⟨p, v, e1, .inl ⟨_, k, .inl hh, ey, h1.symm⟩, q v H2 P2 T2 (g1.trans g2) h2⟩
      · cases hm

def cutL {α : Type} (xs : List α) (lo hi : Option Int) : List α := (xs.drop (HT.sIx xs.length 0 lo)).take (HT.sIx xs.length xs.length hi - HT.sIx xs.length 0 lo)
def slD (lo hi : Option Int) : D → Option D
  | .lst _ ds => if frzL ds = true then some (.lst true (cutL ds lo hi)) else none
  | .tup ds => if frzL ds = true then some (.tup (cutL ds lo hi)) else none
  | .scr ns => some (.lst true ((cutL ns lo hi).map .int))
  | .str s => if s.length ≤ LIM then some (.str (cutL s lo hi)) else none
  | _ => none
abbrev OM := List D → Option (Option Int)
def noM : OM := fun _ => some none
def soM (m : RM) : OM := fun ρ => (m ρ).bind fun d => match d with | .int i => some (some i) | _ => none
def slM (m : RM) (lo hi : OM) : RM := fun ρ => (m ρ).bind fun d => (lo ρ).bind fun l => (hi ρ).bind fun h => slD l h d
def tOM (c : LC) (E : En) (m : OM) : TO := fun σ H Q => ∃ P S T ρ o, Wd c E P S T σ H ρ ∧ m ρ = some o ∧ ∀ H' P', Gr P H P' H' → Q o H'
theorem o_none : PO X none (tOM ⟨X.K, cl, X.w⟩ E noM) := ⟨fun pins s σ H Q I ⟨P, S, T, ρ, o, w, hm, q⟩ => by
  cases hm
  exact po_none.run pins s σ H Q I (q H P (.refl w.ph))⟩
theorem o_some (h : PE X e (tR ⟨X.K, cl, X.w⟩ E m)) : PO X (some e) (tOM ⟨X.K, cl, X.w⟩ E (soM m)) := ⟨fun pins s σ H Q I ⟨P, S, T, ρ, o, w, hm, q⟩ => by
  refine (po_some h).run pins s σ H Q I ?_
  unfold soM at hm
  cases ea : m ρ with
  | none => rw [ea] at hm; cases hm
  | some da =>
    rw [ea] at hm
    cases da with
    | int i =>
      cases hm
      exact ⟨P, S, T, ρ, .int i, w, ea, fun v H' P' U g r => ⟨i, r.1, q H' P' g⟩⟩
    | _ => cases hm⟩
theorem RepL.cut {c : LC} {P H : Hp} {ds : List D} {xs : List V} (r : RepL c P H ds xs fz) (lo hi : Option Int) : RepL c P H (cutL ds lo hi) (cutV xs lo hi) fz := by
  unfold cutL cutV
  rw [r.length]
  exact (r.drop _).take _
theorem cutL_map {α β : Type} (f : α → β) (xs : List α) (lo hi : Option Int) : cutL (xs.map f) lo hi = (cutL xs lo hi).map f := by
  unfold cutL
  rw [List.length_map, ← List.map_drop, ← List.map_take]
theorem repL_ints {c : LC} {P H : Hp} : ∀ ns : List Int, RepL c P H (ns.map .int) (ns.map .int) fz
  | [] => ⟨rfl, rfl⟩
  | n :: ns => ⟨.int n, _, fz, fz, rfl, ⟨rfl, rfl⟩, repL_ints ns, (fa_fz fz).symm⟩
theorem f_sl {lo hi : Option Expr} {ml mh : OM} {p2 : Pos} (ha : PE X a (tR ⟨X.K, cl, X.w⟩ E ma)) (hl : PO X lo (tOM ⟨X.K, cl, X.w⟩ E ml)) (hh : PO X hi (tOM ⟨X.K, cl, X.w⟩ E mh)) : PE X (.Subscript a (.Slice lo hi none p2) pos) (tF ⟨X.K, cl, X.w⟩ E (slM ma ml mh)) := by
  refine PE_imp (pe_slice (SlR.or sl_list (SlR.or sl_tupA sl_str)) ha hl hh) fun σ H Q ⟨P, S, T, ρ, d, w, hm, q⟩ => ?_
  unfold slM at hm
  cases ea : ma ρ with
  | none => rw [ea] at hm; cases hm
  | some da =>
    cases el : ml ρ with
    | none => rw [ea, el] at hm; cases hm
    | some l =>
      cases eh : mh ρ with
      | none => rw [ea, el, eh] at hm; cases hm
      | some h =>
        rw [ea, el, eh] at hm
        replace hm : slD l h da = some d := hm
        refine ⟨P, S, T, ρ, da, w, ea, fun x H1 P1 U1 g1 r1 => ⟨P1, S, T, ρ, l, w.grow g1, el, fun H2 P2 g2 => ⟨P2, S, T, ρ, h, (w.grow g1).grow g2, eh, fun H3 P3 g3 => ?_⟩⟩⟩
        have r3 := (r1.gr g2).gr g3
        have gg := (g1.trans g2).trans g3
        unfold slD at hm
        split at hm
        · rename_i o ds
          split at hm
          · rename_i hf
            cases hm
            obtain ⟨p, xs, e1, hh, rl⟩ := lst_heap0 g3.ph r3 hf
            exact .inl ⟨p, xs, e1, .inl (.inl hh), (q.grow gg).lst g3.ph (rl.cut l h)⟩
          · cases hm
        · rename_i ds
          split at hm
          · rename_i hf
            cases hm
            obtain ⟨p, xs, e1, hh, hp, rl⟩ := tup_heap0 g3.ph r3 hf
            refine .inr (.inl ⟨p, xs, e1, hh, fun z => ?_, fun _ => (q.grow gg).tup g3.ph (rl.cut l h)⟩)
            have e2 : cutL ds l h = ds := by
              unfold cutL
              rw [rl.length, z.1, z.2, List.drop_zero, Nat.sub_zero, ← rl.length, List.take_length]
            rw [e2] at q
            exact (q.grow gg).flat g3.ph ⟨p, xs, e1 ▸ rfl, hp, rl⟩
          · cases hm
        · rename_i ns
          cases hm
          obtain ⟨p, e1, hh, _⟩ := r3
          refine .inl ⟨p, _, e1, sql_mono g3.ph hh, ?_⟩
          have := (q.grow gg).lst (xs := (cutL ns l h).map .int) g3.ph (repL_ints _)
          have e2 : cutV (ns.map V.int) l h = (cutL ns l h).map .int := cutL_map V.int ns l h
          rw [e2]
          exact this
        · rename_i s
          split at hm
          · rename_i hl
            cases hm
            refine .inr (.inr ⟨⟨s.toArray⟩, r3.1, by rw [str_len]; exact lim_le hl, (q.grow gg).flat g3.ph ⟨?_, rfl⟩⟩)
            unfold cutS cutL
            rw [str_len]
          · cases hm
        · cases hm

def flatD : D → Bool
  | .non => true | .bl _ => true | .int _ => true | .str _ => true | _ => false
def eqF : D → D → Bool
  | .non, .non => true
  | .bl a, .bl b => a == b
  | .bl a, .int b => (if a then 1 else 0) == b
  | .int a, .bl b => a == (if b then 1 else 0)
  | .int a, .int b => a == b
  | .str a, .str b => a == b
  | _, _ => false
theorem str_beq (a b : List Nat) : ((⟨a.toArray⟩ : Str) == ⟨b.toArray⟩) = (a == b) := by
  rw [Bool.eq_iff_iff, beq_iff_eq, beq_iff_eq]
  exact ⟨fun h => by have := congrArg (fun z : Str => z.cps.toList) h; simpa using this, fun h => by rw [h]⟩
def inB : D → D → Option Bool
  | .str [k], .str z => some (decide (k ∈ z))
  | x, .lst _ ds => if flatD x = true ∧ ds.all flatD = true then some (ds.any fun y => eqF y x) else none
  | x, .tup ds => if flatD x = true ∧ ds.all flatD = true then some (ds.any fun y => eqF y x) else none
  | .str x, .kst ss => some (ss.any fun y => y == x)
  | x, .dK _ ks ds => (keyD x).map fun k => (under ks ds k).isSome
  | _, _ => none
def inD (x y : D) : Option D := (inB x y).map .bl
def ninD (x y : D) : Option D := (inB x y).map fun k => .bl (!k)
theorem m2_split {f : D → D → Option D} {ρ : List D} {d : D} (h : m2 f ma mb ρ = some d) : ∃ da db, ma ρ = some da ∧ mb ρ = some db ∧ f da db = some d := by
  unfold m2 at h
  cases ea : ma ρ with
  | none => rw [ea] at h; cases h
  | some da =>
    cases eb : mb ρ with
    | none => rw [ea, eb] at h; cases h
    | some db => rw [ea, eb] at h; exact ⟨da, db, rfl, rfl, h⟩
end
end LI
namespace LI
open PySem L2

section
variable {X : Cx} {cl : Nat → Addr} {E : En} {e a b : Expr} {pos : Pos} {m ma mb : RM}
def truD : D → Option Bool
  | .non => some false
  | .bl b => some b
  | .int i => some (i != 0)
  | .str s => if s.length ≤ LIM then some (!s.isEmpty) else none
  | .tup ds => some (!ds.isEmpty)
  | .lst _ ds => some (!ds.isEmpty)
  | .scr ns => some (!ns.isEmpty)
  | _ => none
def truM (m : RM) : BM := fun ρ => (m ρ).bind truD
theorem emp_eq {α β : Type} {xs : List α} {ys : List β} (h : xs.length = ys.length) : xs.isEmpty = ys.isEmpty := by
  cases xs <;> cases ys <;> first | rfl | (simp at h)
theorem truD_v {c : LC} {P H : Hp} (e : Ex P H) : ∀ {d : D} {v : V} {U : FP} {k : Bool}, truD d = some k → Rep c P H d v U → TruV c.K v H k
  | .non, v, U, k, h, r => by cases h; rw [r.1]; rfl
  | .bl b, v, U, k, h, r => by cases h; rw [r.1]; rfl
  | .int b, v, U, k, h, r => by cases h; rw [r.1]; rfl
  | .str s, v, U, k, h, r => by
    replace h : (if s.length ≤ LIM then some (!s.isEmpty) else none) = some k := h
    by_cases hl : s.length ≤ LIM
    · rw [if_pos hl] at h
      cases h
      rw [r.1]
      refine ⟨by rw [str_len]; exact lim_le hl, ?_⟩
      rw [str_len]
      cases s with
      | nil => rfl
      | cons x s =>
        have : ((x :: s).length : Int) ≠ 0 := by rw [List.length_cons]; omega
        simp [bne, this]
        omega
    · rw [if_neg hl] at h; cases h
  | .tup ds, v, U, k, h, ⟨a, xs, e1, hp, rl⟩ => by cases h; rw [e1]; exact .inr (.inl ⟨xs, sqt_mono e hp, by rw [emp_eq rl.length]⟩)
  | .lst o ds, v, U, k, h, r => by
    cases h
    obtain ⟨p, xs, T, e1, hh, rl, _⟩ := lst_heap e r
    rw [e1]
    exact .inl ⟨xs, .inl (.inl hh), by rw [emp_eq rl.length]⟩
  | .scr ns, v, U, k, h, ⟨a, e1, hp, _⟩ => by cases h; rw [e1]; exact .inl ⟨_, sql_mono e hp, by rw [emp_eq (List.length_map (f := V.int))]⟩
  | .gone, _, _, _, h, _ => by cases h
  | .kst _, _, _, _, h, _ => by cases h
  | .dK .., _, _, _, h, _ => by cases h
  | .dT .., _, _, _, h, _ => by cases h
  | .dN .., _, _, _, h, _ => by cases h
  | .obj .., _, _, _, h, _ => by cases h
theorem t_val (ha : PE X a (tR ⟨X.K, cl, X.w⟩ E m)) (he : ∀ whole, isTrue a X.env whole = (do let v ← whole; standAt a.pos; holding [v] (truthy v)) := by intro _; rfl) : PT X a (tT ⟨X.K, cl, X.w⟩ E (truM m)) :=
  PT_imp (pt_truth ha he) fun σ H Q ⟨P, S, T, ρ, b, w, hm, q⟩ => by
    unfold truM at hm
    cases ea : m ρ with
    | none => rw [ea] at hm; cases hm
    | some d =>
      rw [ea] at hm
      exact ⟨P, S, T, ρ, d, w, ea, fun v H' P' U g r => ⟨b, truD_v g.ph hm r, q H' P' g⟩⟩
def notB (m : BM) : BM := fun ρ => (m ρ).map not
def andB (ma mb : BM) : BM := fun ρ => (ma ρ).bind fun k => if k = true then mb ρ else some false
def orB (ma mb : BM) : BM := fun ρ => (ma ρ).bind fun k => if k = true then some true else mb ρ
theorem t_not {m : BM} (h : PT X a (tT ⟨X.K, cl, X.w⟩ E m)) : PT X (.UnaryOp .Not a pos) (tT ⟨X.K, cl, X.w⟩ E (notB m)) := PT_imp (pt_not h) fun σ H Q ⟨P, S, T, ρ, b, w, hm, q⟩ => by
  unfold notB at hm
  cases ea : m ρ with
  | none => rw [ea] at hm; cases hm
  | some k =>
    rw [ea] at hm
    cases hm
    exact ⟨P, S, T, ρ, k, w, ea, q⟩
theorem w_and1 {m : BM} (h : PT X a (tT ⟨X.K, cl, X.w⟩ E m)) : PW X (.BoolOp .And [a] pos) (tT ⟨X.K, cl, X.w⟩ E m) := pw_and1 h
theorem w_or1 {m : BM} (h : PT X a (tT ⟨X.K, cl, X.w⟩ E m)) : PW X (.BoolOp .Or [a] pos) (tT ⟨X.K, cl, X.w⟩ E m) := pw_or1 h
theorem w_and {ma mb : BM} {rest : List Expr} (h : PT X a (tT ⟨X.K, cl, X.w⟩ E ma)) (k : PW X (.BoolOp .And (b :: rest) pos) (tT ⟨X.K, cl, X.w⟩ E mb)) : PW X (.BoolOp .And (a :: b :: rest) pos) (tT ⟨X.K, cl, X.w⟩ E (andB ma mb)) :=
  PW_imp (pw_and h k) fun σ H Q ⟨P, S, T, ρ, d, w, hm, q⟩ => by
    unfold andB at hm
    cases ea : ma ρ with
    | none => rw [ea] at hm; cases hm
    | some x =>
      rw [ea] at hm
      refine ⟨P, S, T, ρ, x, w, ea, fun H' P' g => ?_⟩
      cases x with
      | true => exact iteT ⟨P', S, T, ρ, d, w.grow g, hm, fun H2 P2 g2 => q H2 P2 (g.trans g2)⟩
      | false => cases hm; exact iteF (q H' P' g)
theorem w_or {ma mb : BM} {rest : List Expr} (h : PT X a (tT ⟨X.K, cl, X.w⟩ E ma)) (k : PW X (.BoolOp .Or (b :: rest) pos) (tT ⟨X.K, cl, X.w⟩ E mb)) : PW X (.BoolOp .Or (a :: b :: rest) pos) (tT ⟨X.K, cl, X.w⟩ E (orB ma mb)) :=
  PW_imp (pw_or h k) fun σ H Q ⟨P, S, T, ρ, d, w, hm, q⟩ => by
    unfold orB at hm
    cases ea : ma ρ with
    | none => rw [ea] at hm; cases hm
    | some x =>
      rw [ea] at hm
      refine ⟨P, S, T, ρ, x, w, ea, fun H' P' g => ?_⟩
      cases x with
      | true => cases hm; exact iteT (q H' P' g)
      | false => exact iteF ⟨P', S, T, ρ, d, w.grow g, hm, fun H2 P2 g2 => q H2 P2 (g.trans g2)⟩
theorem t_w {m : BM} (h : PW X a (tT ⟨X.K, cl, X.w⟩ E m)) : PT X a (tT ⟨X.K, cl, X.w⟩ E m) := h.pt

def notD (m : RM) : RM := fun ρ => ((m ρ).bind truD).map fun k => .bl (!k)
def andM (ma mb : RM) : RM := fun ρ => (bM ma ρ).bind fun k => if k = true then mb ρ else some (.bl false)
def orM (ma mb : RM) : RM := fun ρ => (bM ma ρ).bind fun k => if k = true then some (.bl true) else mb ρ
theorem f_not (ha : PE X a (tR ⟨X.K, cl, X.w⟩ E m)) : PE X (.UnaryOp .Not a pos) (tF ⟨X.K, cl, X.w⟩ E (notD m)) := PE_imp (pe_notT ha) fun σ H Q ⟨P, S, T, ρ, d, w, hm, q⟩ => by
  unfold notD at hm
  cases ea : m ρ with
  | none => rw [ea] at hm; cases hm
  | some da =>
    rw [ea] at hm
    cases et : truD da with
    | none => rw [Option.bind_some, et] at hm; cases hm
    | some k =>
      rw [Option.bind_some, et] at hm
      cases hm
      exact ⟨P, S, T, ρ, da, w, ea, fun v H' P' U g r => ⟨k, truD_v g.ph et r, (q.grow g).flat g.ph ⟨rfl, rfl⟩⟩⟩
theorem f_one {op} {m : RM} (h : PE X a (tF ⟨X.K, cl, X.w⟩ E m)) : PE X (.BoolOp op [a] pos) (tF ⟨X.K, cl, X.w⟩ E m) := pe_one h
theorem f_and {rest : List Expr} (ha : PE X a (tR ⟨X.K, cl, X.w⟩ E ma)) (hb : PE X (.BoolOp .And (b :: rest) pos) (tF ⟨X.K, cl, X.w⟩ E mb)) : PE X (.BoolOp .And (a :: b :: rest) pos) (tF ⟨X.K, cl, X.w⟩ E (andM ma mb)) := PE_imp (pe_and ha hb) fun σ H Q ⟨P, S, T, ρ, d, w, hm, q⟩ => by
  unfold andM at hm
  cases ea : bM ma ρ with
  | none => rw [ea] at hm; cases hm
  | some k =>
    rw [ea] at hm
    refine ⟨P, S, T, ρ, .bl k, w, bM_some ea, fun v H' P' U g r => ⟨k, r.1, ?_⟩⟩
    cases k with
    | true => exact iteT ⟨P', S, T, ρ, d, w.grow g, hm, q.grow g⟩
    | false => cases hm; exact iteF ((q.grow g).flat g.ph ⟨rfl, rfl⟩)
def iteM (mc : BM) (ma mb : RM) : RM := fun ρ => (mc ρ).bind fun k => if k = true then ma ρ else mb ρ
def chM (f g : D → D → Option D) (ma mb mc : RM) : RM := fun ρ => (ma ρ).bind fun x => (mb ρ).bind fun y => (f x y).bind fun z => match z with | .bl true => (mc ρ).bind fun u => g y u | .bl false => some (.bl false) | _ => none
def mA (f : List D → Option D) (ms : AM) : RM := fun ρ => (ms ρ).bind f
def OpA (c : LC) (r : List V → Hp → VK → Prop) (f : List D → Option D) : Prop := ∀ (P H : Hp), Ex P H → ∀ ds d vs U, f ds = some d → RepL c P H ds vs U → ∀ Q, FQ c P H d Q → r vs H Q
theorem opA_run {r : List V → Hp → VK → Prop} {f : List D → Option D} {ms : AM} (hf : OpA ⟨X.K, cl, X.w⟩ r f) {σ : St} {H : Hp} {Q : VK} (h : tF ⟨X.K, cl, X.w⟩ E (mA f ms) σ H Q) : tCB r (tAR ⟨X.K, cl, X.w⟩ E ms) σ H Q := by
  obtain ⟨P, S, T, ρ, d, w, hm, q⟩ := h
  unfold mA at hm
  cases ea : ms ρ with
  | none => rw [ea] at hm; cases hm
  | some ds =>
    rw [ea] at hm
    exact ⟨P, S, T, ρ, ds, w, ea, fun vs H1 P1 U1 g1 r1 => hf P1 H1 g1.ph ds d vs U1 hm r1 Q (q.grow g1)⟩
theorem f_blt {r : List V → Hp → VK → Prop} {f : List D → Option D} {ms : AM} {id : String} {x : Str} {es : List Expr} {p : Pos} (hc : CallR X (.builtin id) r) (hf : OpA ⟨X.K, cl, X.w⟩ r f) (hg : Gl X x) (hm : X.mg x = none) (hv : bootBuiltins x = some (.builtin id)) (ha : PA X (e :: es) (tAR ⟨X.K, cl, X.w⟩ E ms)) (hn : x ≠ "__name__" := by decide) (hdb : (x == ("__debug__" : Str)) = false := by decide)
    (he : starEach (e :: es) X.env = (false, eval e X.env) :: starEach es X.env := by rfl) (hpl : (backTo pos (starEach es X.env)).any (·.1) = false := by rfl) : PE X (.Call (.Name x p) (e :: es) [] pos) (tF ⟨X.K, cl, X.w⟩ E (mA f ms)) :=
  PE_imp (pe_callB hc hg hm hv ha hn hdb he hpl) fun _ _ _ h => opA_run hf h
theorem f_bty {r : List V → Hp → VK → Prop} {f : List D → Option D} {ms : AM} {id : String} {x : Str} {es : List Expr} {p : Pos} (hc : CallR X (.type id) r) (hf : OpA ⟨X.K, cl, X.w⟩ r f) (hg : Gl X x) (hm : X.mg x = none) (hv : bootBuiltins x = some (.type id)) (ha : PA X (e :: es) (tAR ⟨X.K, cl, X.w⟩ E ms)) (hn : x ≠ "__name__" := by decide) (hdb : (x == ("__debug__" : Str)) = false := by decide)
    (he : starEach (e :: es) X.env = (false, eval e X.env) :: starEach es X.env := by rfl) (hpl : (backTo pos (starEach es X.env)).any (·.1) = false := by rfl) : PE X (.Call (.Name x p) (e :: es) [] pos) (tF ⟨X.K, cl, X.w⟩ E (mA f ms)) :=
  PE_imp (pe_callTy hc hg hm hv ha hn hdb he hpl) fun _ _ _ h => opA_run hf h
theorem repL1 {c : LC} {P H : Hp} {d : D} {vs : List V} {U : FP} (r : RepL c P H [d] vs U) : ∃ v T, vs = [v] ∧ Rep c P H d v T := by
  obtain ⟨y, ys, T, T2, e, r1, r2, _⟩ := r
  rw [r2.1] at e
  exact ⟨y, T, e, r1⟩
def lenD : List D → Option D
  | [.str s] => if s.length ≤ LIM then some (.int s.length) else none
  | [.tup ds] => some (.int ds.length)
  | [.lst _ ds] => some (.int ds.length)
  | [.scr ns] => some (.int ns.length)
  | [.dK _ ks _] => some (.int ks.length)
  | _ => none
def rLenA (K : PySem.W.Frag) : List V → Hp → VK → Prop := fun xs H Q => (∃ x n, xs = [x] ∧ LenV K x H n ∧ Q (.int n) H) ∨ (∃ a kvs, xs = [V.ref a] ∧ H a = some (.dK kvs) ∧ Q (.int kvs.length) H)
theorem cr_len : CallR X (.builtin "len") (rLenA X.K) := call_len.or call_lenD
theorem op_lenD {c : LC} : OpA c (rLenA c.K) lenD := by
  intro P H e ds d vs U hf r Q q
  unfold lenD at hf
  split at hf
  · split at hf
    · rename_i s hl
      cases hf
      obtain ⟨v, T, rfl, r1⟩ := repL1 r
      exact .inl ⟨_, _, rfl, by rw [r1.1]; exact ⟨by rw [str_len]; exact lim_le hl, by rw [str_len]⟩, q.flat e ⟨rfl, rfl⟩⟩
    · cases hf
  · cases hf
    obtain ⟨v, T, rfl, a, xs, rfl, h, rl⟩ := repL1 r
    exact .inl ⟨_, _, rfl, .inr ⟨xs, sqt_mono e h, rfl⟩, by rw [← rl.length]; exact q.flat e ⟨rfl, rfl⟩⟩
  · cases hf
    obtain ⟨v, T, rfl, r1⟩ := repL1 r
    obtain ⟨a, xs, T', rfl, h, rl, _⟩ := lst_heap e r1
    exact .inl ⟨_, _, rfl, .inl ⟨xs, .inl (.inl h), rfl⟩, by rw [← rl.length]; exact q.flat e ⟨rfl, rfl⟩⟩
  · cases hf
    obtain ⟨v, T, rfl, a, rfl, h, _⟩ := repL1 r
    exact .inl ⟨_, _, rfl, .inl ⟨_, sql_mono e h, rfl⟩, by rw [List.length_map]; exact q.flat e ⟨rfl, rfl⟩⟩
  · rename_i o ks ds'
    cases hf
    obtain ⟨v, T, rfl, r1⟩ := repL1 r
    right
    have : ∃ a xs, v = .ref a ∧ H a = some (.dK (ks.zip xs)) ∧ ks.length = xs.length := by
      cases o with
      | true => obtain ⟨a, xs, T, e1, h, n, _⟩ := r1; exact ⟨a, xs, e1, h, n⟩
      | false => obtain ⟨a, xs, e1, h, n, _⟩ := r1; exact ⟨a, xs, e1, e _ _ h, n⟩
    obtain ⟨a, xs, rfl, h, n⟩ := this
    refine ⟨a, _, rfl, h, ?_⟩
    rw [List.length_zip, ← n, Nat.min_self]
    exact q.flat e ⟨rfl, rfl⟩
  · cases hf
def max2D : List D → Option D
  | [.int i, .int j] => some (.int (if j > i then j else i))
  | _ => none
def min2D : List D → Option D
  | [.int i, .int j] => some (.int (if j < i then j else i))
  | _ => none
def intD : List D → Option D
  | [.int i] => some (.int i)
  | [.bl k] => some (.int (if k then 1 else 0))
  | _ => none
def intsD : List D → Option (List Int)
  | [] => some []
  | .int i :: ds => (intsD ds).map fun is => i :: is
  | _ :: _ => none
def sumD : List D → Option D
  | [.lst _ ds] => (intsD ds).map fun is => .int is.sum
  | _ => none
def listD : List D → Option D
  | [.lst _ ds] => if frzL ds = true then some (.lst true ds) else none
  | [.tup ds] => if frzL ds = true then some (.lst true ds) else none
  | [.scr ns] => some (.lst true (ns.map .int))
  | _ => none
theorem op_listD {c : LC} : OpA c (fun xs H Q => ∃ p ys, xs = [.ref p] ∧ (SqL c.K H p ys ∨ SqT c.K H p ys) ∧ ∀ l, H l = none → Q (.ref l) (upd H l (.lst ys))) listD := by
  intro P H e ds d vs U hf r Q q
  unfold listD at hf
  split at hf
  · split at hf
    · rename_i hl
      cases hf
      obtain ⟨v, T, rfl, r1⟩ := repL1 r
      obtain ⟨p, xs, rfl, hh, rl⟩ := lst_heap0 e r1 hl
      exact ⟨p, xs, rfl, .inl (.inl (.inl hh)), q.lst e rl⟩
    · cases hf
  · split at hf
    · rename_i hl
      cases hf
      obtain ⟨v, T, rfl, r1⟩ := repL1 r
      obtain ⟨p, xs, rfl, hh, _, rl⟩ := tup_heap0 e r1 hl
      exact ⟨p, xs, rfl, .inr hh, q.lst e rl⟩
    · cases hf
  · cases hf
    obtain ⟨v, T, rfl, p, rfl, hh, _⟩ := repL1 r
    exact ⟨p, _, rfl, .inl (sql_mono e hh), q.lst e (repL_ints _)⟩
  · cases hf
def tyD : D → Option String
  | .non => some "NoneType"
  | .bl _ => some "bool"
  | .int _ => some "int"
  | .str _ => some "str"
  | .scr _ => some "list"
  | .lst .. => some "list"
  | .tup _ => some "tuple"
  | .dK .. => some "dict"
  | .dT .. => some "dict"
  | _ => none
theorem ty_v {c : LC} {P H : Hp} (e : Ex P H) : ∀ {d : D} {v : V} {U : FP} {t : String}, tyD d = some t → Rep c P H d v U → TyX c.K H v (.type t)
  | .non, v, U, t, h, r => by cases h; rw [r.1]; exact .base .non
  | .bl b, v, U, t, h, r => by cases h; rw [r.1]; exact .base (.bl b)
  | .int b, v, U, t, h, r => by cases h; rw [r.1]; exact .base (.int b)
  | .str b, v, U, t, h, r => by cases h; rw [r.1]; exact .base (.str _)
  | .scr ns, v, U, t, h, ⟨a, e1, q, _⟩ => by
    cases h; rw [e1]
    rcases q with (q | ⟨o, q⟩) | ⟨o, its, n, q, q2, _⟩
    · exact .base (.lst (e _ _ q))
    · exact .base (.frz (e _ _ q))
    · exact .kList q q2
  | .tup ds, v, U, t, h, ⟨a, xs, e1, q, _⟩ => by
    cases h; rw [e1]
    rcases q with (q | ⟨o, q⟩) | ⟨o, its, n, q, q2, _⟩
    · exact .base (.tup (e _ _ q))
    · exact .fTuple (e _ _ q)
    · exact .kTuple q q2
  | .lst o ds, v, U, t, h, r => by
    cases h
    obtain ⟨a, xs, T, e1, hh, _⟩ := lst_heap e r
    rw [e1]; exact .base (.lst hh)
  | .dK true _ _, v, U, t, h, ⟨a, _, _, e1, q, _⟩ => by cases h; rw [e1]; exact .base (.dK q)
  | .dK false _ _, v, U, t, h, ⟨a, _, e1, q, _⟩ => by cases h; rw [e1]; exact .base (.dK (e _ _ q))
  | .dT true _ _, v, U, t, h, ⟨a, _, _, e1, q, _⟩ => by cases h; rw [e1]; exact .base (.dT q)
  | .dT false _ _, v, U, t, h, ⟨a, _, e1, q, _⟩ => by cases h; rw [e1]; exact .base (.dT (e _ _ q))
def isiM (ty : String) (m : RM) : RM := fun ρ => (m ρ).bind fun d => (tyD d).bind fun t => (kitB t ty).map .bl
theorem f_isi {ty : String} {b0 : Expr} {x : Str} {p : Pos} (hg : Gl X x) (hm : X.mg x = none) (hv : bootBuiltins x = some (.builtin "isinstance")) (ha : PE X a (tR ⟨X.K, cl, X.w⟩ E ma)) (hb : PE X b0 (tC (.ty ty)))
    (hn : x ≠ "__name__" := by decide) (hdb : (x == ("__debug__" : Str)) = false := by decide)
    (hs1 : starEach [a, b0] X.env = (false, eval a X.env) :: starEach [b0] X.env := by rfl) (hs2 : starEach [b0] X.env = (false, eval b0 X.env) :: starEach [] X.env := by rfl) (hpl : (backTo pos (starEach [b0] X.env)).any (·.1) = false := by rfl) : PE X (.Call (.Name x p) [a, b0] [] pos) (tF ⟨X.K, cl, X.w⟩ E (isiM ty ma)) :=
  PE_imp (pe_callB call_isi hg hm hv (pa_cons ha (pa_cons hb pa_nil hs2) hs1) hn hdb hs1 hpl) fun σ H Q ⟨P, S, T, ρ, d, w, h, q⟩ => by
    unfold isiM at h
    cases ea : ma ρ with
    | none => rw [ea] at h; cases h
    | some da =>
      rw [ea, Option.bind_some] at h
      cases et : tyD da with
      | none => rw [et] at h; cases h
      | some t =>
        rw [et, Option.bind_some] at h
        cases ek : kitB t ty with
        | none => rw [ek] at h; cases h
        | some k =>
          rw [ek] at h
          cases h
          exact ⟨P, S, T, ρ, da, w, ea, fun v H1 P1 U1 g1 r1 => ⟨v, .ty ty, .type t, .type ty, k, rfl, .ty ty, ty_v g1.ph et r1, kit_ty ek, (q.grow g1).flat g1.ph ⟨rfl, rfl⟩⟩⟩
end
end LI
namespace LI
open PySem L2

def IterOK (c : LC) (P : Hp) (J : It) (ds : List D) : Prop := ∃ (G : Hp → Prop) (Y : Nat → Hp → V → Hp → Prop), Walk J ds.length G Y ∧ (∀ P2 H2, Ex P P2 → Ex P2 H2 → G H2) ∧
  ∀ i P2 H2 x H3, Ex P P2 → Ex P2 H2 → i < ds.length → Y i H2 x H3 → ∃ P3 d, Gr P2 H2 P3 H3 ∧ ds[i]? = some d ∧ Rep c P3 H3 d x fz
def tI (c : LC) (E : En) (m : AM) : TI := fun σ H R => ∃ P S T ρ ds, Wd c E P S T σ H ρ ∧ m ρ = some ds ∧ ∀ J H' P', Gr P H P' H' → IterOK c P' J ds → R J H'
theorem PI_imp {X : Cx} {tg e : Expr} {t t' : TI} (h : PI X tg e t) (k : ∀ σ H R, t' σ H R → t σ H R) : PI X tg e t' := ⟨fun pins s σ H R I q => h.run pins s σ H R I (k σ H R q)⟩
theorem PI_or {X : Cx} {tg e : Expr} {t u : TI} (h : PI X tg e t) (k : PI X tg e u) : PI X tg e (fun σ H Q => t σ H Q ∨ u σ H Q) := ⟨fun pins s σ H Q I q => q.elim (h.run pins s σ H Q I) (k.run pins s σ H Q I)⟩
def strsD (s : List Nat) : List D := s.map fun k => .str [k]
def itemsD : D → Option (List D)
  | .lst false ds => if frzL ds = true then some ds else none
  | .tup ds => if frzL ds = true then some ds else none
  | .scr ns => some (ns.map .int)
  | .str s => some (strsD s)
  | _ => none
def itM (m : RM) : AM := fun ρ => (m ρ).bind itemsD
theorem rep_get0 {c : LC} {P H : Hp} {ds : List D} {xs : List V} {i : Nat} {x : V} (r : RepL c P H ds xs fz) (h : xs[i]? = some x) : ∃ d, ds[i]? = some d ∧ Rep c P H d x fz := by
  have hi : i < ds.length := by rw [r.length]; exact (List.getElem?_eq_some_iff.mp h).1
  obtain ⟨y, T, h1, h2, h3⟩ := r.get (List.getElem?_eq_getElem hi)
  rw [h1] at h
  cases h
  have : T = fz := by funext a; have := h3 a; simp only [fz] at this ⊢; omega
  subst this
  exact ⟨_, List.getElem?_eq_getElem hi, h2⟩
theorem iter_lst {c : LC} {P : Hp} {a : Addr} {xs : List V} {ds : List D} {H : Hp} (h : SqL c.K P a xs) (r : RepL c P H ds xs fz) (hp : ∀ H', RepL c P H' ds xs fz) : IterOK c P (Itl c.K a) ds := by
  refine ⟨_, _, by rw [r.length]; exact walk_list (xs := xs), fun P2 H2 e1 e2 => sql_mono e2 (sql_mono e1 h), fun i P2 H2 x H3 e1 e2 hi y => ?_⟩
  obtain ⟨rfl, hx⟩ := y
  obtain ⟨d, h1, h2⟩ := rep_get0 (hp H3) hx
  exact ⟨P2, d, .refl e2, h1, Rep.mono e1 d x fz (fun a o z _ => by simp [fz] at z) h2⟩
theorem iter_tup {c : LC} {P : Hp} {a : Addr} {xs : List V} {ds : List D} {H : Hp} (h : SqT c.K P a xs) (r : RepL c P H ds xs fz) (hp : ∀ H', RepL c P H' ds xs fz) : IterOK c P (Itt c.K a) ds := by
  refine ⟨_, _, by rw [r.length]; exact walk_tup (xs := xs), fun P2 H2 e1 e2 => sqt_mono e2 (sqt_mono e1 h), fun i P2 H2 x H3 e1 e2 hi y => ?_⟩
  obtain ⟨rfl, hx⟩ := y
  obtain ⟨d, h1, h2⟩ := rep_get0 (hp H3) hx
  exact ⟨P2, d, .refl e2, h1, Rep.mono e1 d x fz (fun a o z _ => by simp [fz] at z) h2⟩
theorem repL_h {c : LC} {P H H' : Hp} {ds : List D} {xs : List V} (r : RepL c P H ds xs fz) : RepL c P H' ds xs fz := RepL.mono (.refl _) ds xs fz (fun a o z _ => by simp [fz] at z) r
section
variable {X : Cx} {cl : Nat → Addr} {E : En} {e a b tg : Expr} {pos : Pos} {m ma mb : RM}
theorem i_seq (h : PE X e (tR ⟨X.K, cl, X.w⟩ E m)) : PI X tg e (tI ⟨X.K, cl, X.w⟩ E (itM m)) := by
  refine PI_imp (PI_or (pi_list h) (PI_or (pi_tup h) (pi_str h))) fun σ H R ⟨P, S, T, ρ, ds, w, hm, q⟩ => ?_
  unfold itM at hm
  cases ea : m ρ with
  | none => rw [ea] at hm; cases hm
  | some d =>
    rw [ea] at hm
    replace hm : itemsD d = some ds := hm
    unfold itemsD at hm
    split at hm
    · split at hm
      · rename_i hf
        cases hm
        refine .inl ⟨P, S, T, ρ, _, w, ea, fun v H1 P1 U1 g1 r1 => ?_⟩
        obtain ⟨p, xs, e1, hp, rl⟩ := r1
        have z := RepL.frz0 _ xs _ hf rl
        subst z
        exact ⟨p, e1, ⟨xs, .inl (.inl (g1.ph _ _ hp))⟩, q _ H1 P1 g1 (iter_lst (.inl (.inl hp)) rl fun _ => repL_h rl)⟩
      · cases hm
    · split at hm
      · rename_i hf
        cases hm
        refine .inr (.inl ⟨P, S, T, ρ, _, w, ea, fun v H1 P1 U1 g1 r1 => ?_⟩)
        obtain ⟨p, xs, e1, hp, rl⟩ := r1
        have z := RepL.frz0 _ xs _ hf rl
        subst z
        exact ⟨p, e1, ⟨xs, sqt_mono g1.ph hp⟩, q _ H1 P1 g1 (iter_tup hp rl fun _ => repL_h rl)⟩
      · cases hm
    · cases hm
      refine .inl ⟨P, S, T, ρ, _, w, ea, fun v H1 P1 U1 g1 r1 => ?_⟩
      obtain ⟨p, e1, hp, _⟩ := r1
      exact ⟨p, e1, ⟨_, sql_mono g1.ph hp⟩, q _ H1 P1 g1 (iter_lst (H := H1) hp (repL_ints _) fun _ => repL_ints _)⟩
    · rename_i s
      cases hm
      refine .inr (.inr ⟨P, S, T, ρ, _, w, ea, fun v H1 P1 U1 g1 r1 => ⟨_, r1.1, q _ H1 P1 g1 ?_⟩⟩)
      refine ⟨_, _, by rw [show (strsD s).length = (⟨s.toArray⟩ : Str).cps.size by simp [strsD]]; exact walk_str, fun _ _ _ _ => True.intro, fun i P2 H2 x H3 e1 e2 hi y => ?_⟩
      obtain ⟨rfl, k, hk, rfl⟩ := y
      refine ⟨P2, .str [k], .refl e2, ?_, ⟨rfl, rfl⟩⟩
      have hk' : s[i]? = some k := by simpa using hk
      simp [strsD, hk']
    · cases hm
def upD (lo : Int) (n : Nat) : List D := (List.range n).map fun (k : Nat) => D.int (lo + (k : Int))
def rng1M (m : RM) : AM := fun ρ => (m ρ).bind fun d => match d with | .int j => if -(2 ^ 62) ≤ j ∧ j < 2 ^ 62 then some (upD 0 j.toNat) else none | _ => none
def rng2M (ma mb : RM) : AM := fun ρ => (ma ρ).bind fun x => (mb ρ).bind fun y => match x, y with | .int i, .int j => if -(2 ^ 62) ≤ i ∧ i < 2 ^ 62 ∧ -(2 ^ 62) ≤ j ∧ j < 2 ^ 62 then some (upD i (j - i).toNat) else none | _, _ => none
theorem iter_rng {c : LC} {P : Hp} (lo : Int) (n : Nat) : IterOK c P (Itr lo n) (upD lo n) := by
  refine ⟨_, _, by rw [show (upD lo n).length = n by simp [upD]]; exact walk_range, fun _ _ _ _ => True.intro, fun i P2 H2 x H3 e1 e2 hi y => ?_⟩
  obtain ⟨rfl, rfl⟩ := y
  have hi' : i < n := by simpa [upD] using hi
  refine ⟨P2, .int (lo + (i : Int)), .refl e2, ?_, ⟨rfl, rfl⟩⟩
  simp [upD, hi']
theorem i_rng1 {p : Pos} (hg : Gl X "range") (hm : X.mg "range" = none) (ha : PE X a (tR ⟨X.K, cl, X.w⟩ E m)) (hs : starEach [a] X.env = [(false, eval a X.env)] := by rfl) : PI X tg (.Call (.Name "range" p) [a] [] pos) (tI ⟨X.K, cl, X.w⟩ E (rng1M m)) :=
  PI_imp (pi_range1 hg hm (pa_cons ha pa_nil hs) hs) fun σ H R ⟨P, S, T, ρ, ds, w, h, q⟩ => by
    unfold rng1M at h
    cases ea : m ρ with
    | none => rw [ea] at h; cases h
    | some d =>
      rw [ea] at h
      cases d with
      | int j =>
        simp only [Option.bind_some] at h
        split at h
        · rename_i hb
          cases h
          exact ⟨P, S, T, ρ, _, w, ea, fun v H1 P1 U1 g1 r1 => ⟨j, by rw [r1.1], hb.1, hb.2, q _ H1 P1 g1 (iter_rng 0 _)⟩⟩
        · cases h
      | _ => cases h
abbrev TgM := D → List D → Option (List D)
theorem fa_assoc (S T U : FP) : fa (fa S T) U = fa S (fa T U) := by funext a; simp only [fa]; omega
theorem fa_comm (S T : FP) : fa S T = fa T S := by funext a; simp only [fa]; omega
theorem Wd.shrink {c : LC} {P H : Hp} {S S' T T' : FP} {σ σ' : St} {ρ ρ' : List D} (w : Wd c E P S T σ H ρ) (he : RepE c P H ρ' σ' S') (hl : ∀ a, S' a + T' a ≤ S a + T a) (ht : ∀ a, T' a ≤ T a) (hk : ∀ (i : Nat) (v : V), E.kp[i]? = some true → E.vs[i]? = some v → σ'[i]? = some (some v)) : Wd c E P S' T' σ' H ρ' :=
  ⟨he, fun a => Nat.le_trans (hl a) (w.le a), fun a h => w.out a (Nat.lt_of_lt_of_le h (hl a)), fun a h => w.th a (Nat.lt_of_lt_of_le h (ht a)), w.ph, w.p0, w.fr, w.np, fun a h => w.ns a (Nat.lt_of_lt_of_le h (hl a)), hk⟩
theorem Wd.drop {c : LC} {P H : Hp} {S T U : FP} {σ : St} {ρ : List D} (w : Wd c E P S (fa T U) σ H ρ) : Wd c E P S T σ H ρ := w.shrink w.env (fun a => by simp only [fa]; omega) (fun a => by simp only [fa]; omega) w.kp
theorem RepE.set {c : LC} {P H : Hp} {d : D} {v : V} {U : FP} (r : Rep c P H d v U) : ∀ {ρ : List D} {σ : St} {S : FP} (i : Nat), RepE c P H ρ σ S → ∃ S', RepE c P H (ρ.set i d) (σ.set i (some v)) S' ∧ ∀ a, S' a ≤ S a + U a
  | [], [], S, i, h => ⟨S, h, fun a => by omega⟩
  | d0 :: ρ, v0 :: σ, S, 0, ⟨T, T2, h1, h2, f⟩ => ⟨fa U T2, ⟨U, T2, r, h2, rfl⟩, fun a => by rw [f]; simp only [fa]; omega⟩
  | d0 :: ρ, v0 :: σ, S, i + 1, ⟨T, T2, h1, h2, f⟩ => by
    obtain ⟨S', k1, k2⟩ := RepE.set r i h2
    exact ⟨fa T S', ⟨T, S', h1, k1, rfl⟩, fun a => by have := k2 a; rw [f]; simp only [fa]; omega⟩
  | [], _ :: _, _, _, h => h.elim
  | _ :: _, [], _, _, h => h.elim
theorem Wd.store {c : LC} {P H : Hp} {S T U : FP} {σ : St} {ρ : List D} {d : D} {v : V} (w : Wd c E P S (fa T U) σ H ρ) (r : Rep c P H d v U) (i : Nat) (hk : E.kp[i]? ≠ some true) : ∃ S', Wd c E P S' T (σ.set i (some v)) H (ρ.set i d) := by
  obtain ⟨S', h1, h2⟩ := RepE.set r i w.env
  refine ⟨S', w.shrink h1 (fun a => by have := h2 a; simp only [fa]; omega) (fun a => by simp only [fa]; omega) fun j u h3 h4 => ?_⟩
  have : j ≠ i := fun z => hk (z ▸ h3)
  rw [List.getElem?_set_ne (Ne.symm this)]
  exact w.kp j u h3 h4
def tPG (c : LC) (E : En) (tl : List Nat) (f : TgM) : TG := fun v σ H Q => ∃ P S T U ρ d ρ', Wd c E P S (fa T U) σ H ρ ∧ Rep c P H d v U ∧ f d ρ = some ρ' ∧
  ∀ σ' S', Wd c E P S' T σ' H ρ' → σ'.length = σ.length → (∀ j, j ∉ tl → σ'[j]? = σ[j]?) → Q σ' H
def tPGs (c : LC) (E : En) (tl : List Nat) (f : List D → List D → Option (List D)) : TGs := fun vs σ H Q => ∃ P S T U ρ ds ρ', Wd c E P S (fa T U) σ H ρ ∧ RepL c P H ds vs U ∧ f ds ρ = some ρ' ∧
  ∀ σ' S', Wd c E P S' T σ' H ρ' → σ'.length = σ.length → (∀ j, j ∉ tl → σ'[j]? = σ[j]?) → Q σ' H
theorem PG_imp {t t' : TG} (h : PG X e t) (k : ∀ v σ H Q, t' v σ H Q → t v σ H Q) : PG X e t' := ⟨fun pins s σ H v u Q I r q => h.run pins s σ H v u Q I r (k v σ H Q q)⟩
theorem PGs_imp {es : List Expr} {t t' : TGs} (h : PGs X es t) (k : ∀ v σ H Q, t' v σ H Q → t v σ H Q) : PGs X es t' := ⟨fun pins s σ H v u Q I r q => h.run pins s σ H v u Q I r (k v σ H Q q)⟩
def nameT (i : Nat) : TgM := fun d ρ => some (ρ.set i d)
def tupT (f : List D → List D → Option (List D)) : TgM := fun d ρ => match d with | .tup ds => f ds ρ | _ => none
def nilT : List D → List D → Option (List D) := fun ds ρ => match ds with | [] => some ρ | _ => none
def consT (f : TgM) (g : List D → List D → Option (List D)) : List D → List D → Option (List D) := fun ds ρ => match ds with | d :: ds => (f d ρ).bind fun ρ => g ds ρ | _ => none
theorem g_name (i : Nat) {x : Str} (hN : X.N.Nodup) (hi : X.N[i]? = some x) (hx : Loc X.env.scope x) (hk : E.kp[i]? ≠ some true) (hf : X.fn x = true ∨ X.env.scope.names.lookup x = some .local := by first | exact .inl rfl | exact .inr rfl | assumption) : PG X (.Name x pos) (tPG ⟨X.K, cl, X.w⟩ E [i] (nameT i)) :=
  PG_imp (pg_name hN hi hx hf) fun v σ H Q ⟨P, S, T, U, ρ, d, ρ', w, r, hm, q⟩ => by
    cases hm
    obtain ⟨S', w'⟩ := w.store r i hk
    exact q _ S' w' (by simp) fun j hj => List.getElem?_set_ne (fun z => hj (by simp [z]))
theorem gs_nil : PGs X [] (tPGs ⟨X.K, cl, X.w⟩ E [] nilT) := PGs_imp pgs_nil fun v σ H Q ⟨P, S, T, U, ρ, ds, ρ', w, r, hm, q⟩ => by
  cases ds with
  | nil => cases hm; exact ⟨r.1, q σ S (w.drop) rfl fun _ _ => rfl⟩
  | cons _ _ => cases hm
theorem gs_cons {es : List Expr} {tl tl2 : List Nat} {f : TgM} {g : List D → List D → Option (List D)} (h1 : PG X e (tPG ⟨X.K, cl, X.w⟩ E tl f)) (h2 : PGs X es (tPGs ⟨X.K, cl, X.w⟩ E tl2 g))
    (hs : (assignEach (e :: es) X.env).map (·.2) = assign e X.env :: (assignEach es X.env).map (·.2) := by rfl) : PGs X (e :: es) (tPGs ⟨X.K, cl, X.w⟩ E (tl ++ tl2) (consT f g)) := PGs_imp (pgs_cons h1 h2 hs) fun v σ H Q ⟨P, S, T, U, ρ, ds, ρ', w, r, hm, q⟩ => by
  cases ds with
  | nil => cases hm
  | cons d ds =>
    obtain ⟨y, ys, U1, U2, e1, r1, r2, hu⟩ := r
    subst hu
    replace hm : ((f d ρ).bind fun ρ => g ds ρ) = some ρ' := hm
    cases ef : f d ρ with
    | none => rw [ef] at hm; cases hm
    | some ρ1 =>
      rw [ef] at hm
      refine ⟨y, ys, e1, P, S, fa T U2, U1, ρ, d, ρ1, ?_, r1, ef, fun σ1 S1 w1 l1 k1 => ⟨P, S1, T, U2, ρ1, ds, ρ', w1, r2, hm, fun σ2 S2 w2 l2 k2 => q σ2 S2 w2 (l2.trans l1) fun j hj => ?_⟩⟩
      · have : fa (fa T U2) U1 = fa T (fa U1 U2) := by rw [fa_assoc, fa_comm U2 U1]
        rw [this]; exact w
      · simp only [List.mem_append, not_or] at hj
        rw [k2 j hj.2, k1 j hj.1]
theorem g_tup {es : List Expr} {k : Nat} {tl : List Nat} {f : List D → List D → Option (List D)} {n : Nat} (hc : X.calm = true) (h : PGs X es (tPGs ⟨X.K, cl, X.w⟩ E tl f))
    (hn : (assignEach es X.env).length = n := by rfl) (hst : (assignEach es X.env).findIdx? (·.1) = none := by rfl) (hlen : ∀ ds ρ ρ', f ds ρ = some ρ' → ds.length = n := by intro ds ρ ρ' h; rcases ds with _ | ⟨_, ds⟩ <;> simp_all) : PG X (.Tuple es k pos) (tPG ⟨X.K, cl, X.w⟩ E tl (tupT f)) := PG_imp (pg_tup hc h hn hst) fun v σ H Q ⟨P, S, T, U, ρ, d, ρ', w, r, hm, q⟩ => by
  cases d with
  | tup ds =>
    obtain ⟨a, xs, e1, hp, rl⟩ := r
    exact ⟨a, xs, e1, sqt_mono w.ph hp, by rw [← rl.length]; exact hlen ds ρ ρ' hm, P, S, T, U, ρ, ds, ρ', w, rl, hm, q⟩
  | _ => cases hm
theorem len_nil {ds ρ ρ' : List D} (h : nilT ds ρ = some ρ') : ds.length = 0 := by cases ds <;> first | rfl | cases h
theorem len_cons {f : TgM} {g : List D → List D → Option (List D)} {n : Nat} (hg : ∀ ds ρ ρ', g ds ρ = some ρ' → ds.length = n) (ds ρ ρ' : List D) (h : consT f g ds ρ = some ρ') : ds.length = n + 1 := by
  cases ds with
  | nil => cases h
  | cons d ds =>
    replace h : ((f d ρ).bind fun ρ => g ds ρ) = some ρ' := h
    cases ef : f d ρ with
    | none => rw [ef] at h; cases h
    | some ρ1 => rw [ef] at h; rw [List.length_cons, hg ds ρ1 ρ' h]
end

def goneAt (ρ : List D) : List Nat → List D
  | [] => ρ
  | v :: vs => (goneAt ρ vs).set v .gone
section
variable {X : Cx} {cl : Nat → Addr} {E : En} {e a b tg : Expr} {pos : Pos} {m ma mb : RM}
theorem RepE.gone {c : LC} {P H : Hp} : ∀ {ρ : List D} {σ : St} {S : FP} (i : Nat), RepE c P H ρ σ S → ∃ S', RepE c P H (ρ.set i .gone) (σ.set i none) S' ∧ ∀ a, S' a ≤ S a
  | [], [], S, i, h => ⟨S, h, fun a => Nat.le_refl _⟩
  | d0 :: ρ, v0 :: σ, S, 0, ⟨T, T2, h1, h2, f⟩ => ⟨fa fz T2, ⟨fz, T2, ⟨rfl, rfl⟩, h2, rfl⟩, fun a => by rw [f]; simp only [fa, fz]; omega⟩
  | d0 :: ρ, v0 :: σ, S, i + 1, ⟨T, T2, h1, h2, f⟩ => by
    obtain ⟨S', k1, k2⟩ := RepE.gone i h2
    exact ⟨fa T S', ⟨T, S', h1, k1, rfl⟩, fun a => by have := k2 a; rw [f]; simp only [fa]; omega⟩
  | [], _ :: _, _, _, h => h.elim
  | _ :: _, [], _, _, h => h.elim
theorem RepE.wipe {c : LC} {P H : Hp} {ρ : List D} {σ : St} {S : FP} (h : RepE c P H ρ σ S) : ∀ vs : List Nat, ∃ S', RepE c P H (goneAt ρ vs) (L2.wipe σ vs) S' ∧ ∀ a, S' a ≤ S a
  | [] => ⟨S, h, fun _ => Nat.le_refl _⟩
  | v :: vs => by
    obtain ⟨S1, h1, h2⟩ := RepE.wipe h vs
    obtain ⟨S2, h3, h4⟩ := RepE.gone v h1
    exact ⟨S2, h3, fun a => Nat.le_trans (h4 a) (h2 a)⟩
theorem wipe_at {σ : St} : ∀ {vs : List Nat} {j : Nat}, j ∉ vs → (L2.wipe σ vs)[j]? = σ[j]?
  | [], j, _ => rfl
  | v :: vs, j, h => by
    simp only [List.mem_cons, not_or] at h
    unfold L2.wipe
    rw [List.getElem?_set_ne (fun z => h.1 z.symm), wipe_at h.2]
theorem wipe_in {σ : St} : ∀ {vs : List Nat} {j : Nat}, j ∈ vs → j < σ.length → (L2.wipe σ vs)[j]? = some none
  | v :: vs, j, h, hl => by
    unfold L2.wipe
    by_cases z : v = j
    · subst z; rw [List.getElem?_set_self (by rw [wipe_length]; exact hl)]
    · rw [List.getElem?_set_ne z]
      exact wipe_in (by simpa [Ne.symm z] using h) hl
theorem wipe_eq {σ σ' : St} {vs : List Nat} (hl : σ'.length = σ.length) (h : ∀ j, j ∉ vs → σ'[j]? = σ[j]?) : L2.wipe σ' vs = L2.wipe σ vs := by
  apply List.ext_getElem?
  intro j
  by_cases hj : j ∈ vs
  · by_cases z : j < σ.length
    · rw [wipe_in hj (by omega), wipe_in hj z]
    · rw [List.getElem?_eq_none (by rw [wipe_length]; omega), List.getElem?_eq_none (by rw [wipe_length]; omega)]
  · rw [wipe_at hj, wipe_at hj, h j hj]
theorem wipe_wipe (σ : St) (vs : List Nat) : L2.wipe (L2.wipe σ vs) vs = L2.wipe σ vs := wipe_eq (wipe_length _ _) fun j hj => wipe_at hj
theorem Wd.wipe {c : LC} {P H : Hp} {S T : FP} {σ : St} {ρ : List D} (w : Wd c E P S T σ H ρ) (vs : List Nat) (hk : ∀ j ∈ vs, E.kp[j]? ≠ some true) : ∃ S', Wd c E P S' T (L2.wipe σ vs) H (goneAt ρ vs) := by
  obtain ⟨S', h1, h2⟩ := RepE.wipe w.env vs
  refine ⟨S', w.shrink h1 (fun a => by have := h2 a; omega) (fun _ => Nat.le_refl _) fun i v h3 h4 => ?_⟩
  rw [wipe_at fun z => hk i z h3]
  exact w.kp i v h3 h4
def compL (f : TgM) (mc : BM) (me : RM) (ρ0 : List D) : List D → Option (List D)
  | [] => some []
  | d :: ds => (f d ρ0).bind fun ρ1 => (mc ρ1).bind fun k => if k = true then (me ρ1).bind fun y => if frz y = true then (compL f mc me ρ0 ds).map fun ys => y :: ys else none else compL f mc me ρ0 ds
def compM (vs : List Nat) (f : TgM) (mc : BM) (me : RM) (ms : AM) : RM := fun ρ => (ms ρ).bind fun ds => if ds.length ≤ LIM then (compL f mc me (goneAt ρ vs) ds).map (.lst true) else none
def yesB : BM := fun _ => some true
theorem compL_len {f : TgM} {mc : BM} {me : RM} {ρ0 : List D} : ∀ {ds ys : List D}, compL f mc me ρ0 ds = some ys → ys.length ≤ ds.length
  | [], ys, h => by cases h; exact Nat.le_refl _
  | d :: ds, ys, h => by
    unfold compL at h
    cases e1 : f d ρ0 with
    | none => rw [e1] at h; cases h
    | some ρ1 =>
      cases e2 : mc ρ1 with
      | none => rw [e1, Option.bind_some, e2] at h; cases h
      | some k =>
        rw [e1, Option.bind_some, e2, Option.bind_some] at h
        split at h
        · cases e3 : me ρ1 with
          | none => rw [e3] at h; cases h
          | some y =>
            rw [e3, Option.bind_some] at h
            split at h
            · cases e4 : compL f mc me ρ0 ds with
              | none => rw [e4] at h; cases h
              | some zs => rw [e4] at h; cases h; have := compL_len e4; simp; omega
            · cases h
        · have := compL_len h; simp; omega
theorem compL_turn {f : TgM} {mc : BM} {me : RM} {ρ0 : List D} : ∀ {ds ys : List D} {i : Nat} {d : D}, compL f mc me ρ0 ds = some ys → ds[i]? = some d → ∃ zs ρ1 k, compL f mc me ρ0 (ds.take i) = some zs ∧ f d ρ0 = some ρ1 ∧ mc ρ1 = some k ∧
    (k = true → ∃ y, me ρ1 = some y ∧ frz y = true ∧ compL f mc me ρ0 (ds.take (i + 1)) = some (zs ++ [y])) ∧ (k = false → compL f mc me ρ0 (ds.take (i + 1)) = some zs)
  | [], ys, i, d, h, e => by simp at e
  | d0 :: ds, ys, i, d, h, e => by
    unfold compL at h
    cases e1 : f d0 ρ0 with
    | none => rw [e1] at h; cases h
    | some ρ1 =>
      cases e2 : mc ρ1 with
      | none => rw [e1, Option.bind_some, e2] at h; cases h
      | some k =>
        rw [e1, Option.bind_some, e2, Option.bind_some] at h
        cases i with
        | zero =>
          simp at e; subst e
          refine ⟨[], ρ1, k, rfl, e1, e2, fun hk => ?_, fun hk => ?_⟩
          · subst hk
            rw [if_pos rfl] at h
            cases e3 : me ρ1 with
            | none => rw [e3] at h; cases h
            | some y =>
              rw [e3, Option.bind_some] at h
              split at h
              · rename_i hf
                exact ⟨y, rfl, hf, by simp [compL, e1, e2, e3, hf]⟩
              · cases h
          · subst hk; simp [compL, e1, e2]
        | succ i =>
          have e' : ds[i]? = some d := by simpa using e
          cases k with
          | true =>
            rw [if_pos rfl] at h
            cases e3 : me ρ1 with
            | none => rw [e3] at h; cases h
            | some y =>
              rw [e3, Option.bind_some] at h
              split at h
              · rename_i hf
                cases e4 : compL f mc me ρ0 ds with
                | none => rw [e4] at h; cases h
                | some ws =>
                  obtain ⟨zs, ρ2, k2, h1, h2, h3, h4, h5⟩ := compL_turn e4 e'
                  refine ⟨y :: zs, ρ2, k2, by simp [compL, e1, e2, e3, hf, h1], h2, h3, fun z => ?_, fun z => ?_⟩
                  · obtain ⟨y2, k3, k4, k5⟩ := h4 z
                    exact ⟨y2, k3, k4, by simp [compL, e1, e2, e3, hf, k5]⟩
                  · simp [compL, e1, e2, e3, hf, h5 z]
              · cases h
          | false =>
            rw [if_neg (by decide)] at h
            obtain ⟨zs, ρ2, k2, h1, h2, h3, h4, h5⟩ := compL_turn h e'
            refine ⟨zs, ρ2, k2, by simp [compL, e1, e2, h1], h2, h3, fun z => ?_, fun z => ?_⟩
            · obtain ⟨y2, k3, k4, k5⟩ := h4 z
              exact ⟨y2, k3, k4, by simp [compL, e1, e2, k5]⟩
            · simp [compL, e1, e2, h5 z]
def tTs (c : LC) (E : En) (mc : BM) : TT := tT c E mc
theorem ts_nil : PTs X [] (tTs ⟨X.K, cl, X.w⟩ E yesB) := ⟨fun pins s σ H Q I ⟨P, S, T, ρ, b, w, hm, q⟩ => by
  cases hm
  exact pts_nil.run pins s σ H Q I (q H P (.refl w.ph))⟩
theorem ts_one {c0 : Expr} {mc : BM} (h : PT X c0 (tT ⟨X.K, cl, X.w⟩ E mc)) : PTs X [c0] (tTs ⟨X.K, cl, X.w⟩ E mc) := pts_one h
end
end LI
namespace LI
open PySem L2

inductive Fl where
  | nx | rt (d : D) | bk | ct | ex (n : Nat) (fs : List Str) (es : List D)
def XE1 (c : LC) (W : WX) (n : Nat) (fs : List Str) (vs : List V) (σ' : St) (H' : Hp) : Prop :=
  (fs = [] → W (.ref (c.cl n)) none σ' H') ∧ (fs ≠ [] → ∀ dd, H' dd = none → W (.ref (c.cl n)) (some dd) σ' (upd H' dd (.xd (fs.zip vs))))
abbrev SM := List D → Option (Fl × List D)
def SPost (c : LC) (E : En) (P : Hp) (D : Ends) : Fl → List LI.D → Prop
  | .nx, ρ' => ∀ σ' H' P' S', Wd c E P' S' fz σ' H' ρ' → Ex P P' → D.nx σ' H'
  | .rt d, ρ' => ∀ v σ' H' P' S' U, Wd c E P' S' U σ' H' ρ' → Rep c P' H' d v U → D.rt v H'
  | .bk, ρ' => ∀ σ' H' P' S', Wd c E P' S' fz σ' H' ρ' → Ex P P' → D.bk σ' H'
  | .ct, ρ' => ∀ σ' H' P' S', Wd c E P' S' fz σ' H' ρ' → Ex P P' → D.ct σ' H'
  | .ex n fs es, ρ' => ∀ vs σ' H' P' S' U, Wd c E P' S' U σ' H' ρ' → Ex P P' → RepL c P' H' es vs fz → XE1 c E.xw n fs vs σ' H'
def tS (c : LC) (E : En) (m : SM) : TS := fun D σ H => ∃ P S ρ fl ρ', Wd c E P S fz σ H ρ ∧ m ρ = some (fl, ρ') ∧ SPost c E P D fl ρ'
theorem SPost.mono {c : LC} {E : En} {P P2 : Hp} {D : Ends} {fl : Fl} {ρ' : List LI.D} (h : SPost c E P D fl ρ') (e : Ex P P2) : SPost c E P2 D fl ρ' := by
  cases fl with
  | nx => exact fun σ' H' P' S' w x => h σ' H' P' S' w (e.trans x)
  | rt d => exact h
  | bk => exact fun σ' H' P' S' w x => h σ' H' P' S' w (e.trans x)
  | ct => exact fun σ' H' P' S' w x => h σ' H' P' S' w (e.trans x)
  | ex n fs es => exact fun vs σ' H' P' S' U w x => h vs σ' H' P' S' U w (e.trans x)
section
variable {X : Cx} {cl : Nat → Addr} {E : En} {e a b tg : Expr} {pos : Pos} {m ma mb : SM} {g : GM}
def skipM : SM := fun ρ => some (.nx, ρ)
def seqM (m1 m2 : SM) : SM := fun ρ => (m1 ρ).bind fun r => match r.1 with | .nx => m2 r.2 | _ => some r
theorem s_nil : PSs X [] (tS ⟨X.K, cl, X.w⟩ E skipM) := PSs_imp pss_nil fun D σ H ⟨P, S, ρ, fl, ρ', w, hm, q⟩ => by
  cases hm
  exact q σ H P S w (.refl _)
theorem seq_run {c : LC} {D : Ends} {σ : St} {H : Hp} (h : tS c E (seqM ma mb) D σ H) : tSeq (tS c E ma) (tS c E mb) D σ H := by
  obtain ⟨P, S, ρ, fl, ρ', w, hm, q⟩ := h
  unfold seqM at hm
  cases ea : ma ρ with
  | none => rw [ea] at hm; cases hm
  | some r =>
    obtain ⟨f1, ρ1⟩ := r
    rw [ea, Option.bind_some] at hm
    refine ⟨P, S, ρ, f1, ρ1, w, ea, ?_⟩
    cases f1 with
    | nx => exact fun σ' H' P' S' w' x => ⟨P', S', ρ1, fl, ρ', w', hm, q.mono x⟩
    | rt d => cases hm; exact q
    | bk => cases hm; exact q
    | ct => cases hm; exact q
    | ex n fs es => cases hm; exact q
theorem s_cons {st : Stmt} {rest : List Stmt} (h1 : PS X st (tS ⟨X.K, cl, X.w⟩ E ma)) (h2 : PSs X rest (tS ⟨X.K, cl, X.w⟩ E mb)) : PSs X (st :: rest) (tS ⟨X.K, cl, X.w⟩ E (seqM ma mb)) := PSs_imp (pss_cons h1 h2) fun _ _ _ h => seq_run h
theorem RepE.forget {c : LC} {P H : Hp} : ∀ {ρ : List D} {σ : St} {S : FP} (i : Nat), RepE c P H ρ σ S → ∃ S', RepE c P H (ρ.set i .gone) σ S' ∧ ∀ a, S' a ≤ S a
  | [], [], S, i, h => ⟨S, h, fun a => Nat.le_refl _⟩
  | d0 :: ρ, v0 :: σ, S, 0, ⟨T, T2, h1, h2, f⟩ => ⟨fa fz T2, ⟨fz, T2, by cases v0 <;> first | exact ⟨rfl, rfl⟩ | exact rfl, h2, rfl⟩, fun a => by rw [f]; simp only [fa, fz]; omega⟩
  | d0 :: ρ, v0 :: σ, S, i + 1, ⟨T, T2, h1, h2, f⟩ => by
    obtain ⟨S', k1, k2⟩ := RepE.forget i h2
    exact ⟨fa T S', ⟨T, S', h1, k1, rfl⟩, fun a => by have := k2 a; rw [f]; simp only [fa]; omega⟩
  | [], _ :: _, _, _, h => h.elim
  | _ :: _, [], _, _, h => h.elim
theorem Wd.forget {c : LC} {P H : Hp} {S T : FP} {σ : St} {ρ : List D} (w : Wd c E P S T σ H ρ) : ∀ vs : List Nat, ∃ S', Wd c E P S' T σ H (goneAt ρ vs)
  | [] => ⟨S, w⟩
  | v :: vs => by
    obtain ⟨S1, w1⟩ := Wd.forget w vs
    obtain ⟨S2, h1, h2⟩ := RepE.forget v w1.env
    exact ⟨S2, w1.shrink h1 (fun a => by have := h2 a; omega) (fun _ => Nat.le_refl _) w1.kp⟩
def killM (vs : List Nat) (m : SM) : SM := fun ρ => m (goneAt ρ vs)
theorem s_kill (vs : List Nat) {sts : List Stmt} (h : PSs X sts (tS ⟨X.K, cl, X.w⟩ E m)) : PSs X sts (tS ⟨X.K, cl, X.w⟩ E (killM vs m)) := PSs_imp h fun D σ H ⟨P, S, ρ, fl, ρ', w, hm, q⟩ => by
  obtain ⟨S', w'⟩ := w.forget vs
  exact ⟨P, S', _, fl, ρ', w', hm, q⟩

theorem g_run {c : LC} {σ : St} {H : Hp} {Q : VK} {P : Hp} {S : FP} {ρ ρ1 : List D} {d : D} (w : Wd c E P S fz σ H ρ) (hg : g ρ = some (d, ρ1)) (q : ∀ v H' P' S' U, Wd c E P' S' U σ H' ρ1 → Ex P P' → Rep c P' H' d v U → Q v H') : tG c E g σ H Q :=
  ⟨P, S, fz, ρ, d, ρ1, w, hg, fun v H' P' S' U w' e r _ => q v H' P' S' U (by rw [fz_fa] at w'; exact w') e r⟩
def asgM (f : TgM) (g : GM) : SM := fun ρ => (g ρ).bind fun r => (f r.1 r.2).map fun ρ' => (.nx, ρ')
theorem s_set (i : Nat) {x : Str} {pos' : Pos} (hN : X.N.Nodup) (hi : X.N[i]? = some x) (hx : Loc X.env.scope x) (hk : E.kp[i]? ≠ some true) (he : PE X e (tG ⟨X.K, cl, X.w⟩ E g)) (hs : swapsWith e (some (.Name x pos')) pos.line X.env = pure false := by rfl) (hf : X.fn x = true ∨ X.env.scope.names.lookup x = some .local := by first | exact .inl rfl | exact .inr rfl | assumption) :
    PS X (.Assign [.Name x pos'] e pos) (tS ⟨X.K, cl, X.w⟩ E (asgM (nameT i) g)) := PS_imp (ps_set hN hi hx he hs hf) fun D σ H ⟨P, S, ρ, fl, ρ', w, hm, q⟩ => by
  unfold asgM at hm
  cases eg : g ρ with
  | none => rw [eg] at hm; cases hm
  | some r =>
    obtain ⟨d, ρ1⟩ := r
    rw [eg] at hm
    cases hm
    exact g_run w eg fun v H' P' S' U w' e r => by
      obtain ⟨S2, w2⟩ := (show Wd ⟨X.K, cl, X.w⟩ E P' S' (fa fz U) σ H' ρ1 by rw [fz_fa]; exact w').store r i hk
      exact q _ H' P' S2 w2 e
def exprM (g : GM) : SM := fun ρ => (g ρ).map fun r => (.nx, r.2)
theorem s_expr (he : PE X e (tG ⟨X.K, cl, X.w⟩ E g)) (hs : swapsWith e none pos.line X.env = pure false := by rfl) : PS X (.Expr e pos) (tS ⟨X.K, cl, X.w⟩ E (exprM g)) := PS_imp (ps_expr he hs) fun D σ H ⟨P, S, ρ, fl, ρ', w, hm, q⟩ => by
  unfold exprM at hm
  cases eg : g ρ with
  | none => rw [eg] at hm; cases hm
  | some r =>
    rw [eg] at hm
    cases hm
    exact g_run w eg fun v H' P' S' U w' e r => q σ H' P' S' (Wd.drop (U := U) (by rw [fz_fa]; exact w')) e
def retM (g : GM) : SM := fun ρ => (g ρ).map fun r => (.rt r.1, r.2)
theorem s_ret (he : PE X e (tG ⟨X.K, cl, X.w⟩ E g)) : PS X (.Return (some e) pos) (tS ⟨X.K, cl, X.w⟩ E (retM g)) := PS_imp (ps_ret he) fun D σ H ⟨P, S, ρ, fl, ρ', w, hm, q⟩ => by
  unfold retM at hm
  cases eg : g ρ with
  | none => rw [eg] at hm; cases hm
  | some r =>
    rw [eg] at hm
    cases hm
    exact g_run w eg fun v H' P' S' U w' e r => q v σ H' P' S' U w' r
def ifM (mc : BM) (ma mb : SM) : SM := fun ρ => (mc ρ).bind fun k => if k = true then ma ρ else mb ρ
theorem s_if {mc : BM} {sa sb : List Stmt} (hc : PT X e (tT ⟨X.K, cl, X.w⟩ E mc)) (ha : PSs X sa (tS ⟨X.K, cl, X.w⟩ E ma)) (hb : PSs X sb (tS ⟨X.K, cl, X.w⟩ E mb)) : PS X (.If e sa sb pos) (tS ⟨X.K, cl, X.w⟩ E (ifM mc ma mb)) := PS_imp (ps_if hc ha hb) fun D σ H ⟨P, S, ρ, fl, ρ', w, hm, q⟩ => by
  unfold ifM at hm
  cases ec : mc ρ with
  | none => rw [ec] at hm; cases hm
  | some k =>
    rw [ec, Option.bind_some] at hm
    refine ⟨P, S, fz, ρ, k, w, ec, fun H' P' g => ?_⟩
    cases k with
    | true => exact iteT ⟨P', S, ρ, fl, ρ', w.grow g, hm, q.mono g.p⟩
    | false => exact iteF ⟨P', S, ρ, fl, ρ', w.grow g, hm, q.mono g.p⟩

def forL (f : TgM) (body : SM) (kl : List Nat) : List D → List D → Option (Fl × List D)
  | [], ρ => some (.nx, ρ)
  | d :: ds, ρ => (f d ρ).bind fun ρ1 => (body ρ1).bind fun r => match r.1 with
    | .nx => forL f body kl ds (goneAt r.2 kl)
    | .ct => forL f body kl ds (goneAt r.2 kl)
    | .bk => some (.nx, goneAt r.2 kl)
    | .rt d => some (.rt d, r.2)
    | .ex n fs es => some (.ex n fs es, r.2)
def forM (f : TgM) (body : SM) (kl : List Nat) (ms : AM) : SM := fun ρ => (ms ρ).bind fun ds => forL f body kl ds ρ
theorem for_run {c : LC} {tl kl : List Nat} {f : TgM} {body : SM} {ms : AM} {D : Ends} {σ : St} {H : Hp} (h : tS c E (forM f body kl ms) D σ H) : tFor (tI c E ms) (tPG c E tl f) (tS c E body) D σ H := by
  obtain ⟨P, S, ρ, fl, ρ', w, hm, q⟩ := h
  unfold forM at hm
  cases es : ms ρ with
  | none => rw [es] at hm; cases hm
  | some ds =>
    rw [es, Option.bind_some] at hm
    refine ⟨P, S, fz, ρ, ds, w, es, fun J H1 P1 g1 io => ?_⟩
    obtain ⟨G, Y, wk, hG, hY⟩ := io
    refine for_it wk (fun i σi Hi => ∃ P2 S2 ρi, Wd c E P2 S2 fz σi Hi ρi ∧ Ex P1 P2 ∧ forL f body kl (ds.drop i) ρi = some (fl, ρ')) ?_ ?_ ?_ ?_
    · exact ⟨P1, S, ρ, w.grow g1, .refl _, hm⟩
    · rintro i σi Hi hi ⟨P2, S2, ρi, w2, e2, _⟩
      exact hG P2 Hi e2 w2.ph
    · rintro i x σi Hi H3 hi ⟨P2, S2, ρi, w2, e2, hf⟩ y
      obtain ⟨P3, d, g3, hd, rd⟩ := hY i P2 Hi x H3 e2 w2.ph hi y
      have hdrop : ds.drop i = d :: ds.drop (i + 1) := by
        rw [List.drop_eq_getElem_cons hi]
        congr 1
        rw [List.getElem?_eq_getElem hi] at hd
        exact Option.some.inj hd
      rw [hdrop] at hf
      unfold forL at hf
      cases ef : f d ρi with
      | none => rw [ef] at hf; cases hf
      | some ρ1 =>
        cases eb : body ρ1 with
        | none => rw [ef, Option.bind_some, eb] at hf; cases hf
        | some r =>
          obtain ⟨f1, ρ2⟩ := r
          rw [ef, Option.bind_some, eb, Option.bind_some] at hf
          have w3 : Wd c E P3 S2 (fa fz fz) σi H3 ρi := by rw [fa_fz]; exact w2.grow g3
          refine ⟨P3, S2, fz, fz, ρi, d, ρ1, w3, rd, ef, fun σ4 S4 w4 _ _ => ⟨P3, S4, ρ1, f1, ρ2, w4, eb, ?_⟩⟩
          cases f1 with
          | nx =>
            intro σ' H' P' S' w' x'
            obtain ⟨S5, w5⟩ := w'.forget kl
            exact ⟨P', S5, _, w5, (e2.trans g3.p).trans x', hf⟩
          | ct =>
            intro σ' H' P' S' w' x'
            obtain ⟨S5, w5⟩ := w'.forget kl
            exact ⟨P', S5, _, w5, (e2.trans g3.p).trans x', hf⟩
          | bk =>
            cases hf
            intro σ' H' P' S' w' x'
            obtain ⟨S5, w5⟩ := w'.forget kl
            exact q σ' H' P' S5 w5 (((g1.p.trans e2).trans g3.p).trans x')
          | rt d' =>
            cases hf
            exact q
          | ex n fs es =>
            cases hf
            exact fun vs σ' H' P' S' U w' x' => q vs σ' H' P' S' U w' (((g1.p.trans e2).trans g3.p).trans x')
    · rintro σi Hi ⟨P2, S2, ρi, w2, e2, hf⟩
      rw [List.drop_length] at hf
      cases hf
      exact q σi Hi P2 S2 w2 (g1.p.trans e2)
theorem s_for {iter : Expr} {sb : List Stmt} {tl : List Nat} (kl : List Nat) {f : TgM} {body : SM} {ms : AM} (hp : PassesOwn (model X.prog X.w) X.A X.env X.xe) (hc : X.calm = true) (hi : PI X tg iter (tI ⟨X.K, cl, X.w⟩ E ms)) (hg : PG X tg (tPG ⟨X.K, cl, X.w⟩ E tl f)) (hb : PSs X sb (tS ⟨X.K, cl, X.w⟩ E body))
    (hs : ∀ x, foldedSetIterable iter X.env x = pure x := by intro _; rfl) : PS X (.For tg iter sb [] pos) (tS ⟨X.K, cl, X.w⟩ E (forM f body kl ms)) := PS_imp (ps_for hp hc hi hg hb hs) fun _ _ _ h => for_run h
end
end LI
namespace LI
open PySem L2 PyProof.Rows

structure Stp (P0 : Hp) (S0 : FP) (H0 P : Hp) (T : FP) (H : Hp) : Prop where
  p0 : Ex P0 P
  ph : Ex P H
  fr : ∀ a o, S0 a = 0 → H0 a = some o → H a = some o
  np : ∀ a, P a ≠ none → P0 a ≠ none ∨ 0 < S0 a ∨ H0 a = none
  ns : ∀ a, 0 < T a → 0 < S0 a ∨ H0 a = none
  le : ∀ a, T a ≤ 1
  out : ∀ a, 0 < T a → P a = none
abbrev FM := List D → Option (D × List D)
def spD (c : LC) (F : FM) : Sp := fun vs H Q _ => ∃ P S ds d ds', RepL c P H ds vs S ∧ Ex P H ∧ (∀ a, S a ≤ 1) ∧ (∀ a, 0 < S a → P a = none) ∧ F ds = some (d, ds') ∧
  ∀ v H' P' U S', Stp P S H P' (fa U S') H' → Rep c P' H' d v U → RepL c P' H' ds' vs S' → Q v H'
def maskL : List Bool → List D → List D
  | [], _ => []
  | _ :: bs, [] => .gone :: maskL bs []
  | b :: bs, d :: ds => (if b = true then d else .gone) :: maskL bs ds
def runM (n : Nat) (kp : List Bool) (m : SM) : FM := fun ds => if ds.length = kp.length then (m (ds ++ List.replicate (n - ds.length) .gone)).bind fun r => match r.1 with
  | .rt d => some (d, maskL kp r.2)
  | .nx => some (.non, maskL kp r.2)
  | _ => none
  else none
theorem repE_none {c : LC} {P H : Hp} : ∀ n : Nat, RepE c P H (List.replicate n .gone) (List.replicate n none) fz
  | 0 => rfl
  | n + 1 => ⟨fz, fz, ⟨rfl, rfl⟩, repE_none n, (fa_fz fz).symm⟩
theorem repE_start {c : LC} {P H : Hp} (n : Nat) : ∀ {ds : List D} {vs : List V} {S : FP}, RepL c P H ds vs S → RepE c P H (ds ++ List.replicate n .gone) (vs.map some ++ List.replicate n none) S
  | [], vs, S, r => by rw [r.1, r.2]; exact repE_none n
  | d :: ds, vs, S, ⟨y, ys, T, U, e, r, rs, f⟩ => by rw [e]; exact ⟨T, U, r, repE_start n rs, f⟩
theorem mask_rep {c : LC} {P H : Hp} : ∀ {kp : List Bool} {vs : List V} {ρ : List D} {σ : L2.St} {S : FP}, RepE c P H ρ σ S → kp.length = vs.length → (∀ (i : Nat) (v : V), kp[i]? = some true → vs[i]? = some v → σ[i]? = some (some v)) →
    ∃ S', RepL c P H (maskL kp ρ) vs S' ∧ ∀ a, S' a ≤ S a
  | [], vs, ρ, σ, S, r, h1, h3 => by
    have : vs = [] := List.length_eq_zero_iff.mp h1.symm
    subst this
    exact ⟨fz, ⟨rfl, rfl⟩, fun a => Nat.zero_le _⟩
  | b :: kp, [], ρ, σ, S, r, h1, h3 => by simp at h1
  | b :: kp, v :: vs, [], [], S, r, h1, h3 => by
    obtain ⟨S', k1, k2⟩ := mask_rep (kp := kp) (vs := vs) (ρ := []) (σ := []) r (by simpa using h1) fun i u z1 z2 => by
      have := h3 (i + 1) u (by simpa using z1) (by simpa using z2)
      simpa using this
    exact ⟨fa fz S', ⟨v, vs, fz, S', rfl, rfl, k1, rfl⟩, fun a => by have := k2 a; simp only [fa, fz]; omega⟩
  | b :: kp, v :: vs, [], _ :: _, S, r, h1, h3 => r.elim
  | b :: kp, v :: vs, d :: ρ, [], S, r, h1, h3 => r.elim
  | b :: kp, v :: vs, d :: ρ, ov :: σ, S, ⟨T, U, r, rs, f⟩, h1, h3 => by
    obtain ⟨S', k1, k2⟩ := mask_rep (kp := kp) (vs := vs) rs (by simpa using h1) fun i u z1 z2 => by
      have := h3 (i + 1) u (by simpa using z1) (by simpa using z2)
      simpa using this
    cases b with
    | false => exact ⟨fa fz S', ⟨v, vs, fz, S', rfl, rfl, k1, rfl⟩, fun a => by have := k2 a; rw [f]; simp only [fa, fz]; omega⟩
    | true =>
      have e := h3 0 v rfl rfl
      simp at e
      subst e
      exact ⟨fa T S', ⟨v, vs, T, S', rfl, r, k1, rfl⟩, fun a => by have := k2 a; rw [f]; simp only [fa]; omega⟩
section
variable {P : Program} {w : World} {K : PySem.W.Frag} {mg : Str → Option Value} {base : Heap} {cl : Nat → Addr}
theorem ok_def {x qual : Str} {st : Stmt} {f : Addr} {fd : FuncData} {N ps : List Str} {k : Nat} {kp : List Bool} {m : SM} (F : Fun K x qual st f fd) (S : FnScope N ps (defScope st)) (hk : kp.length = ps.length)
    (hbody : ∀ (cdv : Value) (A : Around) (outer : List Env) (s : Shared) (H : Hp) (E : XK) (e : En), e.kp = kp → Room k (A.deeper (envOfC qual (defScope st) s.heap.objs.size f cdv)) →
      PSs (cxOf CX0 P w K mg base N qual (defScope st) f cdv A outer s H E).nox (defBody st) (tS ⟨K, cl, w⟩ e m)) : FnOk P w K mg base CX0 (k + 1) f fd ps (spD ⟨K, cl, w⟩ (runM N.length kp m)) := by
  refine F.ok S (fun vs H Q E h => ?_) (fun cdv A outer s H vs Q E hr h => ?_)
  · obtain ⟨Pp, Sp, ds, d, ds', r, _, _, _, hm, _⟩ := h
    unfold runM at hm
    split at hm
    · rename_i hl
      rw [← r.length, hl, hk]
    · cases hm
  · obtain ⟨Pp, Sp, ds, d, ds', r, e1, e2, e3, hm, q⟩ := h
    unfold runM at hm
    split at hm
    · rename_i hl
      have hlv : vs.length = kp.length := by rw [← r.length, hl]
      have hvs : ∀ i : Nat, kp[i]? = some true → ∃ v, vs[i]? = some v := fun i hi => by
        have hi' : i < kp.length := (List.getElem?_eq_some_iff.mp hi).1
        exact ⟨_, List.getElem?_eq_getElem (by omega)⟩
      refine ⟨_, hbody cdv A outer s H E ⟨Pp, H, Sp, kp, vs, hvs, fun _ _ _ _ => False⟩ rfl hr, ?_⟩
      cases em : m (ds ++ List.replicate (N.length - ds.length) .gone) with
      | none => rw [em] at hm; cases hm
      | some rr =>
        obtain ⟨fl, ρ'⟩ := rr
        rw [em, Option.bind_some] at hm
        have w0 : Wd ⟨K, cl, w⟩ ⟨Pp, H, Sp, kp, vs, hvs, fun _ _ _ _ => False⟩ Pp Sp fz (L2.start N vs) H (ds ++ List.replicate (N.length - ds.length) .gone) := by
          refine ⟨?_, fun a => by have := e2 a; simp only [fz]; omega, fun a h => e3 a (by simpa [fz] using h), fun a h => by simp [fz] at h, e1, .refl _, fun _ _ _ h => h, fun a h => .inl h, fun a h => .inl (by simpa [fz] using h), fun i v h1 h2 => ?_⟩
          · unfold L2.start
            rw [r.length]
            exact repE_start _ r
          · unfold L2.start
            have h2 : vs[i]? = some v := h2
            rw [List.getElem?_append_left (by rw [List.length_map]; exact (List.getElem?_eq_some_iff.mp h2).1), List.getElem?_map, h2]
            rfl
        have fin : ∀ (v : V) (σ' : L2.St) (H' P' : Hp) (S' U : FP) (d1 : D), Wd ⟨K, cl, w⟩ ⟨Pp, H, Sp, kp, vs, hvs, fun _ _ _ _ => False⟩ P' S' U σ' H' ρ' → Rep ⟨K, cl, w⟩ P' H' d1 v U → some (d1, maskL kp ρ') = some (d, ds') → Q v H' := by
          intro v σ' H' P' S' U d1 w' rd hs
          cases hs
          obtain ⟨S2, k1, k2⟩ := mask_rep (kp := kp) (vs := vs) w'.env hlv.symm w'.kp
          exact q v H' P' U S2 ⟨w'.p0, w'.ph, w'.fr, w'.np, fun a h => w'.ns a (by have := k2 a; simp only [fa] at h; omega), fun a => by have := k2 a; have := w'.le a; simp only [fa]; omega, fun a h => w'.out a (by have := k2 a; simp only [fa] at h; omega)⟩ rd k1
        refine ⟨Pp, Sp, _, fl, ρ', w0, em, ?_⟩
        cases fl with
        | nx => exact fun σ' H' P' S' w' _ => fin .non σ' H' P' S' fz .non w' ⟨rfl, rfl⟩ hm
        | rt d1 => exact fun v σ' H' P' S' U w' r => fin v σ' H' P' S' U d1 w' r hm
        | bk => cases hm
        | ct => cases hm
        | ex n fs es => cases hm
    · cases hm
end
end LI
namespace LI
open PySem L2

def isFlat : D → Bool
  | .non => true | .bl _ => true | .int _ => true | .str _ => true | _ => false
theorem flat_any {c : LC} {P H P' H' : Hp} : ∀ {d : D} {v : V} {U : FP}, isFlat d = true → Rep c P H d v U → Rep c P' H' d v fz
  | .non, v, U, _, r => ⟨r.1, rfl⟩
  | .bl _, v, U, _, r => ⟨r.1, rfl⟩
  | .int _, v, U, _, r => ⟨r.1, rfl⟩
  | .str _, v, U, _, r => ⟨r.1, rfl⟩
def callM (F : FM) (ms : AM) : RM := fun ρ => (ms ρ).bind fun ds => (F (iceL ds)).bind fun r => if frzL ds = true ∨ noIce r.1 = true then some r.1 else none
def coldP (U : FP) (P H : Hp) : Hp := fun a => if 0 < U a then H a else P a
theorem coldP_p {U : FP} {P H : Hp} (e : Ex P H) : Ex P (coldP U P H) := fun a o h => by
  unfold coldP
  split
  · exact e a o h
  · exact h
theorem coldP_h {U : FP} {P H : Hp} (e : Ex P H) : Ex (coldP U P H) H := fun a o h => by
  unfold coldP at h
  split at h
  · exact h
  · exact e a o h
theorem coldP_fz {P H : Hp} : coldP fz P H = P := by funext a; simp [coldP, fz]
theorem spD_view {c : LC} {F : FM} {P H : Hp} {ds : List D} {vs : List V} {U : FP} {d : D} {ds' : List D} {Q : VK} {E : XK} (e : Ex P H) (r : RepL c P H ds vs U) (hf : F (iceL ds) = some (d, ds')) (hz : frzL ds = true ∨ noIce d = true) (q : FQ c P H d Q) : spD c F vs H Q E := by
  refine ⟨coldP U P H, fz, iceL ds, d, ds', RepL.ice (coldP_p e) ds vs U (fun a o h1 h2 => by unfold coldP; rw [if_pos h1]; exact h2) r, coldP_h e, fun _ => Nat.zero_le _, fun a h => by simp [fz] at h, hf, fun v H' P' U2 S' st rd rs => ?_⟩
  have hH : Ex H H' := fun a o h => st.fr a o rfl h
  rcases hz with hz | hz
  · have := RepL.frz0 ds vs U hz r
    subst this
    rw [coldP_fz] at st
    refine q v H' P' U2 ⟨st.p0, hH, st.ph, fun a h => by rcases st.np a h with z | z | z <;> first | exact .inl z | (simp [fz] at z; done) | exact .inr z⟩ rd (fun a => by have := st.le a; simp only [fa] at this; omega) fun a h => ?_
    refine ⟨?_, st.out a (by simp only [fa]; omega)⟩
    rcases st.ns a (by simp only [fa]; omega) with z | z
    · simp [fz] at z
    · exact z
  · have hU : ∀ a, 0 < U a → ∃ o, H a = some o ∧ notTup o = true := RepL.nt ds vs U r
    have hP : ∀ a o, P a = some o → (if 0 < U a then P a else P' a) = some o := fun a o h => by
      split
      · exact h
      · rename_i z
        exact st.p0 a o (by unfold coldP; rw [if_neg z]; exact h)
    refine q v H' (fun a => if 0 < U a then P a else P' a) U2 ⟨hP, hH, fun a o h => ?_, fun a h => ?_⟩ (Rep.thaw (fun b o h1 h2 => ?_) d v U2 hz rd) (fun a => by have := st.le a; simp only [fa] at this; omega) fun a h => ?_
    · skip
      split at h
      · exact hH a o (e a o h)
      · exact st.ph a o h
    · skip
      split at h
      · exact .inl h
      · rename_i z
        rcases st.np a h with y | y | y
        · unfold coldP at y; rw [if_neg z] at y; exact .inl y
        · simp [fz] at y
        · exact .inr y
    · skip
      rw [if_neg]
      · exact h1
      · intro z
        obtain ⟨o2, k1, k2⟩ := hU b z
        have := hH b o2 k1
        rw [st.ph b o h1] at this
        cases this
        rw [h2] at k2; cases k2
    · have hn : H a = none := by
        rcases st.ns a (by simp only [fa]; omega) with z | z
        · simp [fz] at z
        · exact z
      refine ⟨hn, ?_⟩
      skip
      rw [if_neg]
      · exact st.out a (by simp only [fa]; omega)
      · intro z
        obtain ⟨o2, k1, _⟩ := hU a z
        rw [hn] at k1; cases k1
section
variable {X : Cx} {cl : Nat → Addr} {E : En} {e a b o : Expr} {es : List Expr} {pos p apos : Pos} {m : RM} {ms : AM} {CX : CXT} {k : Nat} {f C : Addr} {fd : FuncData} {ps : List Str} {F : FM} {XE : XK} {x nm : Str}
theorem call_split {ρ : List D} {d : D} (h : callM F ms ρ = some d) : ∃ ds ds', ms ρ = some ds ∧ F (iceL ds) = some (d, ds') ∧ (frzL ds = true ∨ noIce d = true) := by
  unfold callM at h
  cases e1 : ms ρ with
  | none => rw [e1] at h; cases h
  | some ds =>
    rw [e1, Option.bind_some] at h
    cases e2 : F (iceL ds) with
    | none => rw [e2] at h; cases h
    | some r =>
      rw [e2, Option.bind_some] at h
      split at h
      · rename_i hz
        cases h
        exact ⟨ds, r.2, rfl, e2, hz⟩
      · cases h
theorem f_call (G : FnOk X.prog X.w X.K X.mg X.base CX k f fd ps (spD ⟨X.K, cl, X.w⟩ F)) (hr : Room k X.A) (hg : Gl X x) (hm : X.mg x = some (.ref f)) (hk : PySem.W.keepIn X.K (.ref f) = true) (hb : Binds X.K fd ps []) (hx : Passes CX X XE)
    (ha : PA X (e :: es) (tAR ⟨X.K, cl, X.w⟩ E ms)) (hdb : (x == ("__debug__" : Str)) = false := by decide) (he : starEach (e :: es) X.env = (false, eval e X.env) :: starEach es X.env := by rfl) (hpl : (backTo pos (starEach es X.env)).any (·.1) = false := by rfl) :
    PE X (.Call (.Name x p) (e :: es) [] pos) (tF ⟨X.K, cl, X.w⟩ E (callM F ms)) := PE_imp (pe_call G hr hg hm hk hb .nil hx ha hdb he hpl) fun σ H Q ⟨P, S, T, ρ, d, w, h, q⟩ => by
  obtain ⟨ds, ds', e1, e2, hz⟩ := call_split h
  refine ⟨P, S, T, ρ, ds, w, e1, fun vs H1 P1 U1 g1 r1 => ?_⟩
  show spD ⟨X.K, cl, X.w⟩ F (vs ++ []) H1 Q XE
  rw [List.append_nil]
  exact spD_view g1.ph r1 e2 hz (q.grow g1)
def mkM (n : Nat) (F : FM) (ms : AM) : RM := fun ρ => (ms ρ).bind fun ds => if frzL ds = true then (F (.obj true n [] [] :: ds)).bind fun r => match r with | (.non, self :: _) => some self | _ => none else none
theorem mk_run {c : LC} {n : Nat} {P H : Hp} {ds : List D} {vs : List V} {self : D} {ds' : List D} {Q : VK} {XE : XK} (e : Ex P H) (r : RepL c P H ds vs fz) (hf : F (.obj true n [] [] :: ds) = some (.non, self :: ds')) (q : FQ c P H self Q) :
    ∀ x dx, H x = none → H dx = none → dx ≠ x → spD c F (.ref x :: (vs ++ [])) (upd (upd H dx (.own x)) x (.ins (c.cl n) dx [])) (fun v H2 => v = .non ∧ Q (.ref x) H2) XE := by
  intro x dx hx hdx hne
  have ex : Ex H (upd (upd H dx (.own x)) x (.ins (c.cl n) dx [])) := fun a o z => by
    rw [upd_ne (ne_of_none z hx), upd_ne (ne_of_none z hdx)]; exact z
  have back : ∀ a, upd (upd H dx (.own x)) x (.ins (c.cl n) dx []) a = none → H a = none := fun a z => by
    cases q : H a with
    | none => rfl
    | some o => rw [ex a o q] at z; cases z
  rw [List.append_nil]
  refine ⟨P, fa (one x) fz, .obj true n [] [] :: ds, _, _, ⟨.ref x, vs, one x, fz, rfl, ⟨x, dx, [], fz, rfl, upd_same, rfl, ⟨rfl, rfl⟩, (fa_fz _).symm⟩, repL_h r, rfl⟩, e.trans ex, fun a => by rw [fa_fz]; exact one_le a, fun a z => ?_, hf, fun v H' P' U S' st rd rs => ?_⟩
  · rw [fa_fz] at z; rw [one_pos z]; exact none_of e hx
  · rw [fa_fz] at st
    obtain ⟨y, ys, T1, T2, e1, r1, _, e2⟩ := rs
    cases e1
    have hH : Ex H H' := fun a o z => st.fr a o (by unfold one; rw [if_neg (ne_of_none z hx)]) (ex a o z)
    have old : ∀ a, (0 < one x a ∨ upd (upd H dx (.own x)) x (.ins (c.cl n) dx []) a = none) → H a = none := fun a z => by
      rcases z with z | z
      · rw [one_pos z]; exact hx
      · exact back a z
    refine ⟨rd.1, q (.ref x) H' P' T1 ⟨st.p0, hH, st.ph, fun a z => ?_⟩ r1 (fun a => ?_) fun a z => ⟨old a (st.ns a ?_), st.out a ?_⟩⟩
    · rcases st.np a z with z | z | z
      · exact .inl z
      · exact .inr (old a (.inl z))
      · exact .inr (old a (.inr z))
    · have := st.le a; rw [e2] at this; simp only [fa] at this; omega
    · rw [e2]; simp only [fa]; omega
    · rw [e2]; simp only [fa]; omega
theorem mk_split {n : Nat} {ρ : List D} {d : D} (h : mkM n F ms ρ = some d) : ∃ ds ds', ms ρ = some ds ∧ frzL ds = true ∧ F (.obj true n [] [] :: ds) = some (.non, d :: ds') := by
  unfold mkM at h
  cases e1 : ms ρ with
  | none => rw [e1] at h; cases h
  | some ds =>
    rw [e1, Option.bind_some] at h
    split at h
    · rename_i hz
      cases e2 : F (.obj true n [] [] :: ds) with
      | none => rw [e2] at h; cases h
      | some r =>
        rw [e2, Option.bind_some] at h
        split at h
        · cases h; exact ⟨ds, _, rfl, hz, e2⟩
        · cases h
    · cases h
theorem f_mk (n : Nat) (M : Mk X.K (cl n) f) (G : FnOk X.prog X.w X.K X.mg X.base CX k f fd ps (spD ⟨X.K, cl, X.w⟩ F)) (hr : Room (k + 1) X.A) (hg : Gl X x) (hm : X.mg x = some (.ref (cl n))) (hb : Binds X.K fd ps []) (hx : Passes CX X XE)
    (ha : PA X (e :: es) (tAR ⟨X.K, cl, X.w⟩ E ms)) (hdb : (x == ("__debug__" : Str)) = false := by decide) (he : starEach (e :: es) X.env = (false, eval e X.env) :: starEach es X.env := by rfl) (hpl : (backTo pos (starEach es X.env)).any (·.1) = false := by rfl) :
    PE X (.Call (.Name x p) (e :: es) [] pos) (tF ⟨X.K, cl, X.w⟩ E (mkM n F ms)) := PE_imp (pe_make M G hr hg hm hb .nil hx ha hdb he hpl) fun σ H Q ⟨P, S, T, ρ, d, w, h, q⟩ => by
  obtain ⟨ds, ds', e1, hz, e2⟩ := mk_split h
  refine ⟨P, S, T, ρ, ds, w, e1, fun vs H1 P1 U1 g1 r1 => ?_⟩
  have := RepL.frz0 ds vs U1 hz r1
  subst this
  exact mk_run g1.ph r1 e2 (q.grow g1)
end

structure Lens where
  get : List D → Option D
  put : List D → D → List D
structure Loc (c : LC) (L : Lens) (P H : Hp) (σ : L2.St) (ρ : List D) (S : FP) (v : V) (d : D) (Sd R : FP) : Prop where
  sum : ∀ a, S a = Sd a + R a
  rep : Rep c P H d v Sd
  put : ∀ (P2 H2 : Hp) (d2 : D) (S2 : FP), Ex P P2 → (∀ a o, 0 < R a → H a = some o → H2 a = some o) → Rep c P2 H2 d2 v S2 → RepE c P2 H2 (L.put ρ d2) σ (fa S2 R)
theorem Loc.grow {c : LC} {L : Lens} {P H P' H' : Hp} {σ : L2.St} {ρ : List D} {S : FP} {v : V} {d : D} {Sd R : FP} (l : Loc c L P H σ ρ S v d Sd R) (g : Gr P H P' H') : Loc c L P' H' σ ρ S v d Sd R :=
  ⟨l.sum, l.rep.gr g, fun P2 H2 d2 S2 e k r => l.put P2 H2 d2 S2 (g.p.trans e) (fun a o h1 h2 => k a o h1 (g.h a o h2)) r⟩
def tPl (c : LC) (E : En) (L : Lens) : TE := fun σ H Q => ∃ P S T ρ d, Wd c E P S T σ H ρ ∧ L.get ρ = some d ∧ ∀ v Sd R, Loc c L P H σ ρ S v d Sd R → Q v H
theorem RepE.focus {c : LC} {P H : Hp} : ∀ {ρ : List D} {σ : L2.St} {S : FP} {i : Nat} {d : D}, RepE c P H ρ σ S → ρ[i]? = some d → notGone d = true → ∃ v Sd R, σ[i]? = some (some v) ∧ Rep c P H d v Sd ∧ (∀ a, S a = Sd a + R a) ∧
    ∀ (P2 H2 : Hp) (d2 : D) (S2 : FP), Ex P P2 → (∀ a o, 0 < R a → H a = some o → H2 a = some o) → Rep c P2 H2 d2 v S2 → RepE c P2 H2 (ρ.set i d2) σ (fa S2 R)
  | [], [], _, i, d, _, e, _ => by simp at e
  | d0 :: ρ, v0 :: σ, S, 0, d, ⟨T, U, r, rs, f⟩, e, n => by
    simp at e; subst e
    cases v0 with
    | none => rw [r.1] at n; cases n
    | some v =>
      exact ⟨v, T, U, rfl, r, fun a => by rw [f]; rfl, fun P2 H2 d2 S2 e1 k r2 => ⟨S2, U, r2, rs.mono e1 ρ σ U k, rfl⟩⟩
  | d0 :: ρ, v0 :: σ, S, i + 1, d, ⟨T, U, r, rs, f⟩, e, n => by
    obtain ⟨v, Sd, R, h1, h2, h3, h4⟩ := RepE.focus (i := i) (d := d) rs (by simpa using e) n
    refine ⟨v, Sd, fa T R, by simpa using h1, h2, fun a => by have := h3 a; rw [f]; simp only [fa]; omega, fun P2 H2 d2 S2 e1 k r2 => ?_⟩
    refine ⟨T, fa S2 R, RepO.mono e1 (fun a o z1 z2 => k a o (by simp only [fa]; omega) z2) r, h4 P2 H2 d2 S2 e1 (fun a o z1 z2 => k a o (by simp only [fa]; omega) z2) r2, by funext a; simp only [fa]; omega⟩
  | [], _ :: _, _, _, _, h, _, _ => h.elim
  | _ :: _, [], _, _, _, h, _, _ => h.elim
theorem RepL.focus {c : LC} {P H : Hp} : ∀ {ds : List D} {xs : List V} {S : FP} {i : Nat} {d : D}, RepL c P H ds xs S → ds[i]? = some d → ∃ v Sd R, xs[i]? = some v ∧ Rep c P H d v Sd ∧ (∀ a, S a = Sd a + R a) ∧
    ∀ (P2 H2 : Hp) (d2 : D) (y : V) (S2 : FP), Ex P P2 → (∀ a o, 0 < R a → H a = some o → H2 a = some o) → Rep c P2 H2 d2 y S2 → RepL c P2 H2 (ds.set i d2) (xs.set i y) (fa S2 R)
  | [], xs, S, i, d, h, e => by simp at e
  | d0 :: ds, xs, S, 0, d, ⟨y, ys, T, U, e1, r, rs, f⟩, e => by
    simp at e; subst e
    subst e1
    exact ⟨y, T, U, rfl, r, fun a => by rw [f]; rfl, fun P2 H2 d2 z S2 e1 k r2 => ⟨z, ys, S2, U, rfl, r2, RepL.mono e1 ds ys U k rs, rfl⟩⟩
  | d0 :: ds, xs, S, i + 1, d, ⟨y, ys, T, U, e1, r, rs, f⟩, e => by
    subst e1
    obtain ⟨v, Sd, R, h1, h2, h3, h4⟩ := RepL.focus (i := i) (d := d) rs (by simpa using e)
    refine ⟨v, Sd, fa T R, by simpa using h1, h2, fun a => by have := h3 a; rw [f]; simp only [fa]; omega, fun P2 H2 d2 z S2 e1 k r2 => ?_⟩
    refine ⟨y, ys.set i z, T, fa S2 R, rfl, Rep.mono e1 d0 y T (fun a o z1 z2 => k a o (by simp only [fa]; omega) z2) r, h4 P2 H2 d2 z S2 e1 (fun a o z1 z2 => k a o (by simp only [fa]; omega) z2) r2, by funext a; simp only [fa]; omega⟩
def vL (i : Nat) : Lens := ⟨fun ρ => (ρ[i]?).bind fun d => if notGone d = true then some d else none, fun ρ d => ρ.set i d⟩
theorem vL_get {i : Nat} {ρ : List D} {d : D} (h : (vL i).get ρ = some d) : ρ[i]? = some d ∧ notGone d = true := by
  unfold vL at h
  cases e : ρ[i]? with
  | none => simp [e] at h
  | some d1 =>
    simp only [e, Option.bind_some] at h
    split at h
    · rename_i hn; cases h; exact ⟨rfl, hn⟩
    · cases h
def fIx (f : Str) : List Str → Option Nat
  | [] => none
  | g :: gs => if f = g then some 0 else (fIx f gs).map (· + 1)
def fldL (n : Nat) (f : Str) (L : Lens) : Lens := ⟨fun ρ => (L.get ρ).bind fun d => match d with
    | .obj _ k fs ds => if k = n then (fIx f fs).bind fun j => (ds[j]?).bind fun d => if notGone d = true then some d else none else none
    | _ => none,
  fun ρ d2 => match L.get ρ with
    | some (.obj o k fs ds) => match fIx f fs with
      | some j => L.put ρ (.obj o k fs (ds.set j d2))
      | none => ρ
    | _ => ρ⟩
theorem fIx_lookup {f : Str} : ∀ {fs : List Str} {xs : List V} {j : Nat}, fIx f fs = some j → fs.length = xs.length → (fs.zip xs).lookup f = xs[j]?
  | [], xs, j, h, n => by cases h
  | g :: gs, [], j, h, n => by simp at n
  | g :: gs, x :: xs, j, h, n => by
    unfold fIx at h
    by_cases e : f = g
    · rw [if_pos e] at h; cases h
      have : (f == g) = true := by rw [e]; exact beq_self_eq_true _
      simp [List.lookup, this]
    · rw [if_neg e] at h
      cases z : fIx f gs with
      | none => rw [z] at h; cases h
      | some j' =>
        rw [z] at h; cases h
        have : (f == g) = false := beq_eq_false_iff_ne.mpr e
        simp [List.lookup, this, fIx_lookup z (by simpa using n)]
theorem obj_heap {c : LC} {P H : Hp} (e : Ex P H) {o : Bool} {k : Nat} {fs : List Str} {ds : List D} {v : V} {U : FP} (r : Rep c P H (.obj o k fs ds) v U) : ∃ a dx xs T Z, v = .ref a ∧ H a = some (.ins (c.cl k) dx (fs.zip xs)) ∧ fs.length = xs.length ∧ RepL c P H ds xs T ∧ (∀ b, U b = Z b + T b) ∧
    ∀ (P2 H2 : Hp) (ds2 : List D) (T2 : FP), Ex P P2 → (∀ b u, 0 < Z b → H b = some u → H2 b = some u) → RepL c P2 H2 ds2 xs T2 → Rep c P2 H2 (.obj o k fs ds2) v (fa Z T2) := by
  cases o with
  | true =>
    obtain ⟨a, dx, xs, T, e1, h, n, rl, f⟩ := r
    exact ⟨a, dx, xs, T, one a, e1, h, n, rl, fun b => by rw [f]; rfl, fun P2 H2 ds2 T2 _ hk r2 => ⟨a, dx, xs, T2, e1, hk a _ (by simp [one]) h, n, r2, rfl⟩⟩
  | false =>
    obtain ⟨a, dx, xs, e1, h, n, rl⟩ := r
    exact ⟨a, dx, xs, U, fz, e1, e _ _ h, n, rl, fun b => by simp [fz], fun P2 H2 ds2 T2 hp _ r2 => ⟨a, dx, xs, e1, hp _ _ h, n, by rw [fz_fa]; exact r2⟩⟩
section
variable {X : Cx} {cl : Nat → Addr} {E : En} {e a b o : Expr} {es : List Expr} {pos p apos : Pos} {m : RM} {L : Lens}
theorem p_v (i : Nat) {x : Str} (hN : X.N[i]? = some x := by rfl) (hv : Vis X.env.scope x := by first | exact Or.inl rfl | exact Or.inr (Or.inl rfl) | exact Or.inr (Or.inr rfl)) (hd : (x == ("__debug__" : Str)) = false := by decide)
    (hcd : (x == ("__classdict__" : Str)) = false := by decide) : PE X (.Name x pos) (tPl ⟨X.K, cl, X.w⟩ E (vL i)) := PE_imp (pe_var hN hv hd hcd) fun σ H Q ⟨P, S, T, ρ, d, w, hg, q⟩ => by
  obtain ⟨h1, h2⟩ := vL_get hg
  obtain ⟨v, Sd, R, k1, k2, k3, k4⟩ := w.env.focus h1 h2
  exact ⟨v, k1, q v Sd R ⟨k3, k2, k4⟩⟩
theorem fld_split {n : Nat} {f : Str} {ρ : List D} {d : D} (h : (fldL n f L).get ρ = some d) : ∃ o fs ds j, L.get ρ = some (.obj o n fs ds) ∧ fIx f fs = some j ∧ ds[j]? = some d ∧ notGone d = true ∧ ∀ d2, (fldL n f L).put ρ d2 = L.put ρ (.obj o n fs (ds.set j d2)) := by
  unfold fldL at h
  cases e1 : L.get ρ with
  | none => simp [e1] at h
  | some d0 =>
    cases d0 with
    | obj o k fs ds =>
      simp only [e1, Option.bind_some] at h
      split at h
      · rename_i hk
        subst hk
        cases e2 : fIx f fs with
        | none => rw [e2] at h; cases h
        | some j =>
          rw [e2, Option.bind_some] at h
          cases e3 : ds[j]? with
          | none => rw [e3] at h; cases h
          | some d1 =>
            rw [e3, Option.bind_some] at h
            split at h
            · rename_i hn
              cases h
              exact ⟨o, fs, ds, j, rfl, e2, e3, hn, fun d2 => by simp [fldL, e1, e2]⟩
            · cases h
      · cases h
    | _ => simp [e1] at h
theorem p_fld (n : Nat) {f : Str} (hc : Cls X.K (cl n)) (hn : NoAttr X.K (cl n) f) (he : PE X e (tPl ⟨X.K, cl, X.w⟩ E L)) (hb : attributeBase e f X.env (eval e X.env) = eval e X.env := by rfl) : PE X (.Attribute e f pos) (tPl ⟨X.K, cl, X.w⟩ E (fldL n f L)) := PE_imp (pe_fld he hb) fun σ H Q ⟨P, S, T, ρ, d, w, hg, q⟩ => by
  obtain ⟨o, fs, ds, j, h1, h2, h3, h4, h5⟩ := fld_split hg
  refine ⟨P, S, T, ρ, _, w, h1, fun v Sd R l => ?_⟩
  obtain ⟨a, dx, xs, T1, Z, e1, hh, nl, rl, hz, hput⟩ := obj_heap w.ph l.rep
  obtain ⟨y, S1, R1, k1, k2, k3, k4⟩ := rl.focus h3
  refine ⟨a, cl n, dx, _, y, e1, hh, hc, hn, by rw [fIx_lookup h2 nl]; exact k1, q y S1 (fa (fa Z R1) R) ⟨fun b => ?_, k2, fun P2 H2 d2 S2 ep kr r2 => ?_⟩⟩
  · have := l.sum b; have := hz b; have := k3 b; simp only [fa]; omega
  · rw [h5]
    have rl2 := k4 P2 H2 d2 y S2 ep (fun b u z1 z2 => kr b u (by simp only [fa]; omega) z2) r2
    have e2 : xs.set j y = xs := by
      apply List.ext_getElem?
      intro t
      by_cases ht : t = j
      · subst ht; rw [k1, List.getElem?_set_self (List.getElem?_eq_some_iff.mp k1).1]
      · rw [List.getElem?_set_ne (Ne.symm ht)]
    rw [e2] at rl2
    have := l.put P2 H2 _ _ ep (fun b u z1 z2 => kr b u (by simp only [fa]; omega) z2) (hput P2 H2 _ _ ep (fun b u z1 z2 => kr b u (by simp only [fa]; omega) z2) rl2)
    have e3 : fa (fa Z (fa S2 R1)) R = fa S2 (fa (fa Z R1) R) := by funext b; simp only [fa]; omega
    rw [e3] at this
    exact this
theorem r_pl (h : PE X e (tPl ⟨X.K, cl, X.w⟩ E L)) : PE X e (tR ⟨X.K, cl, X.w⟩ E L.get) := PE_imp h fun σ H Q ⟨P, S, T, ρ, d, w, hm, q⟩ => ⟨P, S, T, ρ, d, w, hm, fun v Sd R l => q v H P Sd (.refl w.ph) l.rep⟩
end
end LI
namespace LI
open PySem L2

section
variable {c : LC} {E : En} {P P' : Hp} {S T : FP} {σ : L2.St} {H H' : Hp} {ρ ρ' : List D}
theorem Wd.upd {S2 T2 : FP} {a : Addr} {o : HO} (w : Wd c E P S T σ H ρ) (ha : 0 < S a) (henv : RepE c P (upd H a o) ρ' σ S2) (h : ∀ b, S2 b + T2 b ≤ S b + T b) (ht : ∀ b, T2 b ≤ T b) : Wd c E P S2 T2 σ (L2.upd H a o) ρ' := by
  have hP : P a = none := w.out a (by omega)
  refine ⟨henv, fun b => Nat.le_trans (h b) (w.le b), fun b z => w.out b (Nat.lt_of_lt_of_le z (h b)), fun b z => ?_, fun b u z => ?_, w.p0, fun b u z1 z2 => ?_, w.np, fun b z => w.ns b (Nat.lt_of_lt_of_le z (h b)), w.kp⟩
  · by_cases e : b = a
    · subst e; rw [upd_same]; simp
    · rw [upd_ne e]; exact w.th b (Nat.lt_of_lt_of_le z (ht b))
  · have e : b ≠ a := fun q => by subst q; rw [hP] at z; cases z
    rw [upd_ne e]; exact w.ph b u z
  · have e : b ≠ a := fun q => by
      subst q
      rcases w.ns b (by omega) with y | y
      · omega
      · rw [y] at z2; cases z2
    rw [upd_ne e]; exact w.fr b u z1 z2
end

section
variable {X : Cx} {cl : Nat → Addr} {E : En} {e a b o : Expr} {es : List Expr} {pos p apos : Pos} {m : RM} {ms : AM} {CX : CXT} {k n : Nat} {f C : Addr} {fd : FuncData} {ps : List Str} {F : FM} {XE : XK} {x nm : Str} {L : Lens}
def isObjK (n : Nat) (nm : Str) : D → Bool
  | .obj _ k fs _ => decide (k = n) && !fs.contains nm
  | _ => false
theorem lookup_zip_none {nm : Str} : ∀ {fs : List Str} {xs : List V}, fs.contains nm = false → (fs.zip xs).lookup nm = none
  | [], _, _ => rfl
  | _ :: _, [], _ => rfl
  | g :: gs, y :: ys, h => by
    simp only [List.contains_cons, Bool.or_eq_false_iff] at h
    rw [List.zip_cons_cons]
    show (match nm == g with | true => some y | false => List.lookup nm (gs.zip ys)) = none
    rw [h.1]
    exact lookup_zip_none h.2
theorem isObj_v {c : LC} {P H : Hp} (e : Ex P H) {d : D} {v : V} {U : FP} (h : isObjK n nm d = true) (r : Rep c P H d v U) : ∃ a dx fs, v = .ref a ∧ H a = some (.ins (c.cl n) dx fs) ∧ fs.lookup nm = none := by
  cases d with
  | obj o k fs ds =>
    simp only [isObjK, Bool.and_eq_true, decide_eq_true_eq, Bool.not_eq_true'] at h
    obtain ⟨rfl, hn⟩ := h
    obtain ⟨a, dx, xs, T, Z, e1, hh, nl, _⟩ := obj_heap e r
    exact ⟨a, dx, _, e1, hh, lookup_zip_none hn⟩
  | _ => cases h
def lookM (n : Nat) (nm : Str) (mo : RM) (F : FM) (ms : AM) : RM := fun ρ => (mo ρ).bind fun self => (ms ρ).bind fun ds => if isObjK n nm self = true then (F (iceL (self :: ds))).bind fun r => if frzL (self :: ds) = true ∨ noIce r.1 = true then some r.1 else none else none
theorem look_run {mo : RM} (h : tF ⟨X.K, cl, X.w⟩ E (lookM n nm mo F ms) σ H Q) : tMeth (cl n) nm (spD ⟨X.K, cl, X.w⟩ F) [] XE (tR ⟨X.K, cl, X.w⟩ E mo) (tAR ⟨X.K, cl, X.w⟩ E ms) σ H Q := by
  obtain ⟨P, S, T, ρ, d, w, hm, q⟩ := h
  unfold lookM at hm
  cases e1 : mo ρ with
  | none => rw [e1] at hm; cases hm
  | some self =>
    cases e2 : ms ρ with
    | none => rw [e1, e2] at hm; cases hm
    | some ds =>
      rw [e1, e2, Option.bind_some, Option.bind_some] at hm
      split at hm
      · rename_i hc
        cases e3 : F (iceL (self :: ds)) with
        | none => rw [e3] at hm; cases hm
        | some r =>
          rw [e3, Option.bind_some] at hm
          split at hm
          · rename_i hz
            cases hm
            refine ⟨P, S, T, ρ, self, w, e1, fun v H1 P1 U1 g1 r1 => ?_⟩
            obtain ⟨a, dx, fs, ev, hh, hl⟩ := isObj_v g1.ph hc r1
            refine ⟨a, dx, fs, ev, hh, hl, P1, S, T, ρ, ds, w.grow g1, e2, fun vs H2 P2 U2 g2 r2 => ?_⟩
            show spD ⟨X.K, cl, X.w⟩ F (v :: (vs ++ [])) H2 Q XE
            rw [List.append_nil]
            exact spD_view (ds' := r.2) g2.ph (show RepL ⟨X.K, cl, X.w⟩ P2 H2 (self :: ds) (v :: vs) (fa U1 U2) from ⟨v, vs, U1, U2, rfl, r1.gr g2, r2, rfl⟩) e3 hz (q.grow (g1.trans g2))
          · cases hm
      · cases hm
theorem f_look {pl : Sem Bool} {mo : RM} (n : Nat) (he : PE X o (tR ⟨X.K, cl, X.w⟩ E mo)) (c : Cls X.K (cl n)) (hm : Meth X.K (cl n) nm f) (G : FnOk X.prog X.w X.K X.mg X.base CX k f fd ps (spD ⟨X.K, cl, X.w⟩ F)) (hr : Room k X.A) (hb : Binds X.K fd ps []) (hx : Passes CX X XE) (ha : PA X (e :: es) (tAR ⟨X.K, cl, X.w⟩ E ms))
    (hst : starEach (e :: es) X.env = (false, eval e X.env) :: starEach es X.env := by rfl) (hpl : (backTo pos (starEach es X.env)).any (·.1) = false := by rfl)
    (ht : eval (.Call (.Attribute o nm apos) (e :: es) [] pos) X.env = (do
      let ov ← eval o X.env
      standAt apos.atName
      let (f, first) ← holding [ov] (getMethod ov nm pl)
      callWith pos f first (backTo pos (starEach (e :: es) X.env)) (backToKw pos (keywordEach [] X.env))) := by rfl) :
    PE X (.Call (.Attribute o nm apos) (e :: es) [] pos) (tF ⟨X.K, cl, X.w⟩ E (lookM n nm mo F ms)) := PE_imp (pe_meth he c hm G hr hb .nil hx ha hst hpl ht) fun _ _ _ h => look_run h
theorem f_look0 {pl : Sem Bool} {mo : RM} (n : Nat) (he : PE X o (tR ⟨X.K, cl, X.w⟩ E mo)) (c : Cls X.K (cl n)) (hm : Meth X.K (cl n) nm f) (G : FnOk X.prog X.w X.K X.mg X.base CX k f fd ps (spD ⟨X.K, cl, X.w⟩ F)) (hr : Room k X.A) (hb : Binds X.K fd ps []) (hx : Passes CX X XE)
    (ht : eval (.Call (.Attribute o nm apos) [] [] pos) X.env = (do
      let ov ← eval o X.env
      standAt apos.atName
      let (f, first) ← holding [ov] (getMethod ov nm pl)
      callWith pos f first (backTo pos (starEach [] X.env)) (backToKw pos (keywordEach [] X.env))) := by rfl) :
    PE X (.Call (.Attribute o nm apos) [] [] pos) (tF ⟨X.K, cl, X.w⟩ E (lookM n nm mo F nilM)) := PE_imp (pe_meth0 he c hm G hr hb .nil hx ht) fun σ H Q h => by
  obtain ⟨P, S, T, ρ, d, w, hg, q⟩ := look_run (XE := XE) h
  refine ⟨P, S, T, ρ, d, w, hg, fun v H1 P1 U1 g1 r1 => ?_⟩
  obtain ⟨a, dx, fs, ev, hh, hl, P2, S2, T2, ρ2, ds, w2, hn, q2⟩ := q v H1 P1 U1 g1 r1
  cases hn
  exact ⟨a, dx, fs, ev, hh, hl, q2 [] H1 P2 fz (.refl w2.ph) ⟨rfl, rfl⟩⟩

theorem loc_lst {c : LC} {P H : Hp} {S T U : FP} {ρ : List D} {v : V} {ds : List D} {Sd R : FP} (w : Wd c E P S (fa T U) σ H ρ) (l : Loc c L P H σ ρ S v (.lst true ds) Sd R) : ∃ a xs T1, v = .ref a ∧ H a = some (.lst xs) ∧ RepL c P H ds xs T1 ∧ (∀ b, Sd b = one a b + T1 b) ∧
    ∀ (ys : List V) (es : List D) (T2 U2 : FP), RepL c P (upd H a (.lst ys)) es ys T2 → (∀ b, T2 b + U2 b ≤ T1 b + U b) → Wd c E P (fa (fa (one a) T2) R) (fa T U2) σ (upd H a (.lst ys)) (L.put ρ (.lst true es)) := by
  obtain ⟨a, xs, T1, e1, hh, rl, f⟩ := l.rep
  have hSd : ∀ b, Sd b = one a b + T1 b := fun b => by rw [f]; rfl
  refine ⟨a, xs, T1, e1, hh, rl, hSd, fun ys es T2 U2 r2 hb => ?_⟩
  have ha : 0 < S a := by have := l.sum a; have := hSd a; simp [one] at *; omega
  have henv := l.put P (upd H a (.lst ys)) (.lst true es) (fa (one a) T2) (.refl _) (fun b u hb hu => by
    have hne : b ≠ a := fun z => by
      subst z
      have := w.le b; have := l.sum b; have := hSd b
      simp [one] at *; omega
    rw [upd_ne hne]; exact hu) ⟨a, ys, T2, e1, upd_same, r2, rfl⟩
  have wT : Wd c E P S (fa T U) σ H ρ := w
  -- the part aside may give to the slots
  have hP : P a = none := w.out a (by omega)
  refine ⟨henv, fun b => ?_, fun b z => ?_, fun b z => ?_, fun b u z => ?_, w.p0, fun b u z1 z2 => ?_, w.np, fun b z => ?_, w.kp⟩
  · have := w.le b; have := l.sum b; have := hSd b; have := hb b; simp only [fa] at *; omega
  · refine w.out b ?_; have := l.sum b; have := hSd b; have := hb b; simp only [fa] at *; omega
  · by_cases e : b = a
    · subst e; rw [upd_same]; simp
    · rw [upd_ne e]
      by_cases hT : 0 < fa T U b
      · exact w.th b hT
      · refine RepE.there ρ σ S w.env b ?_
        have := l.sum b; have := hSd b; have := hb b; simp only [fa] at *; omega
  · have e : b ≠ a := fun q => by subst q; rw [hP] at z; cases z
    rw [upd_ne e]; exact w.ph b u z
  · have e : b ≠ a := fun q => by
      subst q
      rcases w.ns b (by omega) with y | y
      · omega
      · rw [y] at z2; cases z2
    rw [upd_ne e]; exact w.fr b u z1 z2
  · refine w.ns b ?_; have := l.sum b; have := hSd b; have := hb b; simp only [fa] at *; omega
def appL (L : Lens) (m : RM) : GM := fun ρ => (L.get ρ).bind fun d => (m ρ).bind fun y => match d with | .lst true ds => if ds.length < LIM then some (.non, L.put ρ (.lst true (ds ++ [y]))) else none | _ => none
theorem repL_h' {c : LC} {P H H' : Hp} {ds : List D} {xs : List V} {S : FP} (r : RepL c P H ds xs S) (k : ∀ a o, 0 < S a → H a = some o → H' a = some o) : RepL c P H' ds xs S := RepL.mono (.refl _) ds xs S k r
theorem g_app (he : PE X o (tPl ⟨X.K, cl, X.w⟩ E L)) (ha : PE X e (tF ⟨X.K, cl, X.w⟩ E m))
    (hbase : attributeBase o "append" X.env (eval o X.env) = eval o X.env := by rfl)
    (hfew : ((backTo pos (starEach [e] X.env)).all (fun x => !x.1) && (backToKw pos (keywordEach [] X.env)).all (fun x => x.1.isSome)
      && decide ([e].length + ([] : List Keyword).length + (if ([] : List Keyword).isEmpty then 0 else 1) < 30)) = true := by rfl)
    (hline : (apos.endLine == pos.line) = true := by rfl) (hs : starEach [e] X.env = (false, eval e X.env) :: starEach [] X.env := by rfl) : PE X (.Call (.Attribute o "append" apos) [e] [] pos) (tG ⟨X.K, cl, X.w⟩ E (appL L m)) := by
  refine PE_imp (pe_bm PySem.F.plainAttrs_list PySem.F.slot_list_append PySem.F.type_list_append mt_append he (pa_cons ha pa_nil hs) hbase hfew hline hs) fun σ H Q ⟨P, S, T, ρ, d, ρ', w, hm, q⟩ => ?_
  unfold appL at hm
  cases e1 : L.get ρ with
  | none => rw [e1] at hm; cases hm
  | some d0 =>
    cases e2 : m ρ with
    | none => rw [e1, e2] at hm; cases hm
    | some y =>
      rw [e1, e2, Option.bind_some, Option.bind_some] at hm
      split at hm
      · rename_i ds
        split at hm
        · rename_i hl
          cases hm
          refine ⟨P, S, T, ρ, _, w, e1, fun v Sd R l => ?_⟩
          obtain ⟨a0, xs0, T0, e0, h0, _⟩ := l.rep
          refine ⟨by rw [e0]; exact .inl ⟨rfl, xs0, .inl (.inl h0)⟩, P, S, T, ρ, y, w, e2, fun z H1 P1 U1 g1 r1 u1 u2 => ?_⟩
          have w1 := w.aside g1 u1 u2 (Rep.there y z U1 r1)
          obtain ⟨a, xs, T1, ev, hh, rl, hS, k⟩ := loc_lst w1 (l.grow g1)
          have hl' : xs.length < sizeLine := by rw [← rl.length]; exact lim_lt hl
          have ha0 : 0 < S a := by have := l.sum a; have := hS a; simp [one] at *; omega
          refine ⟨a, xs, z, ev, rfl, hh, hl', ?_⟩
          have keepT : ∀ b u, 0 < T1 b + U1 b → H1 b = some u → upd H1 a (.lst (xs ++ [z])) b = some u := fun b u hb hu => by
            have : b ≠ a := fun q => by
              subst q
              have := w1.le b; have := l.sum b; have := hS b
              simp [one, fa] at *; omega
            rw [upd_ne this]; exact hu
          have r2 : RepL ⟨X.K, cl, X.w⟩ P1 (upd H1 a (.lst (xs ++ [z]))) (ds ++ [y]) (xs ++ [z]) (fa T1 (fa U1 fz)) :=
            RepL.append (repL_h' rl fun b u hb hu => keepT b u (by omega) hu) ⟨z, [], U1, fz, rfl, Rep.mono (.refl _) y z U1 (fun b u hb hu => keepT b u (by omega) hu) r1, ⟨rfl, rfl⟩, rfl⟩
          have w2 := k _ _ _ fz r2 fun b => by simp only [fa, fz]; omega
          exact q .non _ P1 _ fz w2 g1.p ⟨rfl, rfl⟩ fun b u hb hu => by
            have : b ≠ a := fun z2 => by subst z2; have := w.le b; omega
            rw [upd_ne this]; exact g1.h b u hu
        · cases hm
      · cases hm
end
end LI
namespace LI
open PySem L2

section
variable {X : Cx} {cl : Nat → Addr} {E : En} {e a b o : Expr} {es : List Expr} {pos pos' p apos : Pos} {m : RM} {g : GM} {ms : AM} {n : Nat} {f nm : Str} {L : Lens} {σ : L2.St}
theorem loc_own {c : LC} {P H : Hp} {S T U : FP} {ρ : List D} {v : V} {d : D} {Sd R T1 : FP} {a : Addr} (w : Wd c E P S (fa T U) σ H ρ) (l : Loc c L P H σ ρ S v d Sd R) (hSd : ∀ b, Sd b = one a b + T1 b) (hu : ∀ b, 0 < T1 b + U b → H b ≠ none) :
    ∀ (o : HO) (d2 : D) (T2 U2 : FP), Rep c P (upd H a o) d2 v (fa (one a) T2) → (∀ b, T2 b + U2 b ≤ T1 b + U b) → Wd c E P (fa (fa (one a) T2) R) (fa T U2) σ (upd H a o) (L.put ρ d2) := by
  intro o d2 T2 U2 r2 hb
  have ha : 0 < S a := by have := l.sum a; have := hSd a; simp [one] at *; omega
  have henv := l.put P (upd H a o) d2 (fa (one a) T2) (.refl _) (fun b u hb hu => by
    have hne : b ≠ a := fun z => by
      subst z
      have := w.le b; have := l.sum b; have := hSd b
      simp [one] at *; omega
    rw [upd_ne hne]; exact hu) r2
  have hP : P a = none := w.out a (by omega)
  refine ⟨henv, fun b => ?_, fun b z => ?_, fun b z => ?_, fun b u z => ?_, w.p0, fun b u z1 z2 => ?_, w.np, fun b z => ?_, w.kp⟩
  · have := w.le b; have := l.sum b; have := hSd b; have := hb b; simp only [fa] at *; omega
  · refine w.out b ?_; have := l.sum b; have := hSd b; have := hb b; simp only [fa] at *; omega
  · by_cases e : b = a
    · subst e; rw [upd_same]; simp
    · rw [upd_ne e]
      by_cases hT : 0 < fa T U b
      · exact w.th b hT
      · refine hu b ?_
        have := hb b; simp only [fa] at *; omega
  · have e : b ≠ a := fun q => by subst q; rw [hP] at z; cases z
    rw [upd_ne e]; exact w.ph b u z
  · have e : b ≠ a := fun q => by
      subst q
      rcases w.ns b (by omega) with y | y
      · omega
      · rw [y] at z2; cases z2
    rw [upd_ne e]; exact w.fr b u z1 z2
  · refine w.ns b ?_; have := l.sum b; have := hSd b; have := hb b; simp only [fa] at *; omega
theorem keep_own {c : LC} {P H : Hp} {S T : FP} {ρ : List D} {v : V} {d : D} {Sd R T1 : FP} {a : Addr} (w : Wd c E P S T σ H ρ) (l : Loc c L P H σ ρ S v d Sd R) (hSd : ∀ b, Sd b = one a b + T1 b) (o : HO) : ∀ b u, 0 < T1 b + T b → H b = some u → upd H a o b = some u := fun b u hb hu => by
  have : b ≠ a := fun q => by
    subst q
    have := w.le b; have := l.sum b; have := hSd b
    simp [one] at *; omega
  rw [upd_ne this]; exact hu

def setFD (n : Nat) (f : Str) (d : D) : D → Option D
  | .obj true k fs ds => if k = n ∧ fs.length < 1000 then some (match fIx f fs with | some j => .obj true k fs (ds.set j d) | none => .obj true k (fs ++ [f]) (ds ++ [d])) else none
  | _ => none
def fldM (n : Nat) (f : Str) (L : Lens) (g : GM) : SM := fun ρ => (g ρ).bind fun r => (L.get r.2).bind fun self => (setFD n f r.1 self).map fun self' => (.nx, L.put r.2 self')
theorem fIx_lt {f : Str} : ∀ {fs : List Str} {j : Nat}, fIx f fs = some j → j < fs.length
  | [], j, h => by cases h
  | g :: gs, j, h => by
    unfold fIx at h
    by_cases e : f = g
    · rw [if_pos e] at h; cases h; simp
    · rw [if_neg e] at h
      cases z : fIx f gs with
      | none => rw [z] at h; cases h
      | some j' => rw [z] at h; cases h; have := fIx_lt z; simp; omega
theorem putF_some {f : Str} {y : V} : ∀ {fs : List Str} {xs : List V} {j : Nat}, fIx f fs = some j → fs.length = xs.length → putF f y (fs.zip xs) = fs.zip (xs.set j y)
  | [], xs, j, h, n => by cases h
  | g :: gs, [], j, h, n => by simp at n
  | g :: gs, x :: xs, j, h, n => by
    unfold fIx at h
    by_cases e : f = g
    · rw [if_pos e] at h; cases h
      rw [List.zip_cons_cons]
      show (if g = f then (g, y) :: gs.zip xs else _) = _
      rw [if_pos e.symm]; rfl
    · rw [if_neg e] at h
      cases z : fIx f gs with
      | none => rw [z] at h; cases h
      | some j' =>
        rw [z] at h; cases h
        rw [List.zip_cons_cons]
        show (if g = f then _ else (g, x) :: putF f y (gs.zip xs)) = _
        rw [if_neg (fun q => e q.symm), putF_some z (by simpa using n)]; rfl
theorem putF_none {f : Str} {y : V} : ∀ {fs : List Str} {xs : List V}, fIx f fs = none → fs.length = xs.length → putF f y (fs.zip xs) = (fs ++ [f]).zip (xs ++ [y])
  | [], xs, h, n => by
    have : xs = [] := List.length_eq_zero_iff.mp n.symm
    subst this; rfl
  | g :: gs, [], h, n => by simp at n
  | g :: gs, x :: xs, h, n => by
    unfold fIx at h
    by_cases e : f = g
    · rw [if_pos e] at h; cases h
    · rw [if_neg e] at h
      have z : fIx f gs = none := by cases z : fIx f gs with | none => rfl | some j' => rw [z] at h; cases h
      rw [List.zip_cons_cons]
      show (if g = f then _ else (g, x) :: putF f y (gs.zip xs)) = _
      rw [if_neg (fun q => e q.symm), putF_none z (by simpa using n)]; rfl
theorem s_fld (n : Nat) {value : Expr} (hc : Cls X.K (cl n)) (hn : NoAttr X.K (cl n) f) (he : PE X value (tG ⟨X.K, cl, X.w⟩ E g)) (ho : PE X o (tPl ⟨X.K, cl, X.w⟩ E L)) (hs : swapsWith value (some (.Attribute o f pos')) pos.line X.env = pure false := by rfl) :
    PS X (.Assign [.Attribute o f pos'] value pos) (tS ⟨X.K, cl, X.w⟩ E (fldM n f L g)) := PS_imp (ps_fld ho he hs) fun D σ H ⟨P, S, ρ, fl, ρ', w, hm, q⟩ => by
  unfold fldM at hm
  cases eg : g ρ with
  | none => rw [eg] at hm; cases hm
  | some r =>
    obtain ⟨d, ρ1⟩ := r
    rw [eg, Option.bind_some] at hm
    cases el : L.get ρ1 with
    | none => rw [el] at hm; cases hm
    | some self =>
      rw [el, Option.bind_some] at hm
      cases ef : setFD n f d self with
      | none => rw [ef] at hm; cases hm
      | some self' =>
        rw [ef] at hm
        cases hm
        refine g_run w eg fun y H1 P1 S1 U w1 e1 r1 => ⟨P1, S1, U, ρ1, self, w1, el, fun v Sd R l => ?_⟩
        unfold setFD at ef
        split at ef
        · rename_i k fs ds
          split at ef
          · rename_i hk
            obtain ⟨rfl, hl⟩ := hk
            cases ef
            obtain ⟨a, dx, xs, T1, ev, hh, nl, rl, hf⟩ := l.rep
            have hS : ∀ b, Sd b = one a b + T1 b := fun b => by rw [hf]; rfl
            have w1' : Wd ⟨X.K, cl, X.w⟩ E P1 S1 (fa fz U) σ H1 ρ1 := by rw [fz_fa]; exact w1
            refine ⟨a, cl k, dx, _, ev, hh, hc, hn, by rw [List.length_zip]; omega, ?_⟩
            have kp := fun o => keep_own w1 l hS o
            have hu : ∀ b, 0 < T1 b + U b → H1 b ≠ none := fun b hb => by
              by_cases hU : 0 < U b
              · exact w1.th b hU
              · exact RepL.there ds xs T1 rl b (by omega)
            cases ej : fIx f fs with
            | some j =>
              have hj : j < xs.length := by
                have := fIx_lt ej
                omega
              obtain ⟨x0, hx0⟩ : ∃ x0, ds[j]? = some x0 := ⟨_, List.getElem?_eq_getElem (by rw [rl.length]; exact hj)⟩
              obtain ⟨v0, S0, R0, k1, k2, k3, k4⟩ := rl.focus hx0
              rw [putF_some ej nl]
              have rnew := k4 P1 (upd H1 a (.ins (cl k) dx (fs.zip (xs.set j y)))) d y U (.refl _) (fun b u hb hu => kp _ b u (by have := k3 b; omega) hu) (Rep.mono (.refl _) d y U (fun b u hb hu => kp _ b u (by omega) hu) r1)
              have w2 := loc_own w1' l hS hu (.ins (cl k) dx (fs.zip (xs.set j y))) (.obj true k fs (ds.set j d)) (fa U R0) fz ⟨a, dx, _, fa U R0, ev, upd_same, by rw [List.length_set]; exact nl, rnew, rfl⟩ (fun b => by have := k3 b; simp only [fa, fz]; omega)
              rw [fa_fz] at w2
              simp only [ej] at q
              exact q σ _ P1 _ w2 e1
            | none =>
              rw [putF_none ej nl]
              have rnew : RepL ⟨X.K, cl, X.w⟩ P1 (upd H1 a (.ins (cl k) dx ((fs ++ [f]).zip (xs ++ [y])))) (ds ++ [d]) (xs ++ [y]) (fa T1 (fa U fz)) :=
                RepL.append (repL_h' rl fun b u hb hu => kp _ b u (by omega) hu) ⟨y, [], U, fz, rfl, Rep.mono (.refl _) d y U (fun b u hb hu => kp _ b u (by omega) hu) r1, ⟨rfl, rfl⟩, rfl⟩
              have w2 := loc_own w1' l hS hu (.ins (cl k) dx ((fs ++ [f]).zip (xs ++ [y]))) (.obj true k (fs ++ [f]) (ds ++ [d])) (fa T1 (fa U fz)) fz ⟨a, dx, _, _, ev, upd_same, by simp [nl], rnew, rfl⟩ (fun b => by simp only [fa, fz]; omega)
              rw [fa_fz] at w2
              simp only [ej] at q
              exact q σ _ P1 _ w2 e1
          · cases ef
        · cases ef

end
end LI
namespace LI
open PySem L2

section
variable {X : Cx} {cl : Nat → Addr} {E : En} {e a b o : Expr} {es : List Expr} {pos pos' p apos : Pos} {m mo : RM} {g : GM} {ms : AM} {n : Nat} {f nm : Str} {L : Lens} {σ : L2.St}
def frM (m : RM) : RM := fun ρ => (m ρ).bind fun d => if frz d = true then some d else none
theorem f_fr (h : PE X e (tR ⟨X.K, cl, X.w⟩ E m)) : PE X e (tF ⟨X.K, cl, X.w⟩ E (frM m)) := PE_imp h fun σ H Q ⟨P, S, T, ρ, d, w, hm, q⟩ => by
  unfold frM at hm
  cases hd : m ρ with
  | none => rw [hd] at hm; cases hm
  | some d1 =>
    rw [hd, Option.bind_some] at hm
    split at hm
    · rename_i hf
      cases hm
      refine ⟨P, S, T, ρ, d, w, hd, fun v H' P' U g r => ?_⟩
      have z := Rep.frz0 d v U hf r
      subst z
      exact q v H' P' fz g r (fun _ => Nat.zero_le _) fun a z => by simp [fz] at z
    · cases hm

end

def spLaw (K : PySem.W.Frag) : Sp := fun vs H Q _ => ∃ (a : Addr) (ns : List Int), vs = [.ref a] ∧ SqL K H a (ns.map V.int) ∧ ns.length ≤ 63 ∧ (∀ z ∈ ns, Builtin.Int.intBits z ≤ 1048576) ∧ ∀ H', Q (.bl true) H'
theorem law_ok {P : Program} {w : World} {K : PySem.W.Frag} {mg : Str → Option Value} {base : Heap} {CX : CXT} {k : Nat} {f : Addr} {fd : FuncData} {ps : List Str} {F : FM} {cl : Nat → Addr} (G : FnOk P w K mg base CX k f fd ps (spD ⟨K, cl, w⟩ F))
    (h : ∀ ns : List Int, ns.length ≤ 63 → (∀ z ∈ ns, Builtin.Int.intBits z ≤ 1048576) → ∃ ds', F [.scr ns] = some (.bl true, ds')) : FnOk P w K mg base CX k f fd ps (spLaw K) :=
  G.imp fun vs H Q E ⟨a, ns, e, hs, hl, hb, q⟩ => by
    obtain ⟨ds', hF⟩ := h ns hl hb
    refine ⟨H, fz, [.scr ns], .bl true, ds', ⟨.ref a, [], fz, fz, e, ⟨a, rfl, hs, rfl⟩, ⟨rfl, rfl⟩, (fa_fz fz).symm⟩, .refl _, fun _ => Nat.zero_le _, fun a z => by simp [fz] at z, hF, fun v H' P' U S' st rd _ => ?_⟩
    rw [rd.1]
    exact q H'
end LI
namespace LI
open PySem L2

section
variable {X : Cx} {cl : Nat → Addr} {E : En} {e a b o : Expr} {es : List Expr} {pos pos' p apos : Pos} {m mo ma mb : RM} {g : GM} {ms : AM} {n : Nat} {nm x : Str} {L : Lens} {σ : L2.St} {CX : CXT} {k : Nat} {fa' : Addr} {fd : FuncData} {ps : List Str} {F : FM} {XE : XK}
def VQ (c : LC) (P H : Hp) (d : D) (Q : VK) : Prop := ∀ v H' P' U, Gr P H P' H' → Rep c H' H' d v U → Q v H'
def tV (c : LC) (E : En) (m : RM) : TE := fun σ H Q => ∃ P S T ρ d, Wd c E P S T σ H ρ ∧ m ρ = some d ∧ VQ c P H d Q
theorem v_r (h : PE X e (tR ⟨X.K, cl, X.w⟩ E m)) : PE X e (tV ⟨X.K, cl, X.w⟩ E m) := PE_imp h fun σ H Q ⟨P, S, T, ρ, d, w, hm, q⟩ => ⟨P, S, T, ρ, d, w, hm, fun v H' P' U g r => q v H' P' U g (Rep.mono g.ph d v U (fun _ _ _ h => h) r)⟩
theorem FQ.flatV {c : LC} {P H : Hp} {d : D} {Q : VK} (hp : Ex P H) (hd : isFlat d = true) (h : FQ c P H d Q) : FQ c H H d Q := fun v H' P' U g r _ _ =>
  h v H' P fz ⟨.refl _, g.h, hp.trans g.h, fun _ z => .inl z⟩ (flat_any (c := c) hd r) (fun _ => Nat.zero_le _) fun a z => by simp [fz] at z
def FlatOp (f : D → D → Option D) : Prop := ∀ a b d, f a b = some d → isFlat d = true
theorem op2_runW {r : R2} {f : D → D → Option D} (hf : Op2 ⟨X.K, cl, X.w⟩ r f) (hz : FlatOp f) {H : Hp} {Q : VK} (h : tF ⟨X.K, cl, X.w⟩ E (m2 f ma mb) σ H Q) : tOp r (tV ⟨X.K, cl, X.w⟩ E ma) (tV ⟨X.K, cl, X.w⟩ E mb) σ H Q := by
  obtain ⟨P, S, T, ρ, d, w, hm, q⟩ := h
  obtain ⟨da, db, ea, eb, hm⟩ := m2_split hm
  refine ⟨P, S, T, ρ, da, w, ea, fun x H1 P1 U1 g1 r1 => ⟨P1, S, T, ρ, db, w.grow g1, eb, fun y H2 P2 U2 g2 r2 => ?_⟩⟩
  exact hf H2 H2 (.refl _) _ _ _ _ _ _ _ hm (Rep.mono g2.h da x U1 (fun a o _ h => g2.h a o h) r1) r2 Q ((q.grow (g1.trans g2)).flatV g2.ph (hz _ _ _ hm))
theorem v_cmp {op : CmpOp} {r : R2} {f : D → D → Option D} (ho : OpR X (compareOp op) r) (hf : Op2 ⟨X.K, cl, X.w⟩ r f) (hz : FlatOp f) (ha : PE X a (tV ⟨X.K, cl, X.w⟩ E ma)) (hb : PE X b (tV ⟨X.K, cl, X.w⟩ E mb)) (hm : behindInMarks op b = false) : PE X (.Compare a [op] [b] pos) (tF ⟨X.K, cl, X.w⟩ E (m2 f ma mb)) :=
  PE_imp (pe_cmpR ho ha hb hm) fun _ _ _ h => op2_runW hf hz h
theorem tv_cmp {op : CmpOp} {r : R2} {f : D → D → Option D} (ho : OpR X (compareOp op) r) (hf : Op2 ⟨X.K, cl, X.w⟩ r f) (hz : FlatOp f) (ha : PE X a (tV ⟨X.K, cl, X.w⟩ E ma)) (hb : PE X b (tV ⟨X.K, cl, X.w⟩ E mb)) (hm : behindInMarks op b = false) : PT X (.Compare a [op] [b] pos) (tT ⟨X.K, cl, X.w⟩ E (bM (m2 f ma mb))) :=
  t_test (pt_cmpR ho ha hb hm) fun _ _ _ h => op2_runW hf hz h
theorem flat_eq : FlatOp eqD := fun a b d h => by
  unfold eqD at h
  cases z : eqB a b with
  | none => rw [z] at h; cases h
  | some k => rw [z] at h; cases h; rfl
theorem flat_ne : FlatOp neD := fun a b d h => by
  unfold neD at h
  cases z : eqB a b with
  | none => rw [z] at h; cases h
  | some k => rw [z] at h; cases h; rfl
def callVM (F : FM) (ms : AM) : RM := fun ρ => (ms ρ).bind fun ds => (F (iceL ds)).map (·.1)
theorem f_isi' {ty : String} {b0 : Expr} (ha : PE X a (tR ⟨X.K, cl, X.w⟩ E ma)) (hb : PE X b0 (tC (.ty ty))) (hm : X.mg "isinstance" = none) (hg : Gl X "isinstance" := by rfl)
    (hs1 : starEach [a, b0] X.env = (false, eval a X.env) :: starEach [b0] X.env := by rfl) (hs2 : starEach [b0] X.env = (false, eval b0 X.env) :: starEach [] X.env := by rfl) (hpl : (backTo pos (starEach [b0] X.env)).any (·.1) = false := by rfl) : PE X (.Call (.Name "isinstance" p) [a, b0] [] pos) (tF ⟨X.K, cl, X.w⟩ E (isiM ty ma)) :=
  f_isi hg hm (by decide +kernel) ha hb (by decide) (by decide) hs1 hs2 hpl
end
end LI
namespace LI
open PySem L2

def mvM (L : Lens) : GM := fun ρ => (L.get ρ).bind fun d => some (d, L.put ρ .gone)
def iceAt (i : Nat) (ρ : List D) : List D := match ρ[i]? with
  | some d => ρ.set i (ice d)
  | none => ρ
def iceM (i : Nat) (m : SM) : SM := fun ρ => (m ρ).map fun r => match r.1 with
  | .nx => (.nx, iceAt i r.2)
  | f => (f, r.2)
section
variable {X : Cx} {cl : Nat → Addr} {E : En} {e a b tg : Expr} {pos : Pos} {L : Lens} {m ma mb : RM}
theorem g_mv (h : PE X e (tPl ⟨X.K, cl, X.w⟩ E L)) : PE X e (tG ⟨X.K, cl, X.w⟩ E (mvM L)) := PE_imp h fun σ H Q ⟨P, S, T, ρ, d, ρ', w, hm, q⟩ => by
  unfold mvM at hm
  cases hd : L.get ρ with
  | none => rw [hd] at hm; cases hm
  | some d1 =>
    rw [hd] at hm
    cases hm
    refine ⟨P, S, T, ρ, d, w, hd, fun v Sd R l => ?_⟩
    have henv := l.put P H .gone fz (.refl P) (fun _ _ _ h => h) rfl
    refine q v H P (fa fz R) Sd ?_ (.refl P) l.rep (fun _ _ _ h => h)
    have hs := l.sum
    refine ⟨henv, fun x => ?_, fun x hx => ?_, fun x hx => ?_, w.ph, w.p0, w.fr, w.np, fun x hx => ?_, w.kp⟩
    · have := w.le x; have := hs x; simp only [fa, fz] at *; omega
    · exact w.out x (by have := hs x; simp only [fa, fz] at *; omega)
    · by_cases z : 0 < T x
      · exact w.th x z
      · exact Rep.there d v Sd l.rep x (by simp only [fa] at hx; omega)
    · exact w.ns x (by have := hs x; simp only [fa, fz] at *; omega)
theorem RepE.iceAt {c : LC} {P H : Hp} : ∀ {ρ : List D} {σ : St} {S : FP} (i : Nat), RepE c P H ρ σ S → ∃ (U R : FP), (∀ a, S a = U a + R a) ∧ (∀ a, 0 < U a → H a ≠ none) ∧
    ∀ (P2 H2 : Hp), Ex P P2 → (∀ a o, 0 < U a → H a = some o → P2 a = some o) → (∀ a o, 0 < R a → H a = some o → H2 a = some o) → RepE c P2 H2 (LI.iceAt i ρ) σ R
  | [], [], S, i, h => ⟨fz, S, fun a => by simp [fz], fun a p => by simp [fz] at p, fun P2 H2 _ _ _ => h⟩
  | d0 :: ρ, v0 :: σ, S, 0, ⟨T, U, r, rs, f⟩ => ⟨T, U, fun a => by rw [f]; rfl, r.there, fun P2 H2 e k1 k2 => by
      refine ⟨fz, U, ?_, rs.mono e ρ σ U k2, by funext a; simp [fa, fz]⟩
      cases v0 with
      | none => obtain ⟨rfl, _⟩ := r; exact ⟨rfl, rfl⟩
      | some v => exact Rep.ice e d0 v T k1 r⟩
  | d0 :: ρ, v0 :: σ, S, i + 1, ⟨T, T2, r, rs, f⟩ => by
    obtain ⟨U, R, h1, h0, h2⟩ := RepE.iceAt i rs
    refine ⟨U, fa T R, fun a => by have := h1 a; rw [f]; simp only [fa]; omega, h0, fun P2 H2 e k1 k2 => ?_⟩
    have := h2 P2 H2 e k1 (fun a o z1 z2 => k2 a o (by simp only [fa]; omega) z2)
    have e2 : LI.iceAt (i + 1) (d0 :: ρ) = d0 :: LI.iceAt i ρ := by
      simp only [LI.iceAt, List.getElem?_cons_succ]
      cases ρ[i]? <;> rfl
    rw [e2]
    exact ⟨T, R, RepO.mono e (fun a o z1 z2 => k2 a o (by simp only [fa]; omega) z2) r, this, rfl⟩
  | [], _ :: _, _, _, h => h.elim
  | _ :: _, [], _, _, h => h.elim
theorem Wd.iceAt {c : LC} {P H : Hp} {S T : FP} {σ : St} {ρ : List D} (w : Wd c E P S T σ H ρ) (i : Nat) : ∃ P' S', Wd c E P' S' T σ H (LI.iceAt i ρ) ∧ Ex P P' := by
  obtain ⟨U, R, h1, h0, h2⟩ := RepE.iceAt i w.env
  have hP : ∀ a, 0 < U a → P a = none := fun a z => w.out a (by have := h1 a; omega)
  have ex : Ex P (fun a => if 0 < U a then H a else P a) := fun a o z => by
    by_cases hu : 0 < U a
    · rw [hP a hu] at z; cases z
    · simp [hu, z]
  refine ⟨fun a => if 0 < U a then H a else P a, R, ⟨h2 _ H ex (fun a o z1 z2 => by simp [z1, z2]) (fun _ _ _ h => h), fun a => ?_, fun a z => ?_, w.th, fun a o z => ?_, w.p0.trans ex, w.fr, fun a z => ?_, fun a z => w.ns a (by have := h1 a; omega), w.kp⟩, ex⟩
  · have := w.le a; have := h1 a; omega
  · have l := w.le a; have s := h1 a
    have hu : ¬ 0 < U a := by omega
    simp only [hu, if_false]
    exact w.out a (by omega)
  · by_cases hu : 0 < U a
    · simpa [hu] using z
    · exact w.ph a o (by simpa [hu] using z)
  · by_cases hu : 0 < U a
    · exact .inr (w.ns a (by have := h1 a; omega))
    · exact w.np a (by simpa [hu] using z)
theorem s_seqI (i : Nat) {st : Stmt} {m : SM} (h : PS X st (tS ⟨X.K, cl, X.w⟩ E m)) : PS X st (tS ⟨X.K, cl, X.w⟩ E (iceM i m)) := PS_imp h fun D σ H ⟨P, S, ρ, fl, ρ', w, hm, q⟩ => by
  unfold iceM at hm
  cases eg : m ρ with
  | none => rw [eg] at hm; cases hm
  | some r =>
    obtain ⟨f1, ρ1⟩ := r
    rw [eg] at hm
    refine ⟨P, S, ρ, f1, ρ1, w, eg, ?_⟩
    cases f1 with
    | nx =>
      cases hm
      intro σ' H' P' S' w' x
      obtain ⟨P2, S2, w2, e2⟩ := w'.iceAt i
      exact q σ' H' P2 S2 w2 (x.trans e2)
    | rt d => cases hm; exact q
    | bk => cases hm; exact q
    | ct => cases hm; exact q
    | ex n fs es => cases hm; exact q

def enumFrom (n : Nat) : List D → List D
  | [] => []
  | d :: ds => .tup [.int (n : Int), d] :: enumFrom (n + 1) ds
def lstD : D → Option (List D)
  | .lst false ds => if frzL ds = true then some ds else none
  | .scr ns => some (ns.map .int)
  | _ => none
def enumM (m : RM) : AM := fun ρ => (m ρ).bind fun d => (lstD d).map (enumFrom 0)
def zipD : List D → List D → List D
  | a :: as, b :: bs => .tup [a, b] :: zipD as bs
  | _, _ => []
def zipM (m1 m2 : RM) : AM := fun ρ => (m1 ρ).bind fun d1 => (m2 ρ).bind fun d2 => (lstD d1).bind fun a => (lstD d2).map fun b => zipD a b
def revM (m : RM) : AM := fun ρ => (m ρ).bind fun d => (lstD d).map List.reverse
end
def IterV (c : LC) (P H : Hp) (J : It) (ds : List D) : Prop := ∃ (G : Hp → Prop) (Y : Nat → Hp → V → Hp → Prop), Walk J ds.length G Y ∧ (∀ P2 H2, Gr P H P2 H2 → G H2) ∧
  ∀ i P2 H2 x H3, Gr P H P2 H2 → i < ds.length → Y i H2 x H3 → ∃ P3 d, Gr P2 H2 P3 H3 ∧ ds[i]? = some d ∧ Rep c P3 H3 d x fz
def tIV (c : LC) (E : En) (m : AM) : TI := fun σ H R => ∃ P S T ρ ds, Wd c E P S T σ H ρ ∧ m ρ = some ds ∧ ∀ J H' P', Gr P H P' H' → IterV c P' H' J ds → R J H'
def itemsV : D → Option (List D)
  | .lst _ ds => if frzL ds = true then some ds else none
  | d => itemsD d
def itV (m : RM) : AM := fun ρ => (m ρ).bind itemsV
section
variable {X : Cx} {cl : Nat → Addr} {E : En} {e a b tg : Expr} {pos : Pos} {m ma mb : RM}
theorem i_up {ms : AM} (h : PI X tg e (tI ⟨X.K, cl, X.w⟩ E ms)) : PI X tg e (tIV ⟨X.K, cl, X.w⟩ E ms) := PI_imp h fun σ H R ⟨P, S, T, ρ, ds, w, hm, q⟩ =>
  ⟨P, S, T, ρ, ds, w, hm, fun J H1 P1 g1 ⟨G, Y, wk, hG, hY⟩ => q J H1 P1 g1 ⟨G, Y, wk, fun P2 H2 g2 => hG P2 H2 g2.p g2.ph, fun i P2 H2 x H3 g2 hi y => hY i P2 H2 x H3 g2.p g2.ph hi y⟩⟩
theorem i_seqV (h : PE X e (tR ⟨X.K, cl, X.w⟩ E m)) : PI X tg e (tIV ⟨X.K, cl, X.w⟩ E (itV m)) := by
  refine PI_imp (PI_or (pi_list h) (i_up (i_seq h))) fun σ H R ⟨P, S, T, ρ, ds, w, hm, q⟩ => ?_
  unfold itV at hm
  cases ea : m ρ with
  | none => rw [ea] at hm; cases hm
  | some d =>
    rw [ea] at hm
    replace hm : itemsV d = some ds := hm
    cases d with
    | lst o es =>
      replace hm : (if frzL es = true then some es else none) = some ds := hm
      split at hm
      · rename_i hf
        cases hm
        refine .inl ⟨P, S, T, ρ, _, w, ea, fun v H1 P1 U1 g1 r1 => ?_⟩
        obtain ⟨p, xs, T', e1, hp, rl, _⟩ := lst_heap g1.ph r1
        have z := RepL.frz0 _ xs _ hf rl
        subst z
        refine ⟨p, e1, ⟨xs, .inl (.inl hp)⟩, q _ H1 P1 g1 ⟨_, _, by rw [rl.length]; exact walk_list (K := X.K) (a := p) (xs := xs), fun P2 H2 g2 => Or.inl (Or.inl (g2.h _ _ hp)), fun i P2 H2 x H3 g2 hi y => ?_⟩⟩
        obtain ⟨rfl, hx⟩ := y
        obtain ⟨d, h1, h2⟩ := rep_get0 (repL_h (H' := H3) rl) hx
        exact ⟨P2, d, .refl g2.ph, h1, Rep.mono g2.p d x fz (fun a o z _ => by simp [fz] at z) h2⟩
      · cases hm
    | _ => exact .inr ⟨P, S, T, ρ, ds, w, by unfold itM; rw [ea]; exact hm, q⟩
theorem lcV_run {c : LC} {vs tl : List Nat} {f : TgM} {mc : BM} {me : RM} {ms : AM} (ht : ∀ j ∈ tl, j ∈ vs) (hk : ∀ j ∈ vs, E.kp[j]? ≠ some true) {σ : St} {H : Hp} {Q : VK} (h : tF c E (compM vs f mc me ms) σ H Q) :
    tLc (tIV c E ms) (tPG c E tl f) (tTs c E mc) (tR c E me) vs σ H Q := by
  obtain ⟨P, S, T, ρ, d, w, hm, q⟩ := h
  unfold compM at hm
  cases es : ms ρ with
  | none => rw [es] at hm; cases hm
  | some ds =>
    rw [es, Option.bind_some] at hm
    split at hm
    · rename_i hlim
      cases ec : compL f mc me (goneAt ρ vs) ds with
      | none => rw [ec] at hm; cases hm
      | some ys =>
        rw [ec] at hm
        cases hm
        refine ⟨P, S, T, ρ, ds, w, es, fun J H1 P1 g1 io => ?_⟩
        intro Dl hD
        obtain ⟨G, Y, wk, hG, hY⟩ := io
        have hP1 : P1 Dl = none := none_of g1.ph hD
        -- the invariant
        refine lc_it wk (fun i Hh => ∃ P2 zs acc, compL f mc me (goneAt ρ vs) (ds.take i) = some zs ∧ Gr P1 H1 P2 Hh ∧ P2 Dl = none ∧ Hh Dl = some (.lst acc) ∧ RepL c P2 Hh zs acc fz) ?_ ?_ ?_ ?_
        · exact ⟨P1, [], [], rfl, ⟨.refl _, ex_new hD, g1.ph.trans (ex_new hD), fun a z => .inl z⟩, hP1, upd_same, rfl, rfl⟩
        · rintro i Hh hi ⟨P2, zs, acc, h1, g2, _, _, _⟩
          exact hG P2 Hh g2
        · rintro i x Hh H3 hi ⟨P2, zs, acc, h1, g2, hD2, hDl, rl⟩ y
          obtain ⟨P3, d, g3, hd, rd⟩ := hY i P2 Hh x H3 g2 hi y
          obtain ⟨zs', ρ1, k, t1, t2, t3, t4, t5⟩ := compL_turn ec hd
          rw [h1] at t1
          cases t1
          obtain ⟨S3, w3⟩ := (((w.grow g1).grow g2).grow g3).wipe vs hk
          have w3' : Wd c E P3 S3 (fa T fz) (L2.wipe σ vs) H3 (goneAt ρ vs) := by rw [fa_fz]; exact w3
          have hD3 : P3 Dl = none := by
            cases z : P3 Dl with
            | none => rfl
            | some o =>
              rcases g3.new Dl (by rw [z]; simp) with q' | q'
              · exact absurd hD2 q'
              · rw [hDl] at q'; cases q'
          refine ⟨P3, S3, T, fz, _, d, ρ1, w3', rd, t2, fun σ' S' w4 l4 k4 => ⟨?_, P3, S', T, ρ1, k, w4, t3, fun H4 P4 g4 => ?_⟩⟩
          · rw [wipe_eq (vs := vs) l4 fun j hj => k4 j fun z => hj (ht j z)]
            exact wipe_wipe σ vs
          · have hD4 : P4 Dl = none := by
              cases z : P4 Dl with
              | none => rfl
              | some o =>
                rcases g4.new Dl (by rw [z]; simp) with q' | q'
                · exact absurd hD3 q'
                · rw [g3.h _ _ hDl] at q'; cases q'
            cases k with
            | true =>
              obtain ⟨y', e1, e2, e3⟩ := t4 rfl
              refine iteT ⟨P4, S', T, ρ1, y', w4.grow g4, e1, fun v H5 P5 U5 g5 r5 => ?_⟩
              have hU := Rep.frz0 y' v U5 e2 r5
              subst hU
              have hD5 : P5 Dl = none := by
                cases z : P5 Dl with
                | none => rfl
                | some o =>
                  rcases g5.new Dl (by rw [z]; simp) with q' | q'
                  · exact absurd hD4 q'
                  · rw [g4.h _ _ (g3.h _ _ hDl)] at q'; cases q'
              have gg := ((g2.trans g3).trans g4).trans g5
              have hDl5 : H5 Dl = some (.lst acc) := g5.h _ _ (g4.h _ _ (g3.h _ _ hDl))
              refine ⟨acc, hDl5, ?_, P5, zs ++ [y'], acc ++ [v], e3, ⟨gg.p, fun a o z => ?_, fun a o z => ?_, gg.new⟩, hD5, upd_same, ?_⟩
              · have h2 := compL_len h1
                have h3 := rl.length
                have : zs.length ≤ ds.length := Nat.le_trans h2 (by rw [List.length_take]; omega)
                have : (zs ++ [y']).length ≤ (ds.take (i + 1)).length := compL_len e3
                rw [List.length_append, List.length_take] at this
                have e4 : acc.length < LIM := by
                  simp only [List.length_cons, List.length_nil] at this
                  omega
                exact lim_lt e4
              · by_cases z2 : a = Dl
                · subst z2; rw [hD] at z; cases z
                · rw [upd_ne z2]; exact gg.h a o z
              · by_cases z2 : a = Dl
                · subst z2; rw [hD5] at z; cases z
                · rw [upd_ne z2]; exact g5.ph a o z
              · have r6 := RepL.append (repL_h (H' := upd H5 Dl (.lst (acc ++ [v]))) (((rl.gr g3).gr g4).gr g5)) (show RepL c P5 (upd H5 Dl (.lst (acc ++ [v]))) [y'] [v] fz from ⟨v, [], fz, fz, rfl, Rep.mono (.refl _) y' v fz (fun a o z _ => by simp [fz] at z) r5, ⟨rfl, rfl⟩, (fa_fz fz).symm⟩)
                rwa [fa_fz] at r6
            | false =>
              refine iteF ⟨P4, zs, acc, t5 rfl, (g2.trans g3).trans g4, hD4, g4.h _ _ (g3.h _ _ hDl), (rl.gr g3).gr g4⟩
        · rintro Hh ⟨P2, zs, acc, h1, g2, hD2, hDl, rl⟩
          rw [List.take_length, ec] at h1
          cases h1
          refine q _ Hh P2 (one Dl) (g1.trans g2) ⟨Dl, acc, fz, rfl, hDl, rl, (fa_fz _).symm⟩ one_le fun a z => ?_
          rw [one_pos z]
          refine ⟨?_, hD2⟩
          cases z : H Dl with
          | none => rfl
          | some o => rw [g1.h _ _ z] at hD; cases hD
    · cases hm
theorem f_lcV {elt tg iter : Expr} {ifs : List Expr} {scope : Scope} (own : List (Str × Nat)) {vs : List Nat} {tl : List Nat} {f : TgM} {mc : BM} {me : RM} {ms : AM} (hvs : own.map (·.2) = vs) (hc : X.calm = true) (hN : X.N.Nodup) (hi : PI X tg iter (tIV ⟨X.K, cl, X.w⟩ E ms)) (ok : BlkOk X.N X.env.scope scope own)
    (hg : ∀ (s : Shared) (H : Hp) (C : Addr) (c : List (Str × Addr)) (fp : List Addr), PG (X.blk s H scope (compEnvC scope c C X.env) fp) tg (tPG ⟨X.K, cl, X.w⟩ E tl f)) (ht : ∀ (s : Shared) (H : Hp) (C : Addr) (c : List (Str × Addr)) (fp : List Addr), PTs (X.blk s H scope (compEnvC scope c C X.env) fp) ifs (tTs ⟨X.K, cl, X.w⟩ E mc))
    (he : ∀ (s : Shared) (H : Hp) (C : Addr) (c : List (Str × Addr)) (fp : List Addr), PE (X.blk s H scope (compEnvC scope c C X.env) fp) elt (tR ⟨X.K, cl, X.w⟩ E me)) (h1 : ∀ j ∈ tl, j ∈ vs) (h2 : ∀ j ∈ vs, E.kp[j]? ≠ some true) (hs : ∀ x, foldedSetIterable iter X.env x = pure x := by intro _; rfl) :
    PE X (.ListComp elt [⟨tg, iter, ifs, 0⟩] scope pos) (tF ⟨X.K, cl, X.w⟩ E (compM vs f mc me ms)) := by
  subst hvs
  exact PE_imp (pe_lc hc hN hi ok hg ht he hs) fun _ _ _ h => lcV_run h1 h2 h
theorem s_setLcV (i : Nat) {y : Str} {py : Pos} {elt tg iter : Expr} {ifs : List Expr} {scope : Scope} (own : List (Str × Nat)) {spos : Pos} {vs : List Nat} {tl : List Nat} {f : TgM} {mc : BM} {me : RM} {ms : AM} (hvs : own.map (·.2) = vs) (hc : X.calm = true) (hN : X.N.Nodup) (hy : X.N[i]? = some y) (hyl : X.env.scope.names.lookup y = some .local) (hki : E.kp[i]? ≠ some true)
    (hi : PI X tg iter (tIV ⟨X.K, cl, X.w⟩ E ms)) (ok : BlkOk X.N X.env.scope scope own)
    (hg : ∀ (s : Shared) (H : Hp) (C : Addr) (c : List (Str × Addr)) (fp : List Addr), PG (X.blk s H scope (compEnvC scope c C X.env) fp) tg (tPG ⟨X.K, cl, X.w⟩ E tl f)) (ht : ∀ (s : Shared) (H : Hp) (C : Addr) (c : List (Str × Addr)) (fp : List Addr), PTs (X.blk s H scope (compEnvC scope c C X.env) fp) ifs (tTs ⟨X.K, cl, X.w⟩ E mc))
    (he : ∀ (s : Shared) (H : Hp) (C : Addr) (c : List (Str × Addr)) (fp : List Addr), PE (X.blk s H scope (compEnvC scope c C X.env) fp) elt (tR ⟨X.K, cl, X.w⟩ E me)) (h1 : ∀ j ∈ tl, j ∈ vs) (h2 : ∀ j ∈ vs, E.kp[j]? ≠ some true)
    (hsw : swapsWith (.ListComp elt [⟨tg, iter, ifs, 0⟩] scope pos) (some (.Name y py)) spos.line X.env = pure true) (hs : ∀ x, foldedSetIterable iter X.env x = pure x := by intro _; rfl) :
    PS X (.Assign [.Name y py] (.ListComp elt [⟨tg, iter, ifs, 0⟩] scope pos) spos) (tS ⟨X.K, cl, X.w⟩ E (asgM (nameT i) (upF (compM vs f mc me ms)))) := by
  subst hvs
  refine PS_imp (ps_setLc hc hN hy hyl hsw hi ok hg ht he hs) fun D σ H ⟨P, S, ρ, fl, ρ', w, hm, q⟩ => ?_
  unfold asgM upF at hm
  cases eg : compM (own.map (·.2)) f mc me ms ρ with
  | none => rw [eg] at hm; cases hm
  | some d =>
    rw [eg] at hm
    cases hm
    refine lcV_run (c := ⟨X.K, cl, X.w⟩) h1 h2 ⟨P, S, fz, ρ, d, w, eg, fun v H' P' U g r u1 u2 => ?_⟩
    obtain ⟨S2, w2⟩ := (w.aside g u1 u2 (Rep.there d v U r)).store r i hki
    exact q _ H' P' S2 w2 g.p
end
end LI
namespace LI
open PySem L2

theorem FQ.dK {c : LC} {P H : Hp} {Q : VK} {ks : List Key} {ds : List D} {xs : List V} (h : FQ c P H (.dK true ks ds) Q) (e : Ex P H) (n : ks.length = xs.length) (r : RepL c P H ds xs fz) : ∀ p, H p = none → Q (.ref p) (upd H p (.dK (ks.zip xs))) := fun p hp => by
  refine h _ _ P (one p) ⟨.refl _, ex_new hp, e.trans (ex_new hp), fun _ z => .inl z⟩ ⟨p, xs, fz, rfl, upd_same, n, RepL.mono (.refl _) ds xs fz (fun a o z _ => by simp [fz] at z) r, (fa_fz _).symm⟩ one_le fun a z => ?_
  rw [one_pos z]
  exact ⟨hp, none_of e hp⟩
section
variable {X : Cx} {cl : Nat → Addr} {E : En} {pos : Pos}
def dispM (mk mv : AM) : RM := fun ρ => (mk ρ).bind fun kds => (mv ρ).bind fun vds => (keyDs kds).bind fun ks => if ks.Nodup ∧ frzL vds = true ∧ ks.length ≤ 15 ∧ ks.length = vds.length then some (.dK true ks vds) else none
end
end LI
namespace LI
open PySem PySem.Spec PyProof.Rows L2

def enumSM (m : RM) : AM := fun ρ => (m ρ).bind fun d => match d with
  | .str s => some (enumFrom 0 (strsD s))
  | d => (lstD d).map (enumFrom 0)
section
variable {X : Cx} {cl : Nat → Addr} {E : En} {e a b tg : Expr} {pos : Pos} {m : RM}
end
end LI
namespace LI
open PySem PySem.Spec PyProof.Rows L2

def KdVals (P : Params) : List DictEntry → List (List Nat × List Nat) → Prop
  | [], [] => True
  | e :: es, kv :: kvs => (∃ t, e.key = .str ⟨kv.1.toArray⟩ t ∧ e.hash = PyData.keyHash P ⟨kv.1.toArray⟩) ∧ (∃ t, e.val = .str ⟨kv.2.toArray⟩ t) ∧ KdVals P es kvs
  | _, _ => False
theorem KdVals.lit {P : Params} : ∀ {es : List DictEntry} {kvs : List (List Nat × List Nat)}, KdVals P es kvs → PySem.W.KeysLit P es
  | [], [], _ => trivial
  | e :: es, kv :: kvs, ⟨⟨t, h1, h2⟩, _, h3⟩ => ⟨⟨_, t, h1, h2⟩, h3.lit⟩
  | [], _ :: _, h => h.elim
  | _ :: _, [], h => h.elim
def kdGet : List (List Nat × List Nat) → List Nat → Option (List Nat)
  | [], _ => none
  | kv :: kvs, z => if kv.1 = z then some kv.2 else kdGet kvs z
theorem kd_find {P : Params} (z : List Nat) : ∀ {es : List DictEntry} {kvs : List (List Nat × List Nat)}, KdVals P es kvs → (match kdGet kvs z with
    | some v => ∃ e t, es.find? (fun e => e.key.isStr ⟨z.toArray⟩) = some e ∧ e.val = .str ⟨v.toArray⟩ t
    | none => es.find? (fun e => e.key.isStr ⟨z.toArray⟩) = none) ∧ es.any (fun e => e.refKey) = false
  | [], [], _ => ⟨rfl, rfl⟩
  | e :: es, kv :: kvs, ⟨⟨t, h1, h2⟩, ⟨t2, h4⟩, h3⟩ => by
    obtain ⟨i1, i2⟩ := kd_find z h3
    have hs : e.key.isStr ⟨z.toArray⟩ = decide (kv.1 = z) := by
      rw [h1]
      show ((⟨kv.1.toArray⟩ : Str) == ⟨z.toArray⟩) = _
      rw [str_beq, Bool.eq_iff_iff]; simp
    refine ⟨?_, ?_⟩
    · unfold kdGet
      by_cases h : kv.1 = z
      · rw [if_pos h]
        exact ⟨e, t2, by rw [List.find?_cons_of_pos (by rw [hs]; simp [h])], h4⟩
      · rw [if_neg h, List.find?_cons_of_neg (by rw [hs]; simp [h])]
        exact i1
    · rw [List.any_cons, i2, Bool.or_false]
      unfold DictEntry.refKey
      rw [h1]
  | [], _ :: _, h => h.elim
  | _ :: _, [], h => h.elim
structure GlKd (K : PySem.W.Frag) (mg : Str → Option Value) (w : World) (x : Str) (kvs : List (List Nat × List Nat)) : Prop where
  ex : ∃ d es n, mg x = some (.ref d) ∧ K.lookup d = some ⟨.type "dict", none, .dict es n, #[]⟩ ∧ (d == sysModules) = false ∧ KdVals w.params es.toList kvs
theorem GlKd.get {K : PySem.W.Frag} {mg : Str → Option Value} {w : World} {x : Str} {kvs : List (List Nat × List Nat)} (G : GlKd K mg w x kvs) : ∃ d es n, mg x = some (.ref d) ∧ KDict K w d es n ∧ ∀ z : List Nat, match kdGet kvs z with
    | some v => ∃ t, PySem.W.nsIn K d ⟨z.toArray⟩ = some (some (.str ⟨v.toArray⟩ t))
    | none => PySem.W.nsIn K d ⟨z.toArray⟩ = some none := by
  obtain ⟨d, es, n, h1, h2, h3, h4⟩ := G.ex
  refine ⟨d, es, n, h1, ⟨h2, h4.lit, h3⟩, fun z => ?_⟩
  obtain ⟨i1, i2⟩ := kd_find z h4
  unfold PySem.W.nsIn
  rw [h2]
  cases hz : kdGet kvs z with
  | some v =>
    rw [hz] at i1
    obtain ⟨e, t, e1, e2⟩ := i1
    refine ⟨t, ?_⟩
    show (match es.toList.find? (fun e => e.key.isStr ⟨z.toArray⟩) with
      | some e => some (some e.val)
      | none => if es.toList.any (fun e => e.refKey) = true then none else some none) = _
    rw [e1, ← e2]
  | none =>
    rw [hz] at i1
    show (match es.toList.find? (fun e => e.key.isStr ⟨z.toArray⟩) with
      | some e => some (some e.val)
      | none => if es.toList.any (fun e => e.refKey) = true then none else some none) = _
    rw [i1, i2]; rfl
def inK (kvs : List (List Nat × List Nat)) : D → Option D
  | .str z => some (.bl (kdGet kvs z).isSome)
  | _ => none
def ninK (kvs : List (List Nat × List Nat)) : D → Option D
  | .str z => some (.bl (!(kdGet kvs z).isSome))
  | _ => none
def ixK (kvs : List (List Nat × List Nat)) : D → Option D
  | .str z => (kdGet kvs z).map .str
  | _ => none
section
variable {X : Cx} {cl : Nat → Addr} {E : En} {e a b : Expr} {pos p : Pos} {m : RM} {x : Str} {kvs : List (List Nat × List Nat)}
end
end LI
namespace LI
open PySem L2
def binVG (f : D → D → Option D) (i : Nat) (g : GM) : GM := fun ρ => (vM i ρ).bind fun _ => (g ρ).bind fun r => (vM i r.2).bind fun x => (f x r.1).map fun d => (d, r.2)
section
variable {X : Cx} {cl : Nat → Addr} {E : En} {a b : Expr} {pos p : Pos} {g : GM} {r : R2} {f : D → D → Option D}
end
end LI
namespace LI
open PySem L2

def rng1D : D → Option (List D) := fun d => match d with | .int j => if -(2 ^ 62) ≤ j ∧ j < 2 ^ 62 then some (upD 0 j.toNat) else none | _ => none
def rng2D : D → D → Option (List D) := fun x y => match x, y with | .int i, .int j => if -(2 ^ 62) ≤ i ∧ i < 2 ^ 62 ∧ -(2 ^ 62) ≤ j ∧ j < 2 ^ 62 then some (upD i (j - i).toNat) else none | _, _ => none
section
variable {ρ : List D} {i n : Nat} {d : D} {m ma mb mc : RM} {ms : AM} {f : D → D → Option D} {g : D → Option D} {F : FM}
@[simp] theorem ev_v : vM i ρ = (ρ[i]?).bind fun d => if notGone d = true then some d else none := (rfl)
@[simp] theorem ev_k : kM d ρ = some d := (rfl)
@[simp] theorem ev_m2 : m2 f ma mb ρ = (ma ρ).bind fun x => (mb ρ).bind fun y => f x y := (rfl)
@[simp] theorem ev_m1 : m1 g ma ρ = (ma ρ).bind g := (rfl)
@[simp] theorem ev_nil : nilM ρ = some [] := (rfl)
@[simp] theorem ev_cons : consM m ms ρ = (m ρ).bind fun d => (ms ρ).map fun ds => d :: ds := (rfl)
@[simp] theorem ev_tup : tupM ms ρ = (ms ρ).bind fun ds => if frzL ds = true ∧ ds.length ≤ LIM then some (.tup ds) else none := (rfl)
@[simp] theorem ev_lst : lstM ms ρ = (ms ρ).bind fun ds => if frzL ds = true ∧ ds.length ≤ LIM then some (.lst true ds) else none := (rfl)
@[simp] theorem ev_call : callM F ms ρ = (ms ρ).bind fun ds => (F (iceL ds)).bind fun r => if frzL ds = true ∨ noIce r.1 = true then some r.1 else none := (rfl)
@[simp] theorem ev_callV : callVM F ms ρ = (ms ρ).bind fun ds => (F (iceL ds)).map (·.1) := (rfl)
@[simp] theorem ev_upF : upF m ρ = (m ρ).map fun d => (d, ρ) := (rfl)
@[simp] theorem ev_upR : upR m ρ = (m ρ).bind fun d => if frz d = true then some (d, ρ) else none := (rfl)
@[simp] theorem ev_cold : coldM m ρ = (m ρ).map ice := (rfl)
@[simp] theorem ev_fr : frM m ρ = (m ρ).bind fun d => if frz d = true then some d else none := (rfl)
@[simp] theorem ev_tru : truM m ρ = (m ρ).bind truD := (rfl)
@[simp] theorem ev_bM : bM m ρ = (m ρ).bind fun d => match d with | .bl b => some b | _ => none := (rfl)
@[simp] theorem ev_notB {b : BM} : notB b ρ = (b ρ).map not := (rfl)
@[simp] theorem ev_andB {a b : BM} : andB a b ρ = (a ρ).bind fun k => if k = true then b ρ else some false := (rfl)
@[simp] theorem ev_orB {a b : BM} : orB a b ρ = (a ρ).bind fun k => if k = true then some true else b ρ := (rfl)
@[simp] theorem ev_notD : notD m ρ = ((m ρ).bind truD).map fun k => .bl (!k) := (rfl)
@[simp] theorem ev_andM : andM ma mb ρ = (bM ma ρ).bind fun k => if k = true then mb ρ else some (.bl false) := (rfl)
@[simp] theorem ev_orM : orM ma mb ρ = (bM ma ρ).bind fun k => if k = true then some (.bl true) else mb ρ := (rfl)
@[simp] theorem ev_iteM {b : BM} : iteM b ma mb ρ = (b ρ).bind fun k => if k = true then ma ρ else mb ρ := (rfl)
@[simp] theorem ev_ch {f g : D → D → Option D} : chM f g ma mb mc ρ = (ma ρ).bind fun x => (mb ρ).bind fun y => (f x y).bind fun z => match z with | .bl true => (mc ρ).bind fun u => g y u | .bl false => some (.bl false) | _ => none := (rfl)
@[simp] theorem ev_mA {f : List D → Option D} : mA f ms ρ = (ms ρ).bind f := (rfl)
@[simp] theorem ev_isi {ty : String} : isiM ty m ρ = (m ρ).bind fun d => (tyD d).bind fun t => (kitB t ty).map .bl := (rfl)
@[simp] theorem ev_noM : noM ρ = some none := (rfl)
@[simp] theorem ev_soM : soM m ρ = (m ρ).bind fun d => match d with | .int i => some (some i) | _ => none := (rfl)
@[simp] theorem ev_slM {lo hi : OM} : slM m lo hi ρ = (m ρ).bind fun d => (lo ρ).bind fun l => (hi ρ).bind fun h => slD l h d := (rfl)
@[simp] theorem ev_it : itM m ρ = (m ρ).bind itemsD := (rfl)
@[simp] theorem ev_itV : itV m ρ = (m ρ).bind itemsV := (rfl)
@[simp] theorem ev_disp {mk mv : AM} : dispM mk mv ρ = (mk ρ).bind fun kds => (mv ρ).bind fun vds => (keyDs kds).bind fun ks => if ks.Nodup ∧ frzL vds = true ∧ ks.length ≤ 15 ∧ ks.length = vds.length then some (.dK true ks vds) else none := (rfl)
@[simp] theorem keyDs_nil : keyDs [] = some [] := (rfl)
@[simp] theorem keyDs_cons {d : D} {ds : List D} : keyDs (d :: ds) = (keyD d).bind fun k => (keyDs ds).map fun ks => k :: ks := (rfl)
@[simp] theorem keyD_int {i : Int} : keyD (.int i) = some (.inl i) := (rfl)
@[simp] theorem keyD_str {s : List Nat} : keyD (.str s) = some (.inr ⟨s.toArray⟩) := (rfl)
@[simp] theorem ev_enumS : enumSM m ρ = (m ρ).bind fun d => match d with | .str s => some (enumFrom 0 (strsD s)) | d => (lstD d).map (enumFrom 0) := (rfl)
@[simp] theorem ev_binV {g : GM} : binVG f i g ρ = (vM i ρ).bind fun _ => (g ρ).bind fun r => (vM i r.2).bind fun x => (f x r.1).map fun d => (d, r.2) := (rfl)
@[simp] theorem ev_rng1 : rng1M m ρ = (m ρ).bind rng1D := (rfl)
@[simp] theorem ev_rng2 : rng2M ma mb ρ = (ma ρ).bind fun x => (mb ρ).bind fun y => rng2D x y := (rfl)
@[simp] theorem ev_enum : enumM m ρ = (m ρ).bind fun d => (lstD d).map (enumFrom 0) := (rfl)
@[simp] theorem ev_zip : zipM ma mb ρ = (ma ρ).bind fun d1 => (mb ρ).bind fun d2 => (lstD d1).bind fun a => (lstD d2).map fun b => zipD a b := (rfl)
@[simp] theorem ev_rev : revM m ρ = (m ρ).bind fun d => (lstD d).map List.reverse := (rfl)
@[simp] theorem ev_comp {vs : List Nat} {f : TgM} {mc : BM} : compM vs f mc m ms ρ = (ms ρ).bind fun ds => if ds.length ≤ LIM then (compL f mc m (goneAt ρ vs) ds).map (.lst true) else none := (rfl)
@[simp] theorem ev_yes : yesB ρ = some true := (rfl)
@[simp] theorem ev_name : nameT i d ρ = some (ρ.set i d) := (rfl)
@[simp] theorem ev_tupT {f : List D → List D → Option (List D)} {ds : List D} : tupT f (.tup ds) ρ = f ds ρ := (rfl)
@[simp] theorem ev_consT {f : TgM} {g : List D → List D → Option (List D)} {ds : List D} : consT f g (d :: ds) ρ = (f d ρ).bind fun ρ => g ds ρ := (rfl)
@[simp] theorem ev_nilT : nilT [] ρ = some ρ := (rfl)
@[simp] theorem ev_gone0 : goneAt ρ [] = ρ := (rfl)
@[simp] theorem ev_gone1 {v : Nat} {vs : List Nat} : goneAt ρ (v :: vs) = (goneAt ρ vs).set v .gone := (rfl)
@[simp] theorem ev_vLget : (vL i).get ρ = (ρ[i]?).bind fun d => if notGone d = true then some d else none := (rfl)
@[simp] theorem ev_vLput : (vL i).put ρ d = ρ.set i d := (rfl)
@[simp] theorem ev_mv {L : Lens} : mvM L ρ = (L.get ρ).bind fun d => some (d, L.put ρ .gone) := (rfl)
@[simp] theorem ev_app {L : Lens} : appL L m ρ = (L.get ρ).bind fun d => (m ρ).bind fun y => match d with | .lst true ds => if ds.length < LIM then some (.non, L.put ρ (.lst true (ds ++ [y]))) else none | _ => none := (rfl)
@[simp] theorem ev_iceAt : iceAt i ρ = match ρ[i]? with | some d => ρ.set i (ice d) | none => ρ := (rfl)
@[simp] theorem ev_spNx {ρ' : List D} : maskL [] ρ' = [] := (rfl)
@[simp] theorem ev_mask {b : Bool} {bs : List Bool} {ds : List D} : maskL (b :: bs) (d :: ds) = (if b = true then d else .gone) :: maskL bs ds := (rfl)
@[simp] theorem ev_mask0 {b : Bool} {bs : List Bool} : maskL (b :: bs) [] = .gone :: maskL bs [] := (rfl)
end
@[simp] theorem ng_non : notGone .non = true := (rfl)
@[simp] theorem ng_gone : notGone .gone = false := (rfl)
@[simp] theorem ng_bl {b} : notGone (.bl b) = true := (rfl)
@[simp] theorem ng_int {b} : notGone (.int b) = true := (rfl)
@[simp] theorem ng_str {b} : notGone (.str b) = true := (rfl)
@[simp] theorem ng_scr {b} : notGone (.scr b) = true := (rfl)
@[simp] theorem ng_kst {b} : notGone (.kst b) = true := (rfl)
@[simp] theorem ng_tup {b} : notGone (.tup b) = true := (rfl)
@[simp] theorem ng_lst {o b} : notGone (.lst o b) = true := (rfl)
@[simp] theorem ng_dK {o k b} : notGone (.dK o k b) = true := (rfl)
@[simp] theorem ng_dT {o k b} : notGone (.dT o k b) = true := (rfl)
@[simp] theorem ng_dN {o k b} : notGone (.dN o k b) = true := (rfl)
@[simp] theorem ng_obj {o k f b} : notGone (.obj o k f b) = true := (rfl)
@[simp] theorem fl_non : isFlat .non = true := (rfl)
@[simp] theorem fl_bl {b} : isFlat (.bl b) = true := (rfl)
@[simp] theorem fl_int {b} : isFlat (.int b) = true := (rfl)
@[simp] theorem fl_str {b} : isFlat (.str b) = true := (rfl)

@[simp] theorem inK_str {kvs z} : inK kvs (.str z) = some (.bl (kdGet kvs z).isSome) := (rfl)
@[simp] theorem ninK_str {kvs z} : ninK kvs (.str z) = some (.bl (!(kdGet kvs z).isSome)) := (rfl)
@[simp] theorem ixK_str {kvs z} : ixK kvs (.str z) = (kdGet kvs z).map D.str := (rfl)
@[simp] theorem fz_gone : frz .gone = true := (rfl)
@[simp] theorem fz_non : frz .non = true := (rfl)
@[simp] theorem fz_bl {b} : frz (.bl b) = true := (rfl)
@[simp] theorem fz_int {b} : frz (.int b) = true := (rfl)
@[simp] theorem fz_str {b} : frz (.str b) = true := (rfl)
@[simp] theorem fz_scr {b} : frz (.scr b) = true := (rfl)
@[simp] theorem fz_kst {b} : frz (.kst b) = true := (rfl)
@[simp] theorem fz_tup {b} : frz (.tup b) = frzL b := (rfl)
@[simp] theorem fz_lst {o b} : frz (.lst o b) = (!o && frzL b) := (rfl)
@[simp] theorem fz_dK {o k b} : frz (.dK o k b) = (!o && frzL b) := (rfl)
@[simp] theorem fz_dT {o k b} : frz (.dT o k b) = (!o && frzL b) := (rfl)
@[simp] theorem fz_dN {o k b} : frz (.dN o k b) = (!o && frzL b) := (rfl)
@[simp] theorem fz_obj {o k f b} : frz (.obj o k f b) = (!o && frzL b) := (rfl)
@[simp] theorem fzL_nil : frzL [] = true := (rfl)
@[simp] theorem fzL_cons {d ds} : frzL (d :: ds) = (frz d && frzL ds) := (rfl)
@[simp] theorem frzL_map {α : Type} {f : α → D} {xs : List α} : frzL (xs.map f) = true ↔ ∀ x ∈ xs, frz (f x) = true := by simp [frzL_iff]
@[simp] theorem frzL_app {a b : List D} : frzL (a ++ b) = (frzL a && frzL b) := by
  rw [Bool.eq_iff_iff]; simp only [frzL_iff, List.mem_append, Bool.and_eq_true]
  exact ⟨fun h => ⟨fun d q => h d (.inl q), fun d q => h d (.inr q)⟩, fun h d q => q.elim (h.1 d) (h.2 d)⟩
@[simp] theorem ice_gone : ice .gone = .gone := (rfl)
@[simp] theorem ice_non : ice .non = .non := (rfl)
@[simp] theorem ice_bl {b} : ice (.bl b) = .bl b := (rfl)
@[simp] theorem ice_int {b} : ice (.int b) = .int b := (rfl)
@[simp] theorem ice_str {b} : ice (.str b) = .str b := (rfl)
@[simp] theorem ice_scr {b} : ice (.scr b) = .scr b := (rfl)
@[simp] theorem ice_kst {b} : ice (.kst b) = .kst b := (rfl)
@[simp] theorem ice_tup {b} : ice (.tup b) = .tup (iceL b) := (rfl)
@[simp] theorem ice_lst {o b} : ice (.lst o b) = .lst false (iceL b) := (rfl)
@[simp] theorem ice_dK {o k b} : ice (.dK o k b) = .dK false k (iceL b) := (rfl)
@[simp] theorem ice_dT {o k b} : ice (.dT o k b) = .dT false k (iceL b) := (rfl)
@[simp] theorem ice_dN {o k b} : ice (.dN o k b) = .dN false k (iceL b) := (rfl)
@[simp] theorem ice_obj {o k f b} : ice (.obj o k f b) = .obj false k f (iceL b) := (rfl)
@[simp] theorem iceL_nil : iceL [] = [] := (rfl)
@[simp] theorem iceL_cons {d ds} : iceL (d :: ds) = ice d :: iceL ds := (rfl)
theorem iceL_eq : ∀ {ds : List D}, iceL ds = ds.map ice
  | [] => rfl
  | d :: ds => by simp [iceL_eq (ds := ds)]
mutual
theorem ice_frz : ∀ d : D, frz d = true → ice d = d
  | .gone, _ | .non, _ | .bl _, _ | .int _, _ | .str _, _ | .scr _, _ | .kst _, _ | .key _, _ => rfl
  | .tup ds, h => by rw [ice_tup, iceL_frz ds h]
  | .lst true ds, h => by simp at h
  | .lst false ds, h => by rw [ice_lst, iceL_frz ds (by simpa using h)]
  | .dK true k ds, h => by simp at h
  | .dK false k ds, h => by rw [ice_dK, iceL_frz ds (by simpa using h)]
  | .dT true k ds, h => by simp at h
  | .dT false k ds, h => by rw [ice_dT, iceL_frz ds (by simpa using h)]
  | .dN true k ds, h => by simp at h
  | .dN false k ds, h => by rw [ice_dN, iceL_frz ds (by simpa using h)]
  | .obj true k f ds, h => by simp at h
  | .obj false k f ds, h => by rw [ice_obj, iceL_frz ds (by simpa using h)]
theorem iceL_frz : ∀ ds : List D, frzL ds = true → iceL ds = ds
  | [], _ => rfl
  | d :: ds, h => by
    simp at h
    rw [iceL_cons, ice_frz d h.1, iceL_frz ds h.2]
end
@[simp] theorem iceL_map {α : Type} {f : α → D} {xs : List α} : iceL (xs.map f) = xs.map fun x => ice (f x) := by rw [iceL_eq, List.map_map]; rfl
@[simp] theorem iceL_app {a b : List D} : iceL (a ++ b) = iceL a ++ iceL b := by simp [iceL_eq]
mutual
theorem toP_ice : ∀ d : D, toP (ice d) = toP d
  | .gone | .non | .bl _ | .int _ | .str _ | .scr _ | .kst _ | .key _ => rfl
  | .tup ds => by simp only [ice_tup, toP, toPL_iceL ds]
  | .lst _ ds => by simp only [ice_lst, toP, toPL_iceL ds]
  | .dK _ k ds => rfl
  | .dT _ k ds => rfl
  | .dN _ k ds => rfl
  | .obj _ k f ds => rfl
theorem toPL_iceL : ∀ ds : List D, toPL (iceL ds) = toPL ds
  | [] => rfl
  | d :: ds => by simp only [iceL_cons, toPL, toP_ice d, toPL_iceL ds]
end
def good (n : Nat) (d : D) : Bool := match toP d with
  | some p => p.canLay0 && decide (p.depth ≤ n)
  | none => false
@[simp] theorem good_non {n} : good n .non = true := by simp [good, toP, PyData.canLay0, PyData.depth]
@[simp] theorem good_bl {n b} : good n (.bl b) = true := by simp [good, toP, PyData.canLay0, PyData.depth]
@[simp] theorem good_int {n b} : good n (.int b) = true := by simp [good, toP, PyData.canLay0, PyData.depth]
@[simp] theorem eqB_int {a b : Int} : eqB (.int a) (.int b) = some (a == b) := by simp [eqB, toP, SeqAt.shaped, PyData.canLay0, PyData.depth, PyData.eqv]
@[simp] theorem eqD_int {a b : Int} : eqD (.int a) (.int b) = some (.bl (a == b)) := by simp [eqD]
@[simp] theorem neD_int {a b : Int} : neD (.int a) (.int b) = some (.bl (a != b)) := by simp [neD, bne]
@[simp] theorem good_str {n : Nat} {b : List Nat} : good n (.str b) = b.all (fun k => decide (k < 0x110000)) := by
  simp [good, toP, PyData.canLay0, PyData.depth, PyData.strOk]
@[simp] theorem add_int {a b : Int} : addD (.int a) (.int b) = some (.int (a + b)) := (rfl)
@[simp] theorem sub_int {a b : Int} : subD (.int a) (.int b) = some (.int (a - b)) := (rfl)
@[simp] theorem add_str {a b : List Nat} : addD (.str a) (.str b) = if a.length + b.length ≤ LIM then some (.str (a ++ b)) else none := (rfl)
@[simp] theorem add_lst {o p : Bool} {a b : List D} : addD (.lst o a) (.lst p b) = if (frzL a && frzL b) = true ∧ a.length + b.length ≤ LIM then some (.lst true (a ++ b)) else none := (rfl)
@[simp] theorem add_tup {a b : List D} : addD (.tup a) (.tup b) = if (frzL a && frzL b) = true ∧ a.length + b.length ≤ LIM then some (.tup (a ++ b)) else none := (rfl)
@[simp] theorem mul_int {a b : Int} : mulD (.int a) (.int b) = if (-(2 ^ 64) < a ∧ a < 2 ^ 64) ∨ (-(2 ^ 64) < b ∧ b < 2 ^ 64) then some (.int (a * b)) else none := (rfl)
@[simp] theorem mul_lst {o : Bool} {a : List D} {k : Int} : mulD (.lst o a) (.int k) = if frzL a = true ∧ k ≤ 1000000 ∧ -1000000 ≤ k ∧ a.length * k.toNat ≤ LIM then some (.lst true (List.replicate k.toNat a).flatten) else none := (rfl)
@[simp] theorem mul_str {a : List Nat} {k : Int} : mulD (.str a) (.int k) = if k ≤ 1000000 ∧ -1000000 ≤ k ∧ a.length * k.toNat ≤ LIM then some (.str (List.replicate k.toNat a).flatten) else none := (rfl)
@[simp] theorem fdiv_int {a b : Int} : fdivD (.int a) (.int b) = if 0 < b ∧ b.natAbs.log2 < 9000 then some (.int (a / b)) else none := (rfl)
@[simp] theorem mod_int {a b : Int} : modD (.int a) (.int b) = if 0 < b then some (.int (a % b)) else none := (rfl)
@[simp] theorem pow_int {a b : Int} : powD (.int a) (.int b) = if 0 ≤ b ∧ b ≤ 1000000 ∧ a.natAbs < 2 ^ 64 then some (.int (a ^ b.toNat)) else none := (rfl)
@[simp] theorem neg_int {a : Int} : negD (.int a) = some (.int (-a)) := (rfl)
@[simp] theorem lt_int {a b : Int} : ltD (.int a) (.int b) = some (.bl (decide (a < b))) := (rfl)
@[simp] theorem le_int {a b : Int} : leD (.int a) (.int b) = some (.bl (decide (a ≤ b))) := (rfl)
@[simp] theorem gt_int {a b : Int} : gtD (.int a) (.int b) = some (.bl (decide (b < a))) := (rfl)
@[simp] theorem ge_int {a b : Int} : geD (.int a) (.int b) = some (.bl (decide (b ≤ a))) := (rfl)
@[simp] theorem lt_str {a b : List Nat} : ltD (.str a) (.str b) = some (.bl (decide (a < b))) := (rfl)
@[simp] theorem le_str {a b : List Nat} : leD (.str a) (.str b) = some (.bl (!decide (b < a))) := (rfl)
@[simp] theorem ix_lst {o : Bool} {ds : List D} {i : Int} : ixD (.lst o ds) (.int i) = atI ds i := (rfl)
@[simp] theorem ix_tup {ds : List D} {i : Int} : ixD (.tup ds) (.int i) = atI ds i := (rfl)
@[simp] theorem ix_scr {ds : List Int} {i : Int} : ixD (.scr ds) (.int i) = (atI ds i).map .int := (rfl)
@[simp] theorem ix_str {s : List Nat} {i : Int} : ixD (.str s) (.int i) = if s.length ≤ LIM then (atI s i).map fun k => .str [k] else none := (rfl)
theorem atI_at {α : Type} {xs : List α} {i : Int} (h : 0 ≤ i) (hl : i.toNat < xs.length) : atI xs i = some (xs[i.toNat]) := by
  unfold atI ixN
  have h1 : ¬ i < 0 := by omega
  have h2 : i < xs.length := by omega
  simp [h1, h, h2, hl]
@[simp] theorem atI_0 {α : Type} {x : α} {xs : List α} : atI (x :: xs) 0 = some x := by rw [atI_at (by omega) (by simp)]; rfl
@[simp] theorem atI_1 {α : Type} {x y : α} {xs : List α} : atI (x :: y :: xs) 1 = some y := by rw [atI_at (by omega) (by simp)]; rfl
@[simp] theorem atI_2 {α : Type} {x y z : α} {xs : List α} : atI (x :: y :: z :: xs) 2 = some z := by rw [atI_at (by omega) (by simp)]; rfl
@[simp] theorem atI_3 {α : Type} {x y z u : α} {xs : List α} : atI (x :: y :: z :: u :: xs) 3 = some u := by rw [atI_at (by omega) (by simp)]; rfl
@[simp] theorem atI_4 {α : Type} {x y z u v : α} {xs : List α} : atI (x :: y :: z :: u :: v :: xs) 4 = some v := by rw [atI_at (by omega) (by simp)]; rfl
@[simp] theorem len_tup {ds : List D} : lenD [.tup ds] = some (.int ds.length) := (rfl)
@[simp] theorem len_lst {o : Bool} {ds : List D} : lenD [.lst o ds] = some (.int ds.length) := (rfl)
@[simp] theorem len_scr {ds : List Int} : lenD [.scr ds] = some (.int ds.length) := (rfl)
@[simp] theorem len_dK {o k ds} : lenD [.dK o k ds] = some (.int k.length) := (rfl)
@[simp] theorem len_str {s : List Nat} : lenD [.str s] = if s.length ≤ LIM then some (.int s.length) else none := (rfl)
@[simp] theorem max2_int {i j : Int} : max2D [.int i, .int j] = some (.int (if j > i then j else i)) := (rfl)
@[simp] theorem min2_int {i j : Int} : min2D [.int i, .int j] = some (.int (if j < i then j else i)) := (rfl)
@[simp] theorem intD_int {i : Int} : intD [.int i] = some (.int i) := (rfl)
@[simp] theorem intD_bl {b : Bool} : intD [.bl b] = some (.int (if b then 1 else 0)) := (rfl)
@[simp] theorem sum_lst {o : Bool} {ds : List D} : sumD [.lst o ds] = (intsD ds).map fun is => .int is.sum := (rfl)
@[simp] theorem ints_nil : intsD [] = some [] := (rfl)
@[simp] theorem ints_cons {i : Int} {ds : List D} : intsD (.int i :: ds) = (intsD ds).map fun is => i :: is := (rfl)
@[simp] theorem ints_map {α : Type} {f : α → Int} : ∀ {xs : List α}, intsD (xs.map fun x => .int (f x)) = some (xs.map f)
  | [] => rfl
  | x :: xs => by simp [ints_map (xs := xs)]
@[simp] theorem list_lst {o : Bool} {ds : List D} : listD [.lst o ds] = if frzL ds = true then some (.lst true ds) else none := (rfl)
@[simp] theorem list_tup {ds : List D} : listD [.tup ds] = if frzL ds = true then some (.lst true ds) else none := (rfl)
@[simp] theorem list_scr {ns : List Int} : listD [.scr ns] = some (.lst true (ns.map .int)) := (rfl)
@[simp] theorem tru_bl {b : Bool} : truD (.bl b) = some b := (rfl)
@[simp] theorem tru_non : truD .non = some false := (rfl)
@[simp] theorem tru_int {i : Int} : truD (.int i) = some (i != 0) := (rfl)
@[simp] theorem tru_str {s : List Nat} : truD (.str s) = if s.length ≤ LIM then some (!s.isEmpty) else none := (rfl)
@[simp] theorem tru_tup {s : List D} : truD (.tup s) = some (!s.isEmpty) := (rfl)
@[simp] theorem tru_lst {o : Bool} {s : List D} : truD (.lst o s) = some (!s.isEmpty) := (rfl)
@[simp] theorem tru_scr {s : List Int} : truD (.scr s) = some (!s.isEmpty) := (rfl)
@[simp] theorem ty_non : tyD .non = some "NoneType" := (rfl)
@[simp] theorem ty_bl {b} : tyD (.bl b) = some "bool" := (rfl)
@[simp] theorem ty_int {b} : tyD (.int b) = some "int" := (rfl)
@[simp] theorem ty_str {b} : tyD (.str b) = some "str" := (rfl)
@[simp] theorem ty_scr {b} : tyD (.scr b) = some "list" := (rfl)
@[simp] theorem ty_lst {o b} : tyD (.lst o b) = some "list" := (rfl)
@[simp] theorem ty_tup {b} : tyD (.tup b) = some "tuple" := (rfl)
@[simp] theorem ty_dK {o k b} : tyD (.dK o k b) = some "dict" := (rfl)
@[simp] theorem ty_dT {o k b} : tyD (.dT o k b) = some "dict" := (rfl)
@[simp] theorem in_1 {k : Nat} {z : List Nat} : inB (.str [k]) (.str z) = some (decide (k ∈ z)) := (rfl)
@[simp] theorem inD_eq {x y : D} : inD x y = (inB x y).map .bl := (rfl)
@[simp] theorem ninD_eq {x y : D} : ninD x y = (inB x y).map fun k => .bl (!k) := (rfl)
@[simp] theorem itemsV_lst {o : Bool} {ds : List D} : itemsV (.lst o ds) = if frzL ds = true then some ds else none := (rfl)
@[simp] theorem itemsV_tup {ds : List D} : itemsV (.tup ds) = if frzL ds = true then some ds else none := (rfl)
@[simp] theorem itemsV_scr {ds : List Int} : itemsV (.scr ds) = some (ds.map .int) := (rfl)
@[simp] theorem itemsV_str {s : List Nat} : itemsV (.str s) = some (s.map fun k => .str [k]) := (rfl)
@[simp] theorem items_lst {ds : List D} : itemsD (.lst false ds) = if frzL ds = true then some ds else none := (rfl)
@[simp] theorem items_tup {ds : List D} : itemsD (.tup ds) = if frzL ds = true then some ds else none := (rfl)
@[simp] theorem items_scr {ds : List Int} : itemsD (.scr ds) = some (ds.map .int) := (rfl)
@[simp] theorem items_str {s : List Nat} : itemsD (.str s) = some (s.map fun k => .str [k]) := (rfl)
@[simp] theorem lstD_lst {ds : List D} : lstD (.lst false ds) = if frzL ds = true then some ds else none := (rfl)
@[simp] theorem lstD_scr {ds : List Int} : lstD (.scr ds) = some (ds.map .int) := (rfl)
@[simp] theorem sl_lst {o : Bool} {lo hi : Option Int} {ds : List D} : slD lo hi (.lst o ds) = if frzL ds = true then some (.lst true (cutL ds lo hi)) else none := (rfl)
@[simp] theorem sl_tup {lo hi : Option Int} {ds : List D} : slD lo hi (.tup ds) = if frzL ds = true then some (.tup (cutL ds lo hi)) else none := (rfl)
@[simp] theorem sl_scr {lo hi : Option Int} {ds : List Int} : slD lo hi (.scr ds) = some (.lst true ((cutL ds lo hi).map .int)) := (rfl)
@[simp] theorem sl_str {lo hi : Option Int} {ds : List Nat} : slD lo hi (.str ds) = if ds.length ≤ LIM then some (.str (cutL ds lo hi)) else none := (rfl)
theorem cut_to {α : Type} {xs : List α} {k : Int} (h : 0 ≤ k) : cutL xs none (some k) = xs.take k.toNat := by
  have : HT.sIx xs.length xs.length (some k) = min k.toNat xs.length := by
    unfold HT.sIx
    split <;> rename_i e <;> cases e <;> first | omega | (simp; omega) | skip
  unfold cutL
  rw [this]
  have e0 : HT.sIx xs.length 0 none = 0 := rfl
  rw [e0, List.drop_zero, Nat.sub_zero]
  rcases Nat.le_total k.toNat xs.length with q | q
  · rw [Nat.min_eq_left q]
  · rw [Nat.min_eq_right q, List.take_length, List.take_of_length_le q]
theorem cut_from {α : Type} {xs : List α} {k : Int} (h : 0 ≤ k) : cutL xs (some k) none = xs.drop k.toNat := by
  have : HT.sIx xs.length 0 (some k) = min k.toNat xs.length := by
    unfold HT.sIx
    split <;> rename_i e <;> cases e <;> first | omega | (simp; omega) | skip
  unfold cutL
  rw [this]
  have e0 : HT.sIx xs.length xs.length none = xs.length := rfl
  rw [e0]
  rcases Nat.le_total k.toNat xs.length with q | q
  · rw [Nat.min_eq_left q]; exact List.take_of_length_le (by simp)
  · rw [Nat.min_eq_right q]; simp [List.drop_of_length_le q]
theorem cut_fromto {α : Type} {xs : List α} {k j : Int} (h : 0 ≤ k) (h2 : 0 ≤ j) : cutL xs (some k) (some j) = (xs.drop k.toNat).take (j.toNat - k.toNat) := by
  have e1 : HT.sIx xs.length 0 (some k) = min k.toNat xs.length := by
    unfold HT.sIx
    split <;> rename_i e <;> cases e <;> first | omega | (simp; omega) | skip
  have e2 : HT.sIx xs.length xs.length (some j) = min j.toNat xs.length := by
    unfold HT.sIx
    split <;> rename_i e <;> cases e <;> first | omega | (simp; omega) | skip
  unfold cutL
  rw [e1, e2]
  rcases Nat.le_total k.toNat xs.length with q | q
  · rw [Nat.min_eq_left q]
    rcases Nat.le_total j.toNat xs.length with q2 | q2
    · rw [Nat.min_eq_left q2]
    · rw [Nat.min_eq_right q2, List.take_of_length_le (by simp), List.take_of_length_le (by simp; omega)]
  · rw [Nat.min_eq_right q]; simp [List.drop_of_length_le q]

theorem seq_nx {a b : SM} {ρ ρ1 : List D} (h : a ρ = some (.nx, ρ1)) : seqM a b ρ = b ρ1 := by simp [seqM, h]
theorem seq_rt {a b : SM} {ρ ρ1 : List D} {d : D} (h : a ρ = some (.rt d, ρ1)) : seqM a b ρ = some (.rt d, ρ1) := by simp [seqM, h]
theorem run_eq {n : Nat} {kp : List Bool} {m : SM} {ds ρ' : List D} {d : D} (hl : ds.length = kp.length) (h : m (ds ++ List.replicate (n - ds.length) .gone) = some (.rt d, ρ')) : runM n kp m ds = some (d, maskL kp ρ') := by unfold runM; rw [if_pos hl, h]; rfl
section
variable {f : TgM} {body : SM} {kl : List Nat}
end

end LI
namespace LI
open PySem L2

theorem upD_eq (lo : Int) (n : Nat) : upD lo n = (List.range n).map fun (k : Nat) => D.int (lo + (k : Int)) := rfl
theorem for_at {f : TgM} {body : SM} {kl : List Nat} {ms : AM} {ρ ds : List D} (h : ms ρ = some ds) : forM f body kl ms ρ = forL f body kl ds ρ := by
  unfold forM; rw [h]; rfl
def cellF : FM := runM 2 [true, true] (seqM (ifM (bM (m2 ltD (vM 1) (mA lenD (consM (vM 0) nilM)))) (retM (upR (m2 ixD (vM 0) (vM 1)))) skipM)
  (retM (upF (kM (.int 0)))))
theorem cell_eq (ns : List Int) (k : Nat) : cellF [.scr ns, .int k] = some (.int (ns.getD k 0), [.scr ns, .int k]) := by
  unfold cellF
  refine run_eq (ρ' := [.scr ns, .int k]) rfl ?_
  by_cases h : k < ns.length
  · refine seq_rt ?_
    simp -implicitDefEqProofs [ifM, retM, h, atI_at, List.getD_eq_getElem?_getD]
  · rw [seq_nx (ρ1 := [.scr ns, .int k]) (by simp -implicitDefEqProofs [ifM, skipM, h])]
    simp -implicitDefEqProofs [retM, h, List.getD_eq_getElem?_getD]
theorem upD0 (n : Nat) : upD 0 n = (List.range n).map fun (k : Nat) => D.int (k : Int) := by
  rw [upD_eq]; simp
theorem atI_nat {α : Type} {xs : List α} {k : Nat} (h : k < xs.length) : atI xs (k : Int) = some xs[k] := atI_at (by omega) (by simpa using h)
theorem if_F {mc : BM} {a b : SM} {ρ : List D} (h : mc ρ = some false) : ifM mc a b ρ = b ρ := by unfold ifM; rw [h]; rfl
theorem if_T {mc : BM} {a b : SM} {ρ : List D} (h : mc ρ = some true) : ifM mc a b ρ = a ρ := by unfold ifM; rw [h]; rfl
@[simp] theorem kit_int_int : kitB "int" "int" = some true := by decide +kernel
@[simp] theorem kit_int_bool : kitB "int" "bool" = some false := by decide +kernel
@[simp] theorem kit_int_str : kitB "int" "str" = some false := by decide +kernel
@[simp] theorem kit_int_list : kitB "int" "list" = some false := by decide +kernel
@[simp] theorem kit_int_tuple : kitB "int" "tuple" = some false := by decide +kernel
@[simp] theorem kit_int_dict : kitB "int" "dict" = some false := by decide +kernel
@[simp] theorem kit_bool_int : kitB "bool" "int" = some true := by decide +kernel
@[simp] theorem kit_bool_bool : kitB "bool" "bool" = some true := by decide +kernel
@[simp] theorem kit_bool_str : kitB "bool" "str" = some false := by decide +kernel
@[simp] theorem kit_bool_list : kitB "bool" "list" = some false := by decide +kernel
@[simp] theorem kit_bool_tuple : kitB "bool" "tuple" = some false := by decide +kernel
@[simp] theorem kit_bool_dict : kitB "bool" "dict" = some false := by decide +kernel
@[simp] theorem kit_str_int : kitB "str" "int" = some false := by decide +kernel
@[simp] theorem kit_str_bool : kitB "str" "bool" = some false := by decide +kernel
@[simp] theorem kit_str_str : kitB "str" "str" = some true := by decide +kernel
@[simp] theorem kit_str_list : kitB "str" "list" = some false := by decide +kernel
@[simp] theorem kit_str_tuple : kitB "str" "tuple" = some false := by decide +kernel
@[simp] theorem kit_str_dict : kitB "str" "dict" = some false := by decide +kernel
@[simp] theorem kit_list_int : kitB "list" "int" = some false := by decide +kernel
@[simp] theorem kit_list_bool : kitB "list" "bool" = some false := by decide +kernel
@[simp] theorem kit_list_str : kitB "list" "str" = some false := by decide +kernel
@[simp] theorem kit_list_list : kitB "list" "list" = some true := by decide +kernel
@[simp] theorem kit_list_tuple : kitB "list" "tuple" = some false := by decide +kernel
@[simp] theorem kit_list_dict : kitB "list" "dict" = some false := by decide +kernel
@[simp] theorem kit_tuple_int : kitB "tuple" "int" = some false := by decide +kernel
@[simp] theorem kit_tuple_bool : kitB "tuple" "bool" = some false := by decide +kernel
@[simp] theorem kit_tuple_str : kitB "tuple" "str" = some false := by decide +kernel
@[simp] theorem kit_tuple_list : kitB "tuple" "list" = some false := by decide +kernel
@[simp] theorem kit_tuple_tuple : kitB "tuple" "tuple" = some true := by decide +kernel
@[simp] theorem kit_tuple_dict : kitB "tuple" "dict" = some false := by decide +kernel
@[simp] theorem kit_dict_int : kitB "dict" "int" = some false := by decide +kernel
@[simp] theorem kit_dict_bool : kitB "dict" "bool" = some false := by decide +kernel
@[simp] theorem kit_dict_str : kitB "dict" "str" = some false := by decide +kernel
@[simp] theorem kit_dict_list : kitB "dict" "list" = some false := by decide +kernel
@[simp] theorem kit_dict_tuple : kitB "dict" "tuple" = some false := by decide +kernel
@[simp] theorem kit_dict_dict : kitB "dict" "dict" = some true := by decide +kernel
@[simp] theorem kit_NoneType_int : kitB "NoneType" "int" = some false := by decide +kernel
@[simp] theorem kit_NoneType_bool : kitB "NoneType" "bool" = some false := by decide +kernel
@[simp] theorem kit_NoneType_str : kitB "NoneType" "str" = some false := by decide +kernel
@[simp] theorem kit_NoneType_list : kitB "NoneType" "list" = some false := by decide +kernel
@[simp] theorem kit_NoneType_tuple : kitB "NoneType" "tuple" = some false := by decide +kernel
@[simp] theorem kit_NoneType_dict : kitB "NoneType" "dict" = some false := by decide +kernel
@[simp] theorem lim_ge (n : Nat) : (OfNat.ofNat n : Nat) ≤ LIM ↔ n ≤ 4000000 := Iff.rfl
@[simp] theorem lim_0 : 0 ≤ LIM := by decide
@[simp] theorem lim_1 : 1 ≤ LIM := by decide
end LI
namespace LI
open PySem L2

section
variable {X : Cx} {cl : Nat → Addr} {E : En} {e e0 a b o tg : Expr} {es : List Expr} {pos pos' p apos : Pos} {m mo ma mb : RM} {g : GM} {ms : AM} {n : Nat} {f nm x : Str} {L : Lens} {σ : L2.St}
theorem repL_any {c : LC} {P H : Hp} {ds : List D} {xs : List V} (r : RepL c P H ds xs fz) : ∀ H', RepL c P H' ds xs fz := fun H' => RepL.mono (.refl _) ds xs fz (fun a o h => by simp [fz] at h) r
theorem repL_cat {c : LC} {P H : Hp} {ds es : List D} {xs ys : List V} (r : RepL c P H ds xs fz) (s : RepL c P H es ys fz) : RepL c P H (ds ++ es) (xs ++ ys) fz := by
  have := RepL.append r s
  rwa [fa_fz] at this
end
end LI
namespace LI
open PySem L2

section
variable {X : Cx} {cl : Nat → Addr} {E : En} {e e0 a b o i tg : Expr} {es : List Expr} {pos pos' p apos : Pos} {m mo ma mb mi : RM} {g : GM} {ms ms1 ms2 : AM} {n : Nat} {f nm x : Str} {L : Lens} {σ : L2.St} {CX : CXT} {k : Nat} {fad : Addr} {fd : FuncData} {ps : List Str} {F : FM} {XE : XK}
end
end LI
namespace LI
open PySem L2

section
variable {X : Cx} {cl : Nat → Addr} {E : En} {e a b o i : Expr} {pos p apos cpos : Pos} {g ga gb : GM} {m ma mb mc mk mv : RM} {r : R2} {f : D → D → Option D}
end
end LI
namespace LI
open PySem L2

section
variable {c : LC} {P H : Hp}
end
section
variable {X : Cx} {cl : Nat → Addr} {E : En} {e a b o i f0 : Expr} {pos p apos cpos pos' : Pos} {m ma mb mc mk mv mi : RM} {g : GM} {L : Lens}
end
end LI
namespace LI
open PySem L2

class LOk (L : Lens) : Prop where
  ok : ∀ (c : LC) (P H : Hp) (ρ : List D) (σ : L2.St) (S : FP) (d : D), Ex P H → RepE c P H ρ σ S → L.get ρ = some d → ∃ v Sd R, Loc c L P H σ ρ S v d Sd R
instance {i : Nat} : LOk (vL i) := ⟨fun c P H ρ σ S d e r h => by
  obtain ⟨h1, h2⟩ := vL_get h
  obtain ⟨v, Sd, R, k1, k2, k3, k4⟩ := r.focus h1 h2
  exact ⟨v, Sd, R, ⟨k3, k2, k4⟩⟩⟩
instance {n : Nat} {f : Str} {L : Lens} [LOk L] : LOk (fldL n f L) := ⟨fun c P H ρ σ S d e r hg => by
  obtain ⟨o, fs, ds, j, h1, h2, h3, h4, h5⟩ := fld_split hg
  obtain ⟨v, Sd, R, l⟩ := LOk.ok (L := L) c P H ρ σ S _ e r h1
  obtain ⟨a, dx, xs, T1, Z, e1, hh, nl, rl, hz, hput⟩ := obj_heap e l.rep
  obtain ⟨y, S1, R1, k1, k2, k3, k4⟩ := rl.focus h3
  refine ⟨y, S1, fa (fa Z R1) R, ⟨fun b => ?_, k2, fun P2 H2 d2 S2 ep kr r2 => ?_⟩⟩
  · have := l.sum b; have := hz b; have := k3 b; simp only [fa]; omega
  · rw [h5]
    have rl2 := k4 P2 H2 d2 y S2 ep (fun b u z1 z2 => kr b u (by simp only [fa]; omega) z2) r2
    have e2 : xs.set j y = xs := by
      apply List.ext_getElem?
      intro t
      by_cases ht : t = j
      · subst ht; rw [k1, List.getElem?_set_self (List.getElem?_eq_some_iff.mp k1).1]
      · rw [List.getElem?_set_ne (Ne.symm ht)]
    rw [e2] at rl2
    have := l.put P2 H2 _ _ ep (fun b u z1 z2 => kr b u (by simp only [fa]; omega) z2) (hput P2 H2 _ _ ep (fun b u z1 z2 => kr b u (by simp only [fa]; omega) z2) rl2)
    have e3 : fa (fa Z (fa S2 R1)) R = fa S2 (fa (fa Z R1) R) := by funext b; simp only [fa]; omega
    rw [e3] at this
    exact this⟩
theorem Wd.iceL {c : LC} {P H : Hp} {S T : FP} {σ : L2.St} {ρ : List D} {L : Lens} {v : V} {d : D} {Sd R : FP} (w : Wd c E P S T σ H ρ) (l : Loc c L P H σ ρ S v d Sd R) : ∃ P' S', Wd c E P' S' T σ H (L.put ρ (ice d)) ∧ Ex P P' := by
  have h1 := l.sum
  have hP : ∀ a, 0 < Sd a → P a = none := fun a z => w.out a (by have := h1 a; omega)
  have ex : Ex P (fun a => if 0 < Sd a then H a else P a) := fun a o z => by
    by_cases hu : 0 < Sd a
    · rw [hP a hu] at z; cases z
    · simp [hu, z]
  have hr : Rep c (fun a => if 0 < Sd a then H a else P a) H (ice d) v fz := Rep.ice ex d v Sd (fun a o z1 z2 => by simp [z1, z2]) l.rep
  have henv := l.put _ H _ fz ex (fun _ _ _ h => h) hr
  rw [fz_fa] at henv
  refine ⟨fun a => if 0 < Sd a then H a else P a, R, ⟨henv, fun a => ?_, fun a z => ?_, w.th, fun a o z => ?_, w.p0.trans ex, w.fr, fun a z => ?_, fun a z => w.ns a (by have := h1 a; omega), w.kp⟩, ex⟩
  · have := w.le a; have := h1 a; omega
  · have l2 := w.le a; have s := h1 a
    have hu : ¬ 0 < Sd a := by omega
    simp only [hu, if_false]
    exact w.out a (by omega)
  · by_cases hu : 0 < Sd a
    · simpa [hu] using z
    · exact w.ph a o (by simpa [hu] using z)
  · by_cases hu : 0 < Sd a
    · exact .inr (w.ns a (by have := h1 a; omega))
    · exact w.np a (by simpa [hu] using z)
abbrev AGM := List D → Option (List D × List D)
section
variable {X : Cx} {cl : Nat → Addr} {E : En} {e : Expr} {es : List Expr} {pos p : Pos} {g : GM} {ms : AGM} {CX : CXT} {k : Nat} {f : Addr} {fd : FuncData} {ps : List Str} {F : FM} {XE : XK} {x : Str}
end
end LI
namespace LI
open PySem L2

section
variable {X : Cx} {cl : Nat → Addr} {E : En} {e a b : Expr} {pos : Pos} {m ma mb mi : RM} {L : Lens}
end
end LI
namespace LI
open PySem L2
section
variable {X : Cx} {cl : Nat → Addr} {E : En} {e : Expr} {es : List Expr} {pos p : Pos} {g : GM} {ms : AGM}
end
end LI
namespace LI
open PySem L2

section
variable {X : Cx} {cl : Nat → Addr} {E : En} {e a b o i : Expr} {es : List Expr} {pos p apos : Pos} {m ma mb : RM} {ms : AM} {L : Lens}
theorem FQ.key {c : LC} {P H : Hp} {Q : VK} {ks : List Key} (h : FQ c P H (.key ks) Q) (e : Ex P H) : ∀ p, H p = none → Q (.ref p) (upd H p (.tup (ks.map kV))) := fun p hp => by
  have hP := none_of e hp
  refine h _ _ (upd P p (.tup (ks.map kV))) fz ⟨ex_new hP, ex_new hp, fun a o z => ?_, fun a z => ?_⟩ ⟨p, rfl, upd_same, rfl⟩ (fun _ => Nat.zero_le _) (fun a z => by simp [fz] at z)
  · by_cases q : a = p
    · subst q; rw [upd_same] at z ⊢; exact z
    · rw [upd_ne q] at z ⊢; exact e a o z
  · by_cases q : a = p
    · subst q; exact .inr hp
    · rw [upd_ne q] at z; exact .inl z
end
def putL {κ β : Type} [DecidableEq κ] (ks : List κ) (xs : List β) (k : κ) (y : β) : List κ × List β :=
  if (ks.any fun j => decide (j = k)) = true then (ks, (ks.zip xs).map fun p => if p.1 = k then y else p.2) else (ks ++ [k], xs ++ [y])
theorem putL_len {κ β : Type} [DecidableEq κ] {k : κ} {y : β} {ks : List κ} {xs : List β} (h : ks.length = xs.length) : (putL ks xs k y).1.length = (putL ks xs k y).2.length := by
  unfold putL
  split
  · show ks.length = (List.map _ (ks.zip xs)).length
    rw [List.length_map, List.length_zip, ← h, Nat.min_self]
  · show (ks ++ [k]).length = (xs ++ [y]).length
    rw [List.length_append, List.length_append, h]; rfl
theorem repl_rep {κ : Type} [DecidableEq κ] {c : LC} {P H : Hp} {k : κ} {d : D} {y : V} (r : Rep c P H d y fz) : ∀ {ks : List κ} {ds : List D} {xs : List V}, ks.length = xs.length → RepL c P H ds xs fz → RepL c P H ((ks.zip ds).map fun p => if p.1 = k then d else p.2) ((ks.zip xs).map fun p => if p.1 = k then y else p.2) fz
  | [], ds, xs, _, _ => ⟨by simp, rfl⟩
  | j :: ks, [], xs, h, rl => by rw [rl.1] at h; simp at h
  | j :: ks, d0 :: ds, xs, h, rl => by
    obtain ⟨x, ys, T, U, e, r0, rs, f⟩ := rl
    subst e
    have hT : T = fz := by funext b; have := congrFun f b; simp only [fa, fz] at this ⊢; omega
    have hU : U = fz := by funext b; have := congrFun f b; simp only [fa, fz] at this ⊢; omega
    subst hT hU
    have ih := repl_rep (k := k) r (ks := ks) (by simpa using h) rs
    rw [List.zip_cons_cons, List.zip_cons_cons, List.map_cons, List.map_cons]
    refine ⟨_, _, fz, fz, rfl, ?_, ih, by rw [fa_fz]⟩
    by_cases e : j = k
    · rw [if_pos e, if_pos e]; exact r
    · rw [if_neg e, if_neg e]; exact r0
theorem putL_rep {κ : Type} [DecidableEq κ] {c : LC} {P H : Hp} {k : κ} {d : D} {y : V} {ks : List κ} {ds : List D} {xs : List V} (r : Rep c P H d y fz) (h : ks.length = xs.length) (rl : RepL c P H ds xs fz) : RepL c P H (putL ks ds k d).2 (putL ks xs k y).2 fz := by
  unfold putL
  split
  · exact repl_rep r h rl
  · exact repL_cat rl ⟨y, [], fz, fz, rfl, r, ⟨rfl, rfl⟩, by rw [fa_fz]⟩
theorem putL_keys {κ β γ : Type} [DecidableEq κ] {k : κ} {y : β} {z : γ} {ks : List κ} {xs : List β} {zs : List γ} : (putL ks xs k y).1 = (putL ks zs k z).1 := by
  unfold putL; split <;> rfl
end LI
namespace LI
open PySem L2

abbrev Ts := List Char
def eU : Unit → D := fun _ => .non
def eI : Int → D := .int
def eB : Bool → D := .bl
def eS (s : Ts) : D := .str (s.map Char.toNat)
def eC : List Int → D := .scr
def eK (ss : List Ts) : D := .kst (ss.map fun s => s.map Char.toNat)
def eO {α : Type} (e : α → D) : Option α → D
  | none => .non
  | some x => e x
def eL {α : Type} (o : Bool) (e : α → D) (xs : List α) : D := .lst o (xs.map e)
def e1 {α : Type} (a : α → D) (t : α) : D := .tup [a t]
def e2 {α β : Type} (a : α → D) (b : β → D) (t : α × β) : D := .tup [a t.1, b t.2]
def e3 {α β γ : Type} (a : α → D) (b : β → D) (c : γ → D) (t : α × β × γ) : D := .tup [a t.1, b t.2.1, c t.2.2]
def e4 {α β γ δ : Type} (a : α → D) (b : β → D) (c : γ → D) (d : δ → D) (t : α × β × γ × δ) : D := .tup [a t.1, b t.2.1, c t.2.2.1, d t.2.2.2]
def e5 {α β γ δ ε : Type} (a : α → D) (b : β → D) (c : γ → D) (d : δ → D) (e : ε → D) (t : α × β × γ × δ × ε) : D := .tup [a t.1, b t.2.1, c t.2.2.1, d t.2.2.2.1, e t.2.2.2.2]
def e6 {α β γ δ ε ζ : Type} (a : α → D) (b : β → D) (c : γ → D) (d : δ → D) (e : ε → D) (f : ζ → D) (t : α × β × γ × δ × ε × ζ) : D := .tup [a t.1, b t.2.1, c t.2.2.1, d t.2.2.2.1, e t.2.2.2.2.1, f t.2.2.2.2.2]
structure An where
  d : D
  ng : notGone d = true
  fz : frz d = true
def eA (a : An) : D := a.d

class Ng {α : Type} (e : α → D) : Prop where
  ng : ∀ x, notGone (e x) = true
class Fz {α : Type} (e : α → D) : Prop where
  fz : ∀ x, frz (e x) = true
class Ic {α : Type} (e : α → D) (e' : outParam (α → D)) : Prop where
  ic : ∀ x, ice (e x) = e' x
class Fla {α : Type} (e : α → D) : Prop where
  fl : ∀ x, isFlat (e x) = true
class Nic {α : Type} (e : α → D) : Prop where
  ni : ∀ x, noIce (e x) = true
theorem nic_map {α : Type} {a : α → D} [Nic a] : ∀ xs : List α, noIceL (xs.map a) = true
  | [] => rfl
  | x :: xs => by rw [List.map_cons, noIceL, Nic.ni x, nic_map xs]; rfl
section
variable {α β γ δ ε ζ : Type} {a : α → D} {b : β → D} {c : γ → D} {d : δ → D} {e : ε → D} {f : ζ → D} {a' : α → D} {b' : β → D} {c' : γ → D} {d' : δ → D} {e' : ε → D} {f' : ζ → D} {o : Bool}
instance : Ng eU := ⟨fun _ => rfl⟩
instance : Ng eI := ⟨fun _ => rfl⟩
instance : Ng eB := ⟨fun _ => rfl⟩
instance : Ng eS := ⟨fun _ => rfl⟩
instance : Ng eC := ⟨fun _ => rfl⟩
instance : Ng eK := ⟨fun _ => rfl⟩
instance [Ng a] : Ng (eO a) := ⟨fun x => by cases x with | none => rfl | some x => exact Ng.ng x⟩
instance : Ng (eL o a) := ⟨fun _ => rfl⟩
instance : Ng (e1 a) := ⟨fun _ => rfl⟩
instance : Ng (e2 a b) := ⟨fun _ => rfl⟩
instance : Ng (e3 a b c) := ⟨fun _ => rfl⟩
instance : Ng (e4 a b c d) := ⟨fun _ => rfl⟩
instance : Ng (e5 a b c d e) := ⟨fun _ => rfl⟩
instance : Ng (e6 a b c d e f) := ⟨fun _ => rfl⟩
instance : Ng eA := ⟨fun x => x.ng⟩
instance : Fla eU := ⟨fun _ => rfl⟩
instance : Fla eI := ⟨fun _ => rfl⟩
instance : Fla eB := ⟨fun _ => rfl⟩
instance : Fla eS := ⟨fun _ => rfl⟩
instance [Fla a] : Fla (eO a) := ⟨fun x => by cases x with | none => rfl | some x => exact Fla.fl x⟩
instance : Nic eU := ⟨fun _ => rfl⟩
instance : Nic eI := ⟨fun _ => rfl⟩
instance : Nic eB := ⟨fun _ => rfl⟩
instance : Nic eS := ⟨fun _ => rfl⟩
instance : Nic eK := ⟨fun _ => rfl⟩
instance [Nic a] : Nic (eO a) := ⟨fun x => by cases x with | none => rfl | some x => exact Nic.ni x⟩
instance [Nic a] : Nic (eL true a) := ⟨fun x => by unfold eL; rw [noIce, nic_map]; rfl⟩
instance [Nic a] : Nic (e1 a) := ⟨fun x => by simp [e1, noIce, noIceL, Nic.ni]⟩
instance [Nic a] [Nic b] : Nic (e2 a b) := ⟨fun x => by simp [e2, noIce, noIceL, Nic.ni]⟩
instance [Nic a] [Nic b] [Nic c] : Nic (e3 a b c) := ⟨fun x => by simp [e3, noIce, noIceL, Nic.ni]⟩
instance [Nic a] [Nic b] [Nic c] [Nic d] : Nic (e4 a b c d) := ⟨fun x => by simp [e4, noIce, noIceL, Nic.ni]⟩
instance [Nic a] [Nic b] [Nic c] [Nic d] [Nic e] : Nic (e5 a b c d e) := ⟨fun x => by simp [e5, noIce, noIceL, Nic.ni]⟩
instance [Nic a] [Nic b] [Nic c] [Nic d] [Nic e] [Nic f] : Nic (e6 a b c d e f) := ⟨fun x => by simp [e6, noIce, noIceL, Nic.ni]⟩
instance : Fz eU := ⟨fun _ => rfl⟩
instance : Fz eI := ⟨fun _ => rfl⟩
instance : Fz eB := ⟨fun _ => rfl⟩
instance : Fz eS := ⟨fun _ => rfl⟩
instance : Fz eC := ⟨fun _ => rfl⟩
instance : Fz eK := ⟨fun _ => rfl⟩
instance : Fz eA := ⟨fun x => x.fz⟩
instance [Fz a] : Fz (eO a) := ⟨fun x => by cases x with | none => rfl | some x => exact Fz.fz x⟩
theorem fz_map [Fz a] (xs : List α) : frzL (xs.map a) = true := frzL_map.mpr fun x _ => Fz.fz x
instance [Fz a] : Fz (eL false a) := ⟨fun x => by simp [eL, Fz.fz]⟩
instance [Fz a] : Fz (e1 a) := ⟨fun x => by simp [e1, Fz.fz]⟩
instance [Fz a] [Fz b] : Fz (e2 a b) := ⟨fun x => by simp [e2, Fz.fz]⟩
instance [Fz a] [Fz b] [Fz c] : Fz (e3 a b c) := ⟨fun x => by simp [e3, Fz.fz]⟩
instance [Fz a] [Fz b] [Fz c] [Fz d] : Fz (e4 a b c d) := ⟨fun x => by simp [e4, Fz.fz]⟩
instance [Fz a] [Fz b] [Fz c] [Fz d] [Fz e] : Fz (e5 a b c d e) := ⟨fun x => by simp [e5, Fz.fz]⟩
instance [Fz a] [Fz b] [Fz c] [Fz d] [Fz e] [Fz f] : Fz (e6 a b c d e f) := ⟨fun x => by simp [e6, Fz.fz]⟩
instance : Ic eU eU := ⟨fun _ => rfl⟩
instance : Ic eI eI := ⟨fun _ => rfl⟩
instance : Ic eB eB := ⟨fun _ => rfl⟩
instance : Ic eS eS := ⟨fun _ => rfl⟩
instance : Ic eC eC := ⟨fun _ => rfl⟩
instance : Ic eK eK := ⟨fun _ => rfl⟩
instance : Ic eA eA := ⟨fun x => ice_frz _ x.fz⟩
instance [Ic a a'] : Ic (eO a) (eO a') := ⟨fun x => by cases x with | none => rfl | some x => exact Ic.ic x⟩
instance [Ic a a'] : Ic (eL o a) (eL false a') := ⟨fun x => by simp [eL, Ic.ic (e := a)]⟩
instance [Ic a a'] : Ic (e1 a) (e1 a') := ⟨fun x => by simp [e1, Ic.ic (e := a)]⟩
instance [Ic a a'] [Ic b b'] : Ic (e2 a b) (e2 a' b') := ⟨fun x => by simp [e2, Ic.ic (e := a), Ic.ic (e := b)]⟩
instance [Ic a a'] [Ic b b'] [Ic c c'] : Ic (e3 a b c) (e3 a' b' c') := ⟨fun x => by simp [e3, Ic.ic (e := a), Ic.ic (e := b), Ic.ic (e := c)]⟩
instance [Ic a a'] [Ic b b'] [Ic c c'] [Ic d d'] : Ic (e4 a b c d) (e4 a' b' c' d') := ⟨fun x => by simp [e4, Ic.ic (e := a), Ic.ic (e := b), Ic.ic (e := c), Ic.ic (e := d)]⟩
instance [Ic a a'] [Ic b b'] [Ic c c'] [Ic d d'] [Ic e e'] : Ic (e5 a b c d e) (e5 a' b' c' d' e') := ⟨fun x => by simp [e5, Ic.ic (e := a), Ic.ic (e := b), Ic.ic (e := c), Ic.ic (e := d), Ic.ic (e := e)]⟩
instance [Ic a a'] [Ic b b'] [Ic c c'] [Ic d d'] [Ic e e'] [Ic f f'] : Ic (e6 a b c d e f) (e6 a' b' c' d' e' f') := ⟨fun x => by simp [e6, Ic.ic (e := a), Ic.ic (e := b), Ic.ic (e := c), Ic.ic (e := d), Ic.ic (e := e), Ic.ic (e := f)]⟩
end

instance {α β : Type} {a : α → D} [Ng a] : Ng (fun p : α × β => a p.1) := ⟨fun p => Ng.ng p.1⟩
instance {α β : Type} {a : α → D} [Fz a] : Fz (fun p : α × β => a p.1) := ⟨fun p => Fz.fz p.1⟩
theorem toNat_lt (c : Char) : c.toNat < 1114112 := by
  rcases c.valid with h | ⟨_, h⟩
  · have : c.toNat < 55296 := h
    omega
  · exact h
theorem toNat_inj {a b : Char} (h : a.toNat = b.toNat) : a = b := Char.toNat_inj.mp h
class Pe {α : Type} (e : α → D) (n : outParam Nat) where
  p : α → PyData
  to : ∀ x, toP (e x) = some (p x)
  lay : ∀ x, (p x).canLay0 = true
  dep : ∀ x, (p x).depth ≤ n
  eq : ∀ x y, (p x).eqv (p y) = true ↔ x = y
instance : Pe eU 0 := ⟨fun _ => .none, fun _ => rfl, fun _ => by simp [PyData.canLay0], fun _ => by simp [PyData.depth], fun _ _ => by simp [PyData.eqv]⟩
instance : Pe eI 0 := ⟨.int, fun _ => rfl, fun _ => by simp [PyData.canLay0], fun _ => by simp [PyData.depth], fun _ _ => by simp [PyData.eqv]⟩
instance : Pe eB 0 := ⟨.bool, fun _ => rfl, fun _ => by simp [PyData.canLay0], fun _ => by simp [PyData.depth], fun _ _ => by simp [PyData.eqv]⟩
theorem ts_map_inj {x y : Ts} : x.map Char.toNat = y.map Char.toNat ↔ x = y :=
  ⟨fun h => List.map_inj_right (fun _ _ => toNat_inj) |>.mp h, fun h => by rw [h]⟩
instance : Pe eS 0 := ⟨fun s => .str ⟨(s.map Char.toNat).toArray⟩, fun _ => rfl, fun s => by
    simp [PyData.canLay0, PyData.strOk, toNat_lt], fun _ => by simp [PyData.depth], fun x y => by
    have : ((⟨(x.map Char.toNat).toArray⟩ : Str) == ⟨(y.map Char.toNat).toArray⟩) = (x.map Char.toNat == y.map Char.toNat) := str_beq _ _
    simp only [PyData.eqv, this, beq_iff_eq, ts_map_inj]⟩
theorem pe_toL {α : Type} {e : α → D} {n : Nat} [Pe e n] : ∀ xs : List α, toPL (xs.map e) = some (xs.map (Pe.p e))
  | [] => rfl
  | x :: xs => by simp [toPL, Pe.to (e := e) x, pe_toL xs]
theorem pe_lays {α : Type} {e : α → D} {n : Nat} [Pe e n] : ∀ xs : List α, PyData.canLayAll0 (xs.map (Pe.p e)) = true
  | [] => rfl
  | x :: xs => by simp [PyData.canLayAll0, Pe.lay (e := e) x, pe_lays xs]
theorem pe_deps {α : Type} {e : α → D} {n : Nat} [Pe e n] : ∀ xs : List α, PyData.depthAll (xs.map (Pe.p e)) ≤ n
  | [] => Nat.zero_le _
  | x :: xs => by have := Pe.dep (e := e) x; have := pe_deps (e := e) xs; simp [PyData.depthAll]; omega
theorem pe_eqs {α : Type} {e : α → D} {n : Nat} [Pe e n] : ∀ xs ys : List α, PyData.eqvAll (xs.map (Pe.p e)) (ys.map (Pe.p e)) = true ↔ xs = ys
  | [], [] => by simp [PyData.eqvAll]
  | [], y :: ys => by simp [PyData.eqvAll]
  | x :: xs, [] => by simp [PyData.eqvAll]
  | x :: xs, y :: ys => by simp [PyData.eqvAll, Pe.eq (e := e), pe_eqs xs ys]
instance {α : Type} {e : α → D} {n : Nat} {o : Bool} [Pe e n] : Pe (eL o e) (n + 1) := ⟨fun xs => .list (xs.map (Pe.p e)), fun xs => by simp [eL, toP, pe_toL], fun xs => by simp [PyData.canLay0, pe_lays], fun xs => by
  have := pe_deps (e := e) xs; simp [PyData.depth]; omega, fun x y => by simp [PyData.eqv, pe_eqs]⟩
instance : Pe eC 1 := ⟨fun ns => .list (ns.map .int), fun ns => rfl, fun ns => by simp [PyData.canLay0]; exact pe_lays (e := eI) ns, fun ns => by
  have : PyData.depthAll (ns.map .int) ≤ 0 := pe_deps (e := eI) ns
  simp [PyData.depth]; omega, fun x y => by simp only [PyData.eqv]; exact pe_eqs (e := eI) x y⟩
section
variable {α β γ δ ε ζ : Type} {a : α → D} {b : β → D} {c : γ → D} {d : δ → D} {e : ε → D} {f : ζ → D} {na nb nc nd ne nf : Nat}
class Nn {α : Type} (e : α → D) : Prop where
  nn : ∀ x, ∀ p, toP (e x) = some p → p.eqv .none = false ∧ PyData.eqv .none p = false
instance : Nn eI := ⟨fun x p h => by cases h; simp [PyData.eqv]⟩
instance : Nn eB := ⟨fun x p h => by cases h; simp [PyData.eqv]⟩
instance : Nn eS := ⟨fun x p h => by cases h; simp [PyData.eqv]⟩
instance {o : Bool} : Nn (eL o a) := ⟨fun x p h => by
  simp only [eL, toP] at h
  cases z : toPL (x.map a) with
  | none => rw [z] at h; cases h
  | some q => rw [z] at h; cases h; simp [PyData.eqv]⟩
theorem nn_tup {ds : List D} {p : PyData} (h : toP (.tup ds) = some p) : p.eqv .none = false ∧ PyData.eqv .none p = false := by
  simp only [toP] at h
  cases z : toPL ds with
  | none => rw [z] at h; cases h
  | some q => rw [z] at h; cases h; simp [PyData.eqv]
instance : Nn (e1 a) := ⟨fun x p h => nn_tup h⟩
instance : Nn (e2 a b) := ⟨fun x p h => nn_tup h⟩
instance : Nn (e3 a b c) := ⟨fun x p h => nn_tup h⟩
instance : Nn (e4 a b c d) := ⟨fun x p h => nn_tup h⟩
instance : Nn (e5 a b c d e) := ⟨fun x p h => nn_tup h⟩
instance : Nn (e6 a b c d e f) := ⟨fun x p h => nn_tup h⟩
instance [Nn a] [Pe a na] : Pe (eO a) na := ⟨fun x => match x with | none => .none | some x => Pe.p a x, fun x => by cases x with | none => rfl | some x => exact Pe.to (e := a) x,
  fun x => by cases x with | none => simp [PyData.canLay0] | some x => exact Pe.lay (e := a) x, fun x => by cases x with | none => simp [PyData.depth] | some x => exact Pe.dep (e := a) x, fun x y => by
    cases x with
    | none => cases y with
      | none => simp [PyData.eqv]
      | some y => have := (Nn.nn (e := a) y _ (Pe.to (e := a) y)).2; simp [this]
    | some x => cases y with
      | none => have := (Nn.nn (e := a) x _ (Pe.to (e := a) x)).1; simp [this]
      | some y => simp [Pe.eq (e := a)]⟩
instance [Pe a na] : Pe (e1 a) (na + 1) := ⟨fun t => .tuple [Pe.p a t], fun t => by simp [e1, toP, toPL, Pe.to (e := a)], fun t => by simp [PyData.canLay0, PyData.canLayAll0, Pe.lay (e := a)], fun t => by
  have h1 := Pe.dep (e := a) t; simp [PyData.depth, PyData.depthAll]; omega, fun x y => by simp [PyData.eqv, PyData.eqvAll, Pe.eq (e := a)]⟩
instance [Pe a na] [Pe b nb] : Pe (e2 a b) (max na nb + 1) := ⟨fun t => .tuple [Pe.p a t.1, Pe.p b t.2], fun t => by simp [e2, toP, toPL, Pe.to (e := a), Pe.to (e := b)], fun t => by simp [PyData.canLay0, PyData.canLayAll0, Pe.lay (e := a), Pe.lay (e := b)], fun t => by
  have h1 := Pe.dep (e := a) t.1; have h2 := Pe.dep (e := b) t.2; simp [PyData.depth, PyData.depthAll]; omega, fun x y => by simp [PyData.eqv, PyData.eqvAll, Pe.eq (e := a), Pe.eq (e := b), Prod.ext_iff]⟩
instance [Pe a na] [Pe b nb] [Pe c nc] : Pe (e3 a b c) (max na (max nb nc) + 1) := ⟨fun t => .tuple [Pe.p a t.1, Pe.p b t.2.1, Pe.p c t.2.2], fun t => by simp [e3, toP, toPL, Pe.to (e := a), Pe.to (e := b), Pe.to (e := c)], fun t => by simp [PyData.canLay0, PyData.canLayAll0, Pe.lay (e := a), Pe.lay (e := b), Pe.lay (e := c)], fun t => by
  have h1 := Pe.dep (e := a) t.1; have h2 := Pe.dep (e := b) t.2.1; have h3 := Pe.dep (e := c) t.2.2; simp [PyData.depth, PyData.depthAll]; omega, fun x y => by simp [PyData.eqv, PyData.eqvAll, Pe.eq (e := a), Pe.eq (e := b), Pe.eq (e := c), Prod.ext_iff]⟩
instance [Pe a na] [Pe b nb] [Pe c nc] [Pe d nd] : Pe (e4 a b c d) (max na (max nb (max nc nd)) + 1) := ⟨fun t => .tuple [Pe.p a t.1, Pe.p b t.2.1, Pe.p c t.2.2.1, Pe.p d t.2.2.2], fun t => by simp [e4, toP, toPL, Pe.to (e := a), Pe.to (e := b), Pe.to (e := c), Pe.to (e := d)], fun t => by simp [PyData.canLay0, PyData.canLayAll0, Pe.lay (e := a), Pe.lay (e := b), Pe.lay (e := c), Pe.lay (e := d)], fun t => by
  have h1 := Pe.dep (e := a) t.1; have h2 := Pe.dep (e := b) t.2.1; have h3 := Pe.dep (e := c) t.2.2.1; have h4 := Pe.dep (e := d) t.2.2.2; simp [PyData.depth, PyData.depthAll]; omega, fun x y => by simp [PyData.eqv, PyData.eqvAll, Pe.eq (e := a), Pe.eq (e := b), Pe.eq (e := c), Pe.eq (e := d), Prod.ext_iff]⟩
instance [Pe a na] [Pe b nb] [Pe c nc] [Pe d nd] [Pe e ne] : Pe (e5 a b c d e) (max na (max nb (max nc (max nd ne))) + 1) := ⟨fun t => .tuple [Pe.p a t.1, Pe.p b t.2.1, Pe.p c t.2.2.1, Pe.p d t.2.2.2.1, Pe.p e t.2.2.2.2], fun t => by simp [e5, toP, toPL, Pe.to (e := a), Pe.to (e := b), Pe.to (e := c), Pe.to (e := d), Pe.to (e := e)], fun t => by simp [PyData.canLay0, PyData.canLayAll0, Pe.lay (e := a), Pe.lay (e := b), Pe.lay (e := c), Pe.lay (e := d), Pe.lay (e := e)], fun t => by
  have h1 := Pe.dep (e := a) t.1; have h2 := Pe.dep (e := b) t.2.1; have h3 := Pe.dep (e := c) t.2.2.1; have h4 := Pe.dep (e := d) t.2.2.2.1; have h5 := Pe.dep (e := e) t.2.2.2.2; simp [PyData.depth, PyData.depthAll]; omega, fun x y => by simp [PyData.eqv, PyData.eqvAll, Pe.eq (e := a), Pe.eq (e := b), Pe.eq (e := c), Pe.eq (e := d), Pe.eq (e := e), Prod.ext_iff]⟩
instance [Pe a na] [Pe b nb] [Pe c nc] [Pe d nd] [Pe e ne] [Pe f nf] : Pe (e6 a b c d e f) (max na (max nb (max nc (max nd (max ne nf)))) + 1) := ⟨fun t => .tuple [Pe.p a t.1, Pe.p b t.2.1, Pe.p c t.2.2.1, Pe.p d t.2.2.2.1, Pe.p e t.2.2.2.2.1, Pe.p f t.2.2.2.2.2], fun t => by simp [e6, toP, toPL, Pe.to (e := a), Pe.to (e := b), Pe.to (e := c), Pe.to (e := d), Pe.to (e := e), Pe.to (e := f)], fun t => by simp [PyData.canLay0, PyData.canLayAll0, Pe.lay (e := a), Pe.lay (e := b), Pe.lay (e := c), Pe.lay (e := d), Pe.lay (e := e), Pe.lay (e := f)], fun t => by
  have h1 := Pe.dep (e := a) t.1; have h2 := Pe.dep (e := b) t.2.1; have h3 := Pe.dep (e := c) t.2.2.1; have h4 := Pe.dep (e := d) t.2.2.2.1; have h5 := Pe.dep (e := e) t.2.2.2.2.1; have h6 := Pe.dep (e := f) t.2.2.2.2.2; simp [PyData.depth, PyData.depthAll]; omega, fun x y => by simp [PyData.eqv, PyData.eqvAll, Pe.eq (e := a), Pe.eq (e := b), Pe.eq (e := c), Pe.eq (e := d), Pe.eq (e := e), Pe.eq (e := f), Prod.ext_iff]⟩
end
theorem eqB_ice (x y : D) : eqB x y = eqB (ice x) (ice y) := by unfold eqB; rw [toP_ice, toP_ice]
theorem eqB_pe {α : Type} [DecidableEq α] {e1 e2 e' : α → D} {n : Nat} [Ic e1 e'] [Ic e2 e'] [Pe e' n] (hn : n ≤ 64) (x y : α) : eqB (e1 x) (e2 y) = some (decide (x = y)) := by
  rw [eqB_ice, Ic.ic (e := e1), Ic.ic (e := e2)]
  unfold eqB
  have s : ∀ z, SeqAt.shaped (Pe.p e' z) = true := fun z => by
    have := Pe.dep (e := e') z
    simp [SeqAt.shaped, Pe.lay (e := e') z]; omega
  have q : (Pe.p e' x).eqv (Pe.p e' y) = decide (x = y) := by
    rw [Bool.eq_iff_iff, Pe.eq, decide_eq_true_iff]
  simp only [Pe.to (e := e'), Option.bind_some, s, and_self, if_true, q]
end LI
namespace LI
open PySem L2

def Ev {α : Type} (e : α → D) (m : RM) (ρ : List D) (o : Option α) : Prop := ∀ x, o = some x → m ρ = some (e x)
def Et (m : BM) (ρ : List D) (o : Option Bool) : Prop := ∀ x, o = some x → m ρ = some x
def Eg {α : Type} (e : α → D) (env : α → List D) (g : GM) (ρ : List D) (o : Option α) : Prop := ∀ x, o = some x → g ρ = some (e x, env x)
structure Ea {τ : Type} (e e' : τ → List D) (z : Bool) (ms : AM) (ρ : List D) (o : Option τ) : Prop where
  run : ∀ x, o = some x → ms ρ = some (e x)
  ic : ∀ x, iceL (e x) = e' x
  fz : z = true → ∀ x, frzL (e x) = true
def Ei {α : Type} (e : α → D) (ms : AM) (ρ : List D) (o : Option (List α)) : Prop := ∀ xs, o = some xs → ms ρ = some (xs.map e)
def Eo (m : OM) (ρ : List D) (o : Option (Option Int)) : Prop := ∀ x, o = some x → m ρ = some x

theorem ob_some {α β : Type} {o : Option α} {k : α → Option β} {z : β} (h : o.bind k = some z) : ∃ x, o = some x ∧ k x = some z := by
  cases o with
  | none => cases h
  | some x => exact ⟨x, rfl, h⟩

section
variable {α β γ δ : Type} {a : α → D} {b : β → D} {c : γ → D} {e : α → D} {e' : α → D} {m ma mb mc : RM} {ρ : List D} {o oa : Option α} {ob : Option β} {oc : Option γ}
theorem x_v {i : Nat} (e : α → D) (x : α) [Ng e] (h : ρ[i]? = some (e x)) : Ev e (vM i) ρ (some x) := fun y hy => by
  cases hy; rw [LI.ev_v, h]; simp [Ng.ng]
theorem x_k {d : D} (e : α → D) (x : α) (h : d = e x) : Ev e (kM d) ρ (some x) := fun y hy => by cases hy; rw [LI.ev_k, h]
theorem x_map {e : α → D} {f : β → D} (k : α → β) (hk : ∀ x, f (k x) = e x) (h : Ev e m ρ o) : Ev f m ρ (o.bind fun x => some (k x)) := fun y hy => by
  obtain ⟨x, h1, h2⟩ := ob_some hy; cases h2; rw [h x h1, hk]
def an {α : Type} (e : α → D) [Ng e] [Fz e] (x : α) : An := ⟨e x, Ng.ng x, Fz.fz x⟩
theorem x_fr [Fz e] (h : Ev e m ρ o) : Ev e (frM m) ρ o := fun y hy => by rw [LI.ev_fr, h y hy]; simp [Fz.fz]
theorem x_cold [Ic e e'] (h : Ev e m ρ o) : Ev e' (coldM m) ρ o := fun y hy => by rw [LI.ev_cold, h y hy, Option.map_some, Ic.ic]

def O2 (f : D → D → Option D) (a : α → D) (b : β → D) (c : γ → D) (g : α → β → Option γ) : Prop := ∀ x y z, g x y = some z → f (a x) (b y) = some (c z)
def O1 (f : D → Option D) (a : α → D) (c : γ → D) (g : α → Option γ) : Prop := ∀ x z, g x = some z → f (a x) = some (c z)
theorem x_m2 {f : D → D → Option D} {g : α → β → Option γ} (hf : O2 f a b c g) (ha : Ev a ma ρ oa) (hb : Ev b mb ρ ob) : Ev c (m2 f ma mb) ρ (oa.bind fun x => ob.bind fun y => g x y) := fun z hz => by
  obtain ⟨x, h1, h2⟩ := ob_some hz
  obtain ⟨y, h3, h4⟩ := ob_some h2
  rw [LI.ev_m2, ha x h1, Option.bind_some, hb y h3, Option.bind_some, hf x y z h4]
theorem x_m1 {f : D → Option D} {g : α → Option γ} (hf : O1 f a c g) (ha : Ev a ma ρ oa) : Ev c (m1 f ma) ρ (oa.bind g) := fun z hz => by
  obtain ⟨x, h1, h2⟩ := ob_some hz
  rw [LI.ev_m1, ha x h1, Option.bind_some, hf x z h2]
theorem x_a1 {f : List D → Option D} {g : α → Option γ} (hf : O1 (fun d => f [d]) a c g) (ha : Ev a ma ρ oa) : Ev c (mA f (consM ma nilM)) ρ (oa.bind g) := fun z hz => by
  obtain ⟨x, h1, h2⟩ := ob_some hz
  have := hf x z h2
  simp only [ev_mA, LI.ev_cons, ha x h1, Option.bind_some, LI.ev_nil, Option.map_some]
  exact this
theorem o2_tot {f : D → D → Option D} {g : α → β → γ} (h : ∀ x y, f (a x) (b y) = some (c (g x y))) : O2 f a b c (fun x y => some (g x y)) := fun x y z hz => by cases hz; exact h x y
theorem o1_tot {f : D → Option D} {g : α → γ} (h : ∀ x, f (a x) = some (c (g x))) : O1 f a c (fun x => some (g x)) := fun x z hz => by cases hz; exact h x
end

def catL {α : Type} (x y : List α) : Option (List α) := if x.length + y.length ≤ LIM then some (x ++ y) else none
def repS (x : Ts) (k : Int) : Option Ts := if k ≤ 1000000 ∧ -1000000 ≤ k ∧ x.length * k.toNat ≤ LIM then some (List.replicate k.toNat x).flatten else none
def mulT (x y : Int) : Option Int := if (-(2 ^ 64) < x ∧ x < 2 ^ 64) ∨ (-(2 ^ 64) < y ∧ y < 2 ^ 64) then some (x * y) else none
def modT (x y : Int) : Option Int := if 0 < y then some (x % y) else none
theorem o2_addI : O2 addD eI eI eI (fun x y => some (x + y)) := o2_tot fun _ _ => rfl
theorem o2_catL {α : Type} {a : α → D} [Fz a] {o p : Bool} : O2 addD (eL o a) (eL p a) (eL true a) catL := fun x y z h => by
  unfold catL at h; split at h
  · cases h; simp [eL, addD, *, Fz.fz]
  · cases h
theorem o2_subI : O2 subD eI eI eI (fun x y => some (x - y)) := o2_tot fun _ _ => rfl
theorem o2_mul : O2 mulD eI eI eI mulT := fun x y z h => by
  unfold mulT at h; split at h
  · cases h; rename_i q; exact if_pos q
  · cases h
theorem o2_repS : O2 mulD eS eI eS repS := fun x y z h => by
  unfold repS at h; split at h
  · cases h; rename_i q; simp [eS, eI, mulD, q]
  · cases h
theorem o2_mod : O2 modD eI eI eI modT := fun x y z h => by
  unfold modT at h; split at h
  · cases h; rename_i q; exact if_pos q
  · cases h
theorem o1_neg : O1 negD eI eI (fun x => some (-x)) := o1_tot fun _ => rfl
section
variable {α β : Type} {e : α → D} {m ma mb : RM} {ρ : List D} {oa ob : Option Int}
def b64 (k : Int) : Bool := decide (-18446744073709551616 < k) && decide (k < 18446744073709551616)
theorem b64_in {k : Int} (h : b64 k = true) : -(2 ^ 64) < k ∧ k < 2 ^ 64 := by
  unfold b64 at h; simp at h; exact ⟨by omega, by omega⟩
theorem x_mulR (k : Int) (hk : b64 k = true) (ha : Ev eI ma ρ oa) : Ev eI (m2 mulD ma (kM (.int k))) ρ (oa.bind fun x => some (x * k)) := fun z hz => by
  obtain ⟨x, h1, h2⟩ := ob_some hz; cases h2
  rw [LI.ev_m2, ha x h1]; exact if_pos (.inr (b64_in hk))
theorem x_mulK (k : Int) (hk : b64 k = true) (ha : Ev eI ma ρ oa) : Ev eI (m2 mulD (kM (.int k)) ma) ρ (oa.bind fun x => some (k * x)) := fun z hz => by
  obtain ⟨x, h1, h2⟩ := ob_some hz; cases h2
  rw [LI.ev_m2, LI.ev_k, Option.bind_some, ha x h1]; exact if_pos (.inl (b64_in hk))
theorem log_lt {k : Int} (h : b64 k = true) : k.natAbs.log2 < 9000 := by
  have := b64_in h
  by_cases z : k.natAbs = 0
  · rw [z]; decide
  · have h1 : k.natAbs < 2 ^ 9000 := Nat.lt_of_lt_of_le (show k.natAbs < 2 ^ 65 by omega) (Nat.pow_le_pow_right (by decide) (by decide))
    exact (Nat.log2_lt z).mpr h1
theorem x_modP (k : Int) {mk : RM} (hk : decide (0 < k) = true) (ha : Ev eI ma ρ oa) (hm : Ev eI mk ρ (some k)) : Ev eI (m2 modD ma mk) ρ (oa.bind fun x => some (x % k)) := fun z hz => by
  obtain ⟨x, h1, h2⟩ := ob_some hz; cases h2
  rw [LI.ev_m2, ha x h1, hm k rfl]; exact if_pos (of_decide_eq_true hk)
theorem x_fdivP (k : Int) {mk : RM} (hk : (decide (0 < k) && b64 k) = true) (ha : Ev eI ma ρ oa) (hm : Ev eI mk ρ (some k)) : Ev eI (m2 fdivD ma mk) ρ (oa.bind fun x => some (x / k)) := fun z hz => by
  obtain ⟨x, h1, h2⟩ := ob_some hz; cases h2
  simp only [Bool.and_eq_true] at hk
  rw [LI.ev_m2, ha x h1, hm k rfl]; exact if_pos ⟨of_decide_eq_true hk.1, log_lt hk.2⟩
theorem x_pow (x y c : Int) (h : (decide (0 ≤ y) && decide (y ≤ 1000000) && b64 x && (x ^ y.toNat == c)) = true) : Ev eI (m2 powD (kM (.int x)) (kM (.int y))) ρ (some c) := fun z hz => by
  cases hz
  simp only [Bool.and_eq_true, beq_iff_eq] at h
  obtain ⟨⟨⟨h1, h2⟩, h3⟩, h4⟩ := h
  have := b64_in h3
  rw [LI.ev_m2, LI.ev_k, LI.ev_k, Option.bind_some, Option.bind_some, pow_int, if_pos ⟨of_decide_eq_true h1, of_decide_eq_true h2, by omega⟩, h4]; rfl
end

theorem o2_ltI : O2 ltD eI eI eB (fun x y => some (decide (x < y))) := o2_tot fun _ _ => rfl
theorem o2_gtI : O2 gtD eI eI eB (fun x y => some (decide (y < x))) := o2_tot fun _ _ => rfl
theorem o2_geI : O2 geD eI eI eB (fun x y => some (decide (y ≤ x))) := o2_tot fun _ _ => rfl
theorem o2_eq {α : Type} [DecidableEq α] {a b e' : α → D} {n : Nat} [Ic a e'] [Ic b e'] [Pe e' n] (hn : n ≤ 64) : O2 eqD a b eB (fun x y => some (decide (x = y))) := o2_tot fun x y => by
  unfold eqD; rw [eqB_pe (e' := e') hn]; rfl
theorem o2_ne {α : Type} [DecidableEq α] {a b e' : α → D} {n : Nat} [Ic a e'] [Ic b e'] [Pe e' n] (hn : n ≤ 64) : O2 neD a b eB (fun x y => some (!decide (x = y))) := o2_tot fun x y => by
  unfold neD; rw [eqB_pe (e' := e') hn]; rfl
class No {α : Type} (e : α → D) : Prop where
  no : ∀ x, isNo (e x) = some false
instance : No eI := ⟨fun _ => rfl⟩
instance : No eB := ⟨fun _ => rfl⟩
instance : No eS := ⟨fun _ => rfl⟩
instance : No eC := ⟨fun _ => rfl⟩
section
variable {α β γ δ ε ζ : Type} {a : α → D} {b : β → D} {c : γ → D} {d : δ → D} {e : ε → D} {f : ζ → D} {o : Bool}
instance : No (eL o a) := ⟨fun _ => rfl⟩
instance : No (e1 a) := ⟨fun _ => rfl⟩
instance : No (e2 a b) := ⟨fun _ => rfl⟩
instance : No (e3 a b c) := ⟨fun _ => rfl⟩
instance : No (e4 a b c d) := ⟨fun _ => rfl⟩
instance : No (e5 a b c d e) := ⟨fun _ => rfl⟩
instance : No (e6 a b c d e f) := ⟨fun _ => rfl⟩
theorem o2_isN [No a] : O2 isD (eO a) eU eB (fun x _ => some x.isNone) := o2_tot fun x y => by
  cases x with
  | none => rfl
  | some x => simp [eO, eU, isD, No.no]; rfl
end

section
variable {α : Type} {e : α → D} {m ma mb mc : RM} {ρ : List D} {o : Option α} {x y : Bool} {ta tb : BM} {oa ob : Option Bool}
theorem et_b {o : Option Bool} (h : Ev eB m ρ o) : Et (bM m) ρ o := fun z hz => by rw [ev_bM, h z hz]; rfl
theorem et_not (h : Et ta ρ oa) : Et (notB ta) ρ (oa.bind fun b => some (!b)) := fun z hz => by
  obtain ⟨x, h1, h2⟩ := ob_some hz; cases h2; rw [ev_notB, h x h1]; rfl
theorem et_and (h : Et ta ρ oa) (k : Et tb ρ ob) : Et (andB ta tb) ρ (oa.bind fun b => if b = true then ob else some false) := fun z hz => by
  obtain ⟨x, h1, h2⟩ := ob_some hz
  rw [ev_andB, h x h1, Option.bind_some]
  cases x with
  | true => rw [if_pos rfl] at h2 ⊢; exact k z h2
  | false => simpa using h2
theorem et_or (h : Et ta ρ oa) (k : Et tb ρ ob) : Et (orB ta tb) ρ (oa.bind fun b => if b = true then some true else ob) := fun z hz => by
  obtain ⟨x, h1, h2⟩ := ob_some hz
  rw [ev_orB, h x h1, Option.bind_some]
  cases x with
  | true => simpa using h2
  | false => simp at h2 ⊢; exact k z h2
theorem et_andT (h : Et ta ρ (some x)) (k : Et tb ρ (some y)) : Et (andB ta tb) ρ (some (x && y)) := fun z hz => by
  cases hz; rw [ev_andB, h x rfl, Option.bind_some]; cases x <;> simp [k y rfl]
theorem x_and (h : Ev eB ma ρ oa) (k : Ev eB mb ρ ob) : Ev eB (andM ma mb) ρ (oa.bind fun b => if b = true then ob else some false) := fun z hz => by
  obtain ⟨x, h1, h2⟩ := ob_some hz
  rw [ev_andM, et_b h x h1, Option.bind_some]
  cases x with
  | true => rw [if_pos rfl] at h2 ⊢; exact k z h2
  | false => simp at h2; subst h2; rfl
theorem x_andT (h : Ev eB ma ρ (some x)) (k : Ev eB mb ρ (some y)) : Ev eB (andM ma mb) ρ (some (x && y)) := fun z hz => by
  cases hz; rw [ev_andM, et_b h x rfl, Option.bind_some]; cases x <;> simp [k y rfl] <;> rfl
class Tr {α : Type} (e : α → D) (t : outParam (α → Option Bool)) : Prop where
  tr : ∀ x z, t x = some z → truD (e x) = some z
def truS (s : Ts) : Option Bool := if s.length ≤ LIM then some (!s.isEmpty) else none
instance : Tr eB (fun x => some x) := ⟨fun x z h => by cases h; rfl⟩
instance : Tr eU (fun _ => some false) := ⟨fun x z h => by cases h; rfl⟩
instance : Tr eI (fun x => some (x != 0)) := ⟨fun x z h => by cases h; rfl⟩
instance : Tr eS truS := ⟨fun x z h => by
  unfold truS at h; split at h
  · cases h; simp [eS, truD, *]
  · cases h⟩
instance {α : Type} {a : α → D} {o : Bool} : Tr (eL o a) (fun x => some (!x.isEmpty)) := ⟨fun x z h => by cases h; simp [eL, truD]⟩
instance : Tr eC (fun x => some (!x.isEmpty)) := ⟨fun x z h => by cases h; rfl⟩
theorem et_tru {t : α → Option Bool} [Tr e t] (h : Ev e m ρ o) : Et (truM m) ρ (o.bind t) := fun z hz => by
  obtain ⟨x, h1, h2⟩ := ob_some hz; rw [ev_tru, h x h1]; exact Tr.tr x z h2
theorem x_not {t : α → Option Bool} [Tr e t] (h : Ev e m ρ o) : Ev eB (notD m) ρ ((o.bind t).bind fun b => some (!b)) := fun z hz => by
  obtain ⟨y, h1, h2⟩ := ob_some hz; cases h2
  have := et_tru (t := t) h y h1
  rw [ev_tru] at this
  rw [ev_notD, this]; rfl
end
section
variable {α β γ : Type} {a : α → D} {b : β → D} {c : γ → D} {f g : D → D → Option D} {ma mb mc : RM} {ρ : List D} {oa : Option α} {ob : Option β} {oc : Option γ}
end

def ixS (s : Ts) (i : Int) : Option Ts := if s.length ≤ LIM then (atI s i).map fun c => [c] else none
theorem o2_ixL {α : Type} {a : α → D} {o : Bool} : O2 ixD (eL o a) eI a (fun xs i => atI xs i) := fun x y z h => by
  show atI (x.map a) y = _
  rw [atI_map]; simp [h]
theorem o2_ixC : O2 ixD eC eI eI (fun xs i => atI xs i) := fun x y z h => by show (atI x y).map D.int = _; simp [h]; rfl
theorem o2_ixS : O2 ixD eS eI eS ixS := fun x y z h => by
  unfold ixS at h; split at h
  · rename_i q
    cases w : atI x y with
    | none => rw [w] at h; cases h
    | some c =>
      rw [w] at h; cases h
      show (if (x.map Char.toNat).length ≤ LIM then (atI (x.map Char.toNat) y).map fun k => D.str [k] else none) = _
      rw [if_pos (by simpa using q), atI_map, w]; rfl
  · cases h
theorem x_pr {α β : Type} {e : α → D} {f : β → D} {m : RM} {ρ : List D} {o : Option α} (k : Int) (p : α → β) (hp : ∀ x, ixD (e x) (.int k) = some (f (p x))) (h : Ev e m ρ o) : Ev f (m2 ixD m (kM (.int k))) ρ (o.bind fun x => some (p x)) := fun z hz => by
  obtain ⟨x, h1, h2⟩ := ob_some hz; cases h2
  rw [LI.ev_m2, h x h1, Option.bind_some, LI.ev_k, Option.bind_some, hp]
theorem eo_no {ρ : List D} : Eo noM ρ (some none) := fun x h => by cases h; rfl
theorem eo_so {m : RM} {ρ : List D} {o : Option Int} (h : Ev eI m ρ o) : Eo (soM m) ρ (o.bind fun x => some (some x)) := fun z hz => by
  obtain ⟨x, h1, h2⟩ := ob_some hz; cases h2
  rw [ev_soM, h x h1]; rfl
def slS (lo hi : Option Int) (s : Ts) : Option Ts := if s.length ≤ LIM then some (cutL s lo hi) else none
class Sl {α : Type} {β : outParam Type} (e : α → D) (f : outParam (β → D)) (g : outParam (Option Int → Option Int → α → Option β)) : Prop where
  sl : ∀ lo hi x z, g lo hi x = some z → slD lo hi (e x) = some (f z)
instance {α : Type} {a : α → D} {o : Bool} [Fz a] : Sl (eL o a) (eL true a) (fun lo hi xs => some (cutL xs lo hi)) := ⟨fun lo hi x z h => by cases h; simp [eL, slD, Fz.fz, cutL_map]⟩
instance : Sl eC (eL true eI) (fun lo hi xs => some (cutL xs lo hi)) := ⟨fun lo hi x z h => by cases h; rfl⟩
instance : Sl eS eS slS := ⟨fun lo hi x z h => by
  unfold slS at h; split at h
  · cases h; simp [eS, slD, *, cutL_map]
  · cases h⟩
theorem x_sl {α β : Type} {e : α → D} {f : β → D} {g : Option Int → Option Int → α → Option β} [Sl e f g] {m : RM} {lo hi : OM} {ρ : List D} {o : Option α} {ol oh : Option (Option Int)} (h : Ev e m ρ o) (hl : Eo lo ρ ol) (hh : Eo hi ρ oh) :
    Ev f (slM m lo hi) ρ (o.bind fun x => ol.bind fun l => oh.bind fun h => g l h x) := fun z hz => by
  obtain ⟨x, h1, h2⟩ := ob_some hz
  obtain ⟨y, h3, h4⟩ := ob_some h2
  obtain ⟨u, h5, h6⟩ := ob_some h4
  rw [ev_slM, h x h1, Option.bind_some, hl y h3, Option.bind_some, hh u h5, Option.bind_some, Sl.sl y u x z h6]
def eV {α : Type} (e : α → D) (xs : List α) : D := .tup (xs.map e)
instance {α : Type} {a : α → D} : Ng (eV a) := ⟨fun _ => rfl⟩
instance {α : Type} {a : α → D} : No (eV a) := ⟨fun _ => rfl⟩
instance {α : Type} {a : α → D} [Fz a] : Fz (eV a) := ⟨fun x => by simp [eV, Fz.fz]⟩
instance {α : Type} {a a' : α → D} [Ic a a'] : Ic (eV a) (eV a') := ⟨fun x => by simp [eV, Ic.ic (e := a)]⟩
instance {α : Type} {a : α → D} [Fz a] : Sl (eV a) (eV a) (fun lo hi xs => some (cutL xs lo hi)) := ⟨fun lo hi x z h => by cases h; simp [eV, slD, Fz.fz, cutL_map]⟩
instance {α : Type} {e : α → D} {n : Nat} [Pe e n] : Pe (eV e) (n + 1) := ⟨fun xs => .tuple (xs.map (Pe.p e)), fun xs => by simp [eV, toP, pe_toL], fun xs => by simp [PyData.canLay0, pe_lays], fun xs => by
  have := pe_deps (e := e) xs; simp [PyData.depth]; omega, fun x y => by simp [PyData.eqv, pe_eqs]⟩

def inS (x z : Ts) : Option Bool := match x with | [c] => some (decide (c ∈ z)) | _ => none
theorem mem_toNat {c : Char} {z : Ts} : c.toNat ∈ z.map Char.toNat ↔ c ∈ z := by
  rw [List.mem_map]
  exact ⟨fun ⟨x, h1, h2⟩ => toNat_inj h2 ▸ h1, fun h => ⟨c, h, rfl⟩⟩
theorem inB_S {x z : Ts} {k : Bool} (h : inS x z = some k) : inB (eS x) (eS z) = some k := by
  unfold inS at h
  split at h
  · cases h
    show some (decide (Char.toNat _ ∈ z.map Char.toNat)) = _
    congr 1
    exact decide_eq_decide.mpr mem_toNat
  · cases h
def memT {α : Type} [DecidableEq α] (x : α) (xs : List α) : Bool := decide (x ∈ xs)
class In {α β : Type} (a : α → D) (b : β → D) (g : outParam (α → β → Option Bool)) : Prop where
  is : ∀ x y k, g x y = some k → inB (a x) (b y) = some k
instance : In eS eS inS := ⟨fun _ _ _ h => inB_S h⟩
instance : In eS eK (fun x ss => some (memT x ss)) := ⟨fun x y k h => by
  cases h; unfold memT
  have : inB (eS x) (eK y) = some ((y.map fun s => s.map Char.toNat).any fun u => u == x.map Char.toNat) := by
    unfold eS eK
    rcases x with _ | ⟨c, _ | ⟨c2, t⟩⟩ <;> rfl
  rw [this]
  congr 1
  rw [Bool.eq_iff_iff]
  simp only [List.any_eq_true, List.mem_map, beq_iff_eq, decide_eq_true_iff]
  exact ⟨fun ⟨u, ⟨s, h1, h2⟩, h3⟩ => by rw [← h2, ts_map_inj] at h3; rw [← h3]; exact h1, fun h => ⟨_, ⟨x, h, rfl⟩, rfl⟩⟩⟩
class Ef {α : Type} (e : α → D) : Prop where
  fl : ∀ x, flatD (e x) = true
  eq : ∀ x y, eqF (e x) (e y) = true ↔ x = y
instance : Ef eI := ⟨fun _ => rfl, fun x y => by simp [eI, eqF]⟩
instance : Ef eB := ⟨fun _ => rfl, fun x y => by simp [eB, eqF]⟩
instance : Ef eS := ⟨fun _ => rfl, fun x y => by simp [eS, eqF]; exact ts_map_inj⟩
theorem in_flat {α : Type} [DecidableEq α] {e : α → D} [Ef e] (x : α) (xs : List α) : ((xs.map e).any fun y => eqF y (e x)) = decide (x ∈ xs) := by
  rw [Bool.eq_iff_iff]
  simp only [List.any_eq_true, List.mem_map, decide_eq_true_iff]
  exact ⟨fun ⟨_, ⟨y, h1, h2⟩, h3⟩ => by rw [← h2, Ef.eq] at h3; rw [← h3]; exact h1, fun h => ⟨_, ⟨x, h, rfl⟩, (Ef.eq x x).mpr rfl⟩⟩
instance {α : Type} [DecidableEq α] {e : α → D} [Ef e] {o : Bool} : In e (eL o e) (fun x xs => some (memT x xs)) := ⟨fun x y k h => by
  cases h; unfold memT
  have q : inB (e x) (eL o e y) = if flatD (e x) = true ∧ (y.map e).all flatD = true then some ((y.map e).any fun z => eqF z (e x)) else none := by
    unfold eL
    cases h : e x <;> try rfl
    rename_i s
    rcases s with _ | ⟨c, _ | ⟨c2, t⟩⟩ <;> rfl
  rw [q, if_pos ⟨Ef.fl x, by simp [Ef.fl]⟩, in_flat]⟩
instance {α : Type} [DecidableEq α] {e : α → D} [Ef e] : In e (eV e) (fun x xs => some (memT x xs)) := ⟨fun x y k h => by
  cases h; unfold memT
  have q : inB (e x) (eV e y) = if flatD (e x) = true ∧ (y.map e).all flatD = true then some ((y.map e).any fun z => eqF z (e x)) else none := by
    unfold eV
    cases h : e x <;> try rfl
    rename_i s
    rcases s with _ | ⟨c, _ | ⟨c2, t⟩⟩ <;> rfl
  rw [q, if_pos ⟨Ef.fl x, by simp [Ef.fl]⟩, in_flat]⟩
theorem o1_lenL {α : Type} {a : α → D} {o : Bool} : O1 (fun d => lenD [d]) (eL o a) eI (fun xs => some (xs.length : Int)) := o1_tot fun x => by simp [eL, lenD]; rfl
theorem o1_lenC : O1 (fun d => lenD [d]) eC eI (fun xs => some (xs.length : Int)) := o1_tot fun x => rfl
theorem o1_listL {α : Type} {a : α → D} [Fz a] {o : Bool} : O1 (fun d => listD [d]) (eL o a) (eL true a) (fun x => some x) := o1_tot fun x => by simp [eL, listD, Fz.fz]
theorem x_isi {α : Type} {e : α → D} {ty : String} {m : RM} {ρ : List D} {o : Option α} (k : α → Bool) (hk : ∀ x, ((tyD (e x)).bind fun t => kitB t ty) = some (k x)) (h : Ev e m ρ o) : Ev eB (isiM ty m) ρ (o.bind fun x => some (k x)) := fun z hz => by
  obtain ⟨x, h1, h2⟩ := ob_some hz; cases h2
  have := hk x
  rw [LI.ev_isi, h x h1, Option.bind_some]
  cases w : tyD (e x) with
  | none => rw [w] at this; cases this
  | some t => rw [w, Option.bind_some] at this; rw [Option.bind_some, this]; rfl
section
variable {α τ β : Type} {e e' : α → D} {et et' : τ → List D} {z : Bool} {m : RM} {ms : AM} {ρ : List D} {o : Option α} {os : Option τ}
theorem ea_nil : Ea (τ := Unit) (fun _ => []) (fun _ => []) true nilM ρ (some ()) := ⟨fun x h => by cases h; rfl, fun _ => rfl, fun _ _ => rfl⟩
theorem ea_cons [Ic e e'] [Fz e] (h : Ev e m ρ o) (hs : Ea et et' z ms ρ os) : Ea (fun t : α × τ => e t.1 :: et t.2) (fun t => e' t.1 :: et' t.2) z (consM m ms) ρ (o.bind fun x => os.bind fun xs => some (x, xs)) :=
  ⟨fun x hx => by
    obtain ⟨y, h1, h2⟩ := ob_some hx
    obtain ⟨ys, h3, h4⟩ := ob_some h2
    cases h4
    rw [LI.ev_cons, h y h1, Option.bind_some, hs.run ys h3]; rfl, fun x => by rw [iceL_cons, Ic.ic (e := e), hs.ic], fun hz x => by rw [fzL_cons, Fz.fz, hs.fz hz]; rfl⟩
theorem x_tup {f : β → D} (k : τ → β) (hs : Ea et et' true ms ρ os) (hk : ∀ t, f (k t) = .tup (et t)) (hl : ∀ t, (et t).length ≤ LIM) : Ev f (tupM ms) ρ (os.bind fun t => some (k t)) := fun x hx => by
  obtain ⟨t, h1, h2⟩ := ob_some hx; cases h2
  rw [LI.ev_tup, hs.run t h1, Option.bind_some, if_pos ⟨hs.fz rfl t, hl t⟩, hk]
theorem x_lst {f : β → D} (k : τ → β) (hs : Ea et et' true ms ρ os) (hk : ∀ t, f (k t) = .lst true (et t)) (hl : ∀ t, (et t).length ≤ LIM) : Ev f (lstM ms) ρ (os.bind fun t => some (k t)) := fun x hx => by
  obtain ⟨t, h1, h2⟩ := ob_some hx; cases h2
  rw [LI.ev_lst, hs.run t h1, Option.bind_some, if_pos ⟨hs.fz rfl t, hl t⟩, hk]
def Tf {σ : Type} (et' : τ → List D) (er : σ → D) (F : FM) (t : τ → Option σ) : Prop := ∀ x r, t x = some r → ∃ ds', F (et' x) = some (er r, ds')
theorem x_call {σ : Type} {er : σ → D} {F : FM} {t : τ → Option σ} (hT : Tf et' er F t) (hs : Ea et et' true ms ρ os) : Ev er (callM F ms) ρ (os.bind t) := fun r hr => by
  obtain ⟨x, h1, h2⟩ := ob_some hr
  obtain ⟨ds', h3⟩ := hT x r h2
  rw [LI.ev_call, hs.run x h1, Option.bind_some, hs.ic, h3, Option.bind_some, if_pos (.inl (hs.fz rfl x))]
end

def rngT (n : Int) : Option (List Int) := if -(2 ^ 62) ≤ n ∧ n < 2 ^ 62 then some ((List.range n.toNat).map fun (k : Nat) => (k : Int)) else none
class It1 {α : Type} {β : outParam Type} (e : α → D) (f : outParam (β → D)) (g : outParam (α → List β)) : Prop where
  it : ∀ x, itemsV (e x) = some ((g x).map f)
  fr : ∀ x, frz (e x) = true → itemsD (e x) = some ((g x).map f)
class Ls1 {α : Type} {β : outParam Type} (e : α → D) (f : outParam (β → D)) (g : outParam (α → List β)) : Prop where
  ls : ∀ x, lstD (e x) = some ((g x).map f)
def chars (s : Ts) : List Ts := s.map fun c => [c]
instance {α : Type} {a : α → D} [Fz a] {o : Bool} : It1 (eL o a) a (fun x => x) := ⟨fun x => by simp [eL, itemsV, Fz.fz], fun x h => by
  cases o with
  | true => simp [eL] at h
  | false => simp [eL, itemsD, Fz.fz]⟩
instance {α : Type} {a : α → D} [Fz a] : It1 (eV a) a (fun x => x) := ⟨fun x => by simp [eV, itemsV, itemsD, Fz.fz], fun x h => by simp [eV, itemsD, Fz.fz]⟩
instance : It1 eC eI (fun x => x) := ⟨fun x => rfl, fun x _ => rfl⟩
theorem chars_map (s : Ts) : strsD (s.map Char.toNat) = (chars s).map eS := by
  unfold strsD chars; rw [List.map_map, List.map_map]; rfl
instance : It1 eS eS chars := ⟨fun x => by show some (strsD _) = _; rw [chars_map], fun x _ => by show some (strsD _) = _; rw [chars_map]⟩
instance {α : Type} {a : α → D} [Fz a] : Ls1 (eL false a) a (fun x => x) := ⟨fun x => by simp [eL, lstD, Fz.fz]⟩
instance : Ls1 eC eI (fun x => x) := ⟨fun x => rfl⟩
section
variable {α β γ δ : Type} {e : α → D} {f : β → D} {g : α → List β} {m ma mb : RM} {ρ : List D} {o : Option α}
theorem ei_it [It1 e f g] [Fz e] (h : Ev e m ρ o) : Ei f (itM m) ρ (o.bind fun x => some (g x)) := fun z hz => by
  obtain ⟨x, h1, h2⟩ := ob_some hz; cases h2
  rw [ev_it, h x h1]; exact It1.fr x (Fz.fz x)
theorem ei_itV [It1 e f g] (h : Ev e m ρ o) : Ei f (itV m) ρ (o.bind fun x => some (g x)) := fun z hz => by
  obtain ⟨x, h1, h2⟩ := ob_some hz; cases h2
  rw [ev_itV, h x h1]; exact It1.it x
theorem ei_rng1 {o : Option Int} (h : Ev eI m ρ o) : Ei eI (rng1M m) ρ (o.bind rngT) := fun z hz => by
  obtain ⟨x, h1, h2⟩ := ob_some hz
  unfold rngT at h2; split at h2
  · rename_i q
    cases h2
    rw [ev_rng1, h x h1]
    show rng1D (.int x) = _
    show (if -(2 ^ 62) ≤ x ∧ x < 2 ^ 62 then some (upD 0 x.toNat) else none) = _
    rw [if_pos q, upD0, List.map_map]; rfl
  · cases h2
end
def compG {α β : Type} (p : α → Option Bool) (g : α → Option β) : List α → Option (List β)
  | [] => some []
  | x :: xs => (p x).bind fun k => if k = true then (g x).bind fun y => (compG p g xs).bind fun ys => some (y :: ys) else compG p g xs
def compT {α β : Type} (p : α → Option Bool) (g : α → Option β) (xs : List α) : Option (List β) := if xs.length ≤ LIM then compG p g xs else none
theorem compL_T {α β : Type} {e : α → D} {f : β → D} [Fz f] {t : TgM} {mc : BM} {me : RM} {ρ0 : List D} {env : α → List D} {p : α → Option Bool} {g : α → Option β} (ht : ∀ x, t (e x) ρ0 = some (env x)) (hc : ∀ x, Et mc (env x) (p x)) (he : ∀ x, Ev f me (env x) (g x)) :
    ∀ (xs : List α) (ys : List β), compG p g xs = some ys → compL t mc me ρ0 (xs.map e) = some (ys.map f)
  | [], ys, h => by cases h; rfl
  | x :: xs, ys, h => by
    obtain ⟨k, h1, h2⟩ := ob_some h
    rw [List.map_cons, compL, ht, Option.bind_some, hc x k h1, Option.bind_some]
    cases k with
    | true =>
      rw [if_pos rfl] at h2 ⊢
      obtain ⟨y, h3, h4⟩ := ob_some h2
      obtain ⟨zs, h5, h6⟩ := ob_some h4
      cases h6
      rw [he x y h3, Option.bind_some, if_pos (Fz.fz y), compL_T ht hc he xs zs h5]; rfl
    | false =>
      simp only [if_neg Bool.false_ne_true] at h2 ⊢
      exact compL_T ht hc he xs ys h2
theorem x_comp {α β : Type} {e : α → D} {f : β → D} [Fz f] {vs : List Nat} {t : TgM} {mc : BM} {me : RM} {ms : AM} {ρ : List D} {p : α → Option Bool} {g : α → Option β} {o : Option (List α)} (env : α → List D) (hi : Ei e ms ρ o) (ht : ∀ x, t (e x) (goneAt ρ vs) = some (env x)) (hc : ∀ x, Et mc (env x) (p x)) (he : ∀ x, Ev f me (env x) (g x)) :
    Ev (eL true f) (compM vs t mc me ms) ρ (o.bind fun xs => compT p g xs) := fun ys hy => by
  obtain ⟨xs, h1, h2⟩ := ob_some hy
  unfold compT at h2; split at h2
  · rename_i q
    rw [LI.ev_comp, hi xs h1, Option.bind_some, if_pos (by simpa using q), compL_T ht hc he xs ys h2]; rfl
  · cases h2
theorem et_yes {ρ : List D} : Et yesB ρ (some true) := fun x h => by cases h; rfl
end LI
namespace LI
open PySem L2

def Bk {τ : Type} (Q : Fl → List D → τ → Prop) (m : SM) (ρ : List D) (o : Option τ) : Prop := ∀ t, o = some t → ∃ fl ρ', m ρ = some (fl, ρ') ∧ Q fl ρ' t
def nxB : Fl → Bool
  | .nx => true | _ => false
def goB : Fl → Bool
  | .nx => true | .ct => true | _ => false
def rtB : Fl → Bool
  | .rt _ => true | .ex _ _ _ => true | _ => false
def Qn {τ : Type} (Q : Fl → List D → τ → Prop) : Fl → List D → τ → Prop := fun fl ρ t => nxB fl = false ∧ Q fl ρ t
def Qj {σ : Type} (kl : List Nat) (env : σ → List D) : Fl → List D → σ → Prop := fun fl ρ s => nxB fl = true ∧ goneAt ρ kl = env s
def Ql {σ : Type} (kl : List Nat) (env : σ → List D) : Fl → List D → σ → Prop := fun fl ρ s => goB fl = true ∧ goneAt ρ kl = env s
inductive St (σ τ : Type) where
  | nx (s : σ) | bk (s : σ) | rt (t : τ)
def Qs {σ τ : Type} (kl : List Nat) (env : σ → List D) (Q : Fl → List D → τ → Prop) : Fl → List D → St σ τ → Prop := fun fl ρ t => match t with
  | .nx s => goB fl = true ∧ goneAt ρ kl = env s
  | .bk s => fl = .bk ∧ goneAt ρ kl = env s
  | .rt t => rtB fl = true ∧ Q fl ρ t
def Qf {τ : Type} (e : τ → D) (kp : List Bool) (mk : τ → List D) : Fl → List D → τ → Prop := fun fl ρ r => (fl = .rt (e r) ∨ (fl = .nx ∧ e r = .non)) ∧ maskL kp ρ = mk r

def seqT {σ τ : Type} (u : σ ⊕ τ) (k : σ → Option τ) : Option τ := match u with
  | .inl s => k s
  | .inr t => some t
theorem nxB_nx {fl : Fl} (h : nxB fl = true) : fl = .nx := by cases fl <;> first | rfl | cases h
section
variable {α β σ τ : Type} {Q : Fl → List D → τ → Prop} {e e' : α → D} {env : α → List D} {m r a b : SM} {g : GM} {mm : RM} {ρ : List D} {o : Option α} {oc : Option Bool} {c : BM} {k : α → Option τ}
theorem eg_f (h : Ev e mm ρ o) : Eg e (fun _ => ρ) (upF mm) ρ o := fun x hx => by rw [ev_upF, h x hx]; rfl
theorem eg_r [Fz e] (h : Ev e mm ρ o) : Eg e (fun _ => ρ) (upR mm) ρ o := fun x hx => by rw [ev_upR, h x hx, Option.bind_some, if_pos (Fz.fz x)]
theorem eg_mv {L : Lens} (e : α → D) (x : α) (ρ' : List D) (h : L.get ρ = some (e x)) (h2 : L.put ρ .gone = ρ') : Eg e (fun _ => ρ') (mvM L) ρ (some x) := fun y hy => by
  cases hy; rw [LI.ev_mv, h, Option.bind_some, h2]
theorem b_asg {f : TgM} (env2 : α → List D) (h : Eg e env g ρ o) (hf : ∀ x, f (e x) (env x) = some (env2 x)) (h2 : ∀ x, Bk Q m (env2 x) (k x)) : Bk Q (seqM (asgM f g) m) ρ (o.bind k) := fun t ht => by
  obtain ⟨x, h3, h4⟩ := ob_some ht
  obtain ⟨fl, ρ', h5, h6⟩ := h2 x t h4
  refine ⟨fl, ρ', ?_, h6⟩
  unfold seqM asgM
  rw [h x h3, Option.bind_some, hf]
  exact h5
theorem b_asgI {f : TgM} {i : Nat} (env2 : α → List D) (h : Eg e env g ρ o) (hf : ∀ x, (f (e x) (env x)).map (iceAt i) = some (env2 x)) (h2 : ∀ x, Bk Q m (env2 x) (k x)) : Bk Q (seqM (iceM i (asgM f g)) m) ρ (o.bind k) := fun t ht => by
  obtain ⟨x, h3, h4⟩ := ob_some ht
  obtain ⟨fl, ρ', h5, h6⟩ := h2 x t h4
  refine ⟨fl, ρ', ?_, h6⟩
  have := hf x
  cases w : f (e x) (env x) with
  | none => rw [w] at this; cases this
  | some ρ1 =>
    rw [w] at this
    have e2 : iceAt i ρ1 = env2 x := Option.some.inj this
    rw [← e2] at h5
    unfold seqM iceM asgM
    rw [h x h3, Option.bind_some, w]
    exact h5
theorem b_expr (h : Eg e env g ρ o) (h2 : ∀ x, Bk Q m (env x) (k x)) : Bk Q (seqM (exprM g) m) ρ (o.bind k) := fun t ht => by
  obtain ⟨x, h3, h4⟩ := ob_some ht
  obtain ⟨fl, ρ', h5, h6⟩ := h2 x t h4
  refine ⟨fl, ρ', ?_, h6⟩
  unfold seqM exprM
  rw [h x h3]
  exact h5
theorem b_ret {k : α → τ} (h : Eg e env g ρ o) (h2 : ∀ x, Q (.rt (e x)) (env x) (k x)) : Bk Q (seqM (retM g) m) ρ (o.bind fun x => some (k x)) := fun t ht => by
  obtain ⟨x, h3, h4⟩ := ob_some ht
  cases h4
  refine ⟨_, _, ?_, h2 x⟩
  unfold seqM retM
  rw [h x h3]; rfl
theorem b_retI {e : τ → D} {env : τ → List D} {o : Option τ} (h : Eg e env g ρ o) (h2 : ∀ x, Q (.rt (e x)) (env x) x) : Bk Q (seqM (retM g) m) ρ o := fun t ht => by
  refine ⟨_, _, ?_, h2 t⟩
  unfold seqM retM
  rw [h t ht]; rfl
theorem b_nil {t : τ} (h : Q .nx ρ t) : Bk Q skipM ρ (some t) := fun t' ht => by cases ht; exact ⟨_, _, rfl, h⟩
theorem b_ifT {oa ob : Option τ} (hc : Et c ρ oc) (ha : Bk (Qn Q) a ρ oa) (hr : Bk Q r ρ ob) : Bk Q (seqM (ifM c a skipM) r) ρ (oc.bind fun k => if k = true then oa else ob) := fun t ht => by
  obtain ⟨x, h1, h2⟩ := ob_some ht
  cases x with
  | true =>
    rw [if_pos rfl] at h2
    obtain ⟨fl, ρ', h3, h4, h5⟩ := ha t h2
    refine ⟨fl, ρ', ?_, h5⟩
    unfold seqM ifM
    rw [hc _ h1, Option.bind_some, if_pos rfl, h3]
    cases fl <;> first | rfl | cases h4
  | false =>
    simp at h2
    obtain ⟨fl, ρ', h3, h4⟩ := hr t h2
    refine ⟨fl, ρ', ?_, h4⟩
    unfold seqM ifM
    rw [hc _ h1, Option.bind_some, if_neg Bool.false_ne_true]
    exact h3
theorem b_join {kl : List Nat} (env : σ → List D) {oa ob : Option σ} {k : σ → Option τ} (hc : Et c ρ oc) (ha : Bk (Qj kl env) a ρ oa) (hb : Bk (Qj kl env) b ρ ob) (hr : ∀ s, Bk Q r (env s) (k s)) : Bk Q (seqM (ifM c a b) (killM kl r)) ρ (oc.bind fun x => (if x = true then oa else ob).bind k) := fun t ht => by
  obtain ⟨x, h1, h2⟩ := ob_some ht
  obtain ⟨s, h3, h4⟩ := ob_some h2
  obtain ⟨fl, ρ', h5, h6⟩ := hr s t h4
  have main : ∀ m : SM, Bk (Qj kl env) m ρ (if x = true then oa else ob) → ifM c a b ρ = m ρ → ∃ fl ρ', seqM (ifM c a b) (killM kl r) ρ = some (fl, ρ') ∧ Q fl ρ' t := fun m hm he => by
    obtain ⟨f2, ρ2, h7, h8, h9⟩ := hm s h3
    refine ⟨fl, ρ', ?_, h6⟩
    unfold seqM
    rw [he, h7, nxB_nx h8]
    show r (goneAt ρ2 kl) = _
    rw [h9]; exact h5
  cases x with
  | true => exact main a ha (if_T (hc _ h1))
  | false => exact main b hb (if_F (hc _ h1))
end

def foldT {σ α : Type} (g : σ → α → Option σ) : List α → σ → Option σ
  | [], s => some s
  | x :: xs, s => (g s x).bind fun s => foldT g xs s
def forT {σ α τ : Type} (g : σ → α → Option (St σ τ)) : List α → σ → Option (σ ⊕ τ)
  | [], s => some (.inl s)
  | x :: xs, s => (g s x).bind fun u => match u with
    | .nx s => forT g xs s
    | .bk s => some (.inl s)
    | .rt t => some (.inr t)
section
variable {α σ τ : Type} {Q : Fl → List D → τ → Prop} {e : α → D} {r body : SM} {ρ : List D} {oxs : Option (List α)} {c : BM} {k : σ → Option τ} {ms : AM} {f : TgM} {kl : List Nat}
theorem for_fold1 (env : σ → List D) (env1 : σ → α → List D) {g : σ → α → Option σ} (hf : ∀ s x, f (e x) (env s) = some (env1 s x)) (hb : ∀ s x, Bk (Ql kl env) body (env1 s x) (g s x)) : ∀ (xs : List α) (s s' : σ), foldT g xs s = some s' → forL f body kl (xs.map e) (env s) = some (.nx, env s')
  | [], s, s', h => by cases h; rfl
  | x :: xs, s, s', h => by
    obtain ⟨s1, h1, h2⟩ := ob_some h
    obtain ⟨fl, ρ', h3, h4, h5⟩ := hb s x s1 h1
    rw [List.map_cons]; unfold forL
    rw [hf, Option.bind_some, h3, Option.bind_some]
    have ih := for_fold1 env env1 hf hb xs s1 s' h2
    cases fl with
    | nx => simp only [h5]; exact ih
    | ct => simp only [h5]; exact ih
    | bk => cases h4
    | rt d => cases h4
    | ex n fs es => cases h4
theorem b_for (env : σ → List D) (s0 : σ) (env1 : σ → α → List D) {g : σ → α → Option σ} (hi : Ei e ms ρ oxs) (hρ : ρ = env s0) (hf : ∀ s x, f (e x) (env s) = some (env1 s x)) (hb : ∀ s x, Bk (Ql kl env) body (env1 s x) (g s x)) (hr : ∀ s, Bk Q r (env s) (k s)) :
    Bk Q (seqM (forM f body kl ms) r) ρ (oxs.bind fun xs => (foldT g xs s0).bind k) := fun t ht => by
  obtain ⟨xs, h1, h2⟩ := ob_some ht
  obtain ⟨s, h3, h4⟩ := ob_some h2
  obtain ⟨fl, ρ', h5, h6⟩ := hr s t h4
  refine ⟨fl, ρ', ?_, h6⟩
  unfold seqM
  rw [for_at (hi xs h1), hρ, for_fold1 env env1 hf hb xs s0 s h3]
  exact h5
theorem for_step1 (env : σ → List D) (env1 : σ → α → List D) {g : σ → α → Option (St σ τ)} (hf : ∀ s x, f (e x) (env s) = some (env1 s x)) (hb : ∀ s x, Bk (Qs kl env Q) body (env1 s x) (g s x)) : ∀ (xs : List α) (s : σ) (u : σ ⊕ τ), forT g xs s = some u →
    ∃ fl ρ', forL f body kl (xs.map e) (env s) = some (fl, ρ') ∧ match u with | .inl s => fl = .nx ∧ ρ' = env s | .inr t => rtB fl = true ∧ Q fl ρ' t
  | [], s, u, h => by cases h; exact ⟨_, _, rfl, rfl, rfl⟩
  | x :: xs, s, u, h => by
    obtain ⟨v, h1, h2⟩ := ob_some h
    obtain ⟨fl, ρ', h3, h4⟩ := hb s x v h1
    rw [List.map_cons]; unfold forL
    rw [hf, Option.bind_some, h3, Option.bind_some]
    cases v with
    | nx s1 =>
      obtain ⟨f2, ρ2, h5, h6⟩ := for_step1 env env1 hf hb xs s1 u h2
      refine ⟨f2, ρ2, ?_, h6⟩
      cases fl with
      | nx => simp only [h4.2]; exact h5
      | ct => simp only [h4.2]; exact h5
      | bk => cases h4.1
      | rt d => cases h4.1
      | ex n fs es => cases h4.1
    | bk s1 =>
      cases h2
      rw [h4.1]
      exact ⟨_, _, rfl, rfl, h4.2⟩
    | rt t =>
      cases h2
      cases fl with
      | rt d => exact ⟨_, _, rfl, h4⟩
      | ex n fs es => exact ⟨_, _, rfl, h4⟩
      | _ => cases h4.1
theorem b_forR (env : σ → List D) (s0 : σ) (env1 : σ → α → List D) {g : σ → α → Option (St σ τ)} (hi : Ei e ms ρ oxs) (hρ : ρ = env s0) (hf : ∀ s x, f (e x) (env s) = some (env1 s x)) (hb : ∀ s x, Bk (Qs kl env Q) body (env1 s x) (g s x)) (hr : ∀ s, Bk Q r (env s) (k s)) :
    Bk Q (seqM (forM f body kl ms) r) ρ (oxs.bind fun xs => (forT g xs s0).bind fun u => seqT u k) := fun t ht => by
  obtain ⟨xs, h1, h2⟩ := ob_some ht
  obtain ⟨u, h3, h4⟩ := ob_some h2
  obtain ⟨f2, ρ2, h7, h8⟩ := for_step1 env env1 hf hb xs s0 u h3
  unfold seqM
  rw [for_at (hi xs h1), hρ, h7, Option.bind_some]
  cases u with
  | inl s =>
    obtain ⟨rfl, rfl⟩ := h8
    exact hr s t h4
  | inr t2 =>
    cases h4
    cases f2 with
    | rt d => exact ⟨_, _, rfl, h8.2⟩
    | ex n fs es => exact ⟨_, _, rfl, h8.2⟩
    | _ => cases h8.1
end

theorem run_T {τ : Type} {e : τ → D} {n : Nat} {kp : List Bool} {m : SM} {ds : List D} {mk : τ → List D} {o : Option τ} {r : τ} (hl : (ds.length == kp.length) = true) (hb : Bk (Qf e kp mk) m (ds ++ List.replicate (n - ds.length) .gone) o) (h : o = some r) : runM n kp m ds = some (e r, mk r) := by
  obtain ⟨fl, ρ', h1, h2, h3⟩ := hb r h
  unfold runM
  rw [if_pos (by simpa using hl), h1, Option.bind_some]
  rcases h2 with rfl | ⟨rfl, h2⟩
  · rw [← h3]
  · rw [← h3, h2]
end LI
namespace LI
open PySem L2

theorem fzL {α : Type} {e : α → D} [Fz e] (xs : List α) : frzL (xs.map e) = true := frzL_map.mpr fun x _ => Fz.fz x
section
variable {α β γ τ σ : Type} {e : α → D} {env : α → List D} {m mo : RM} {ms : AM} {g : GM} {ρ : List D} {o : Option α} {L : Lens}
theorem ev_get {x : α} (h : L.get ρ = some (e x)) : Ev e L.get ρ (some x) := fun y hy => by cases hy; exact h
def appT {α : Type} (xs : List α) (x : α) : Option (List α) := if xs.length < LIM then some (xs ++ [x]) else none
theorem eg_app {a : α → D} {xs : List α} {env : List α → List D} (h : L.get ρ = some (eL true a xs)) (hx : Ev a m ρ o) (hp : ∀ ys, L.put ρ (eL true a ys) = env ys) : Eg (fun _ => .non) env (appL L m) ρ (o.bind fun x => appT xs x) := fun ys hy => by
  obtain ⟨x, h1, h2⟩ := ob_some hy
  unfold appT at h2
  split at h2
  · rename_i q
    cases h2
    rw [LI.ev_app, h, Option.bind_some, hx x h1, Option.bind_some]
    show (if (xs.map a).length < LIM then _ else none) = _
    rw [if_pos (by simpa using q), ← hp]
    simp [eL]
  · cases h2
theorem b_fld {Q : Fl → List D → τ → Prop} {r : SM} {k : α → Option τ} {n : Nat} {f : Str} (env2 : α → List D) (h : Eg e env g ρ o) (hp : ∀ x, ((L.get (env x)).bind fun self => (setFD n f (e x) self).map fun self' => L.put (env x) self') = some (env2 x)) (h2 : ∀ x, Bk Q r (env2 x) (k x)) : Bk Q (seqM (fldM n f L g) r) ρ (o.bind k) := fun t ht => by
  obtain ⟨x, h3, h4⟩ := ob_some ht
  obtain ⟨fl, ρ', h5, h6⟩ := h2 x t h4
  refine ⟨fl, ρ', ?_, h6⟩
  have := hp x
  unfold seqM fldM
  rw [h x h3, Option.bind_some]
  cases w1 : L.get (env x) with
  | none => rw [w1] at this; cases this
  | some self =>
    rw [w1, Option.bind_some] at this
    simp only [w1, Option.bind_some]
    cases w2 : setFD n f (e x) self with
    | none => rw [w2] at this; cases this
    | some s2 =>
      rw [w2] at this
      have e2 : L.put (env x) s2 = env2 x := Option.some.inj this
      rw [Option.map_some, e2]
      exact h5
def To {κ : Type} (ec : κ → D) (et : τ → List D) (er : σ → D) (F : FM) (t : κ → τ → Option σ) : Prop := ∀ x p r, t x p = some r → ∃ ds', F (ec x :: et p) = some (er r, ec x :: ds')
def Tn {κ : Type} (n : Nat) (et : τ → List D) (ec : κ → D) (F : FM) (t : τ → Option κ) : Prop := ∀ p r, t p = some r → ∃ ds', F (.obj true n [] [] :: et p) = some (.non, ec r :: ds')
theorem x_look {κ : Type} {ec ec' : κ → D} {et et' : τ → List D} {er : σ → D} {F : FM} {t : κ → τ → Option σ} {n : Nat} {nm : Str} {os : Option τ} {ok : Option κ} [Fz ec] [Ic ec ec'] (hk : ∀ x, isObjK n nm (ec x) = true) (hT : To ec' et' er F t) (ho : Ev ec mo ρ ok) (hs : Ea et et' true ms ρ os) :
    Ev er (lookM n nm mo F ms) ρ (ok.bind fun x => os.bind fun p => t x p) := fun r hr => by
  obtain ⟨x, h1, h2⟩ := ob_some hr
  obtain ⟨p, h3, h4⟩ := ob_some h2
  obtain ⟨ds', h5⟩ := hT x p r h4
  unfold lookM
  rw [ho x h1, Option.bind_some, hs.run p h3, Option.bind_some, if_pos (hk x), iceL_cons, Ic.ic (e := ec), hs.ic, h5, Option.bind_some, if_pos (.inl (by rw [fzL_cons, Fz.fz, hs.fz rfl]; rfl))]
theorem x_lookF {κ : Type} {ec ec' : κ → D} {et et' : τ → List D} {er : σ → D} {F : FM} {t : κ → τ → Option σ} {n : Nat} {nm : Str} {os : Option τ} {ok : Option κ} {z : Bool} [Nic er] [Ic ec ec'] (hk : ∀ x, isObjK n nm (ec x) = true) (hT : To ec' et' er F t) (ho : Ev ec mo ρ ok) (hs : Ea et et' z ms ρ os) :
    Ev er (lookM n nm mo F ms) ρ (ok.bind fun x => os.bind fun p => t x p) := fun r hr => by
  obtain ⟨x, h1, h2⟩ := ob_some hr
  obtain ⟨p, h3, h4⟩ := ob_some h2
  obtain ⟨ds', h5⟩ := hT x p r h4
  unfold lookM
  rw [ho x h1, Option.bind_some, hs.run p h3, Option.bind_some, if_pos (hk x), iceL_cons, Ic.ic (e := ec), hs.ic, h5, Option.bind_some, if_pos (.inr (Nic.ni r))]
theorem x_mk {κ : Type} {ec : κ → D} {et et' : τ → List D} {F : FM} {t : τ → Option κ} {n : Nat} {os : Option τ} (hT : Tn n et ec F t) (hs : Ea et et' true ms ρ os) : Ev ec (mkM n F ms) ρ (os.bind t) := fun r hr => by
  obtain ⟨p, h1, h2⟩ := ob_some hr
  obtain ⟨ds', h3⟩ := hT p r h2
  unfold mkM
  rw [hs.run p h1, Option.bind_some, if_pos (hs.fz rfl p), h3, Option.bind_some]
end
class Ki {α : Type} (e : α → D) (k : outParam String) : Prop where
  ki : ∀ x, tyD (e x) = some k
instance : Ki eI "int" := ⟨fun _ => rfl⟩
instance : Ki eB "bool" := ⟨fun _ => rfl⟩
instance : Ki eS "str" := ⟨fun _ => rfl⟩
instance : Ki eU "NoneType" := ⟨fun _ => rfl⟩
instance : Ki eC "list" := ⟨fun _ => rfl⟩
section
variable {α β γ δ ε ζ : Type} {a : α → D} {b : β → D} {c : γ → D} {d : δ → D} {e : ε → D} {f : ζ → D} {o : Bool}
instance : Ki (eL o a) "list" := ⟨fun _ => rfl⟩
instance : Ki (eV a) "tuple" := ⟨fun _ => rfl⟩
instance : Ki (e1 a) "tuple" := ⟨fun _ => rfl⟩
instance : Ki (e2 a b) "tuple" := ⟨fun _ => rfl⟩
instance : Ki (e3 a b c) "tuple" := ⟨fun _ => rfl⟩
instance : Ki (e4 a b c d) "tuple" := ⟨fun _ => rfl⟩
instance : Ki (e5 a b c d e) "tuple" := ⟨fun _ => rfl⟩
instance : Ki (e6 a b c d e f) "tuple" := ⟨fun _ => rfl⟩
end
theorem x_isK {α : Type} {e : α → D} {k ty : String} {b : Bool} [Ki e k] {m : RM} {ρ : List D} {o : Option α} (hb : kitB k ty = some b) (h : Ev e m ρ o) : Ev eB (isiM ty m) ρ (o.bind fun _ => some b) :=
  x_isi (fun _ => b) (fun x => by rw [Ki.ki (e := e), Option.bind_some, hb]) h
theorem x_isO {α : Type} {e : α → D} {k ty : String} {b : Bool} [Ki e k] {m : RM} {ρ : List D} {o : Option (Option α)} (hb : kitB k ty = some b) (hn : kitB "NoneType" ty = some false) (h : Ev (eO e) m ρ o) : Ev eB (isiM ty m) ρ (o.bind fun x => some (x.isSome && b)) :=
  x_isi (fun x => x.isSome && b) (fun x => by
    cases x with
    | none => show ((tyD D.non).bind fun t => kitB t ty) = _; exact hn
    | some x => show ((tyD (e x)).bind fun t => kitB t ty) = _; rw [Ki.ki (e := e), Option.bind_some, hb]; simp) h
end LI
namespace OW
end OW
theorem bind_same {α : Type} (x : Option α) : (x.bind fun y => some y) = x := Option.bind_fun_some x
namespace LI
open PySem L2

section
variable {α β γ κ τ σ τ1 τ2 : Type} {Q : Fl → List D → τ → Prop} {e e' : α → D} {env : α → List D} {m r : SM} {g : GM} {mm mi : RM} {ms1 ms2 : AM} {ρ : List D} {o : Option α} {k : α → Option τ} {L : Lens}
theorem ice_set {i : Nat} {x : α} {ρ2 : List D} [Ic e e'] (h : ρ[i]? = some (e x)) (h2 : ρ.set i (e' x) = ρ2) : iceAt i ρ = ρ2 := by
  unfold iceAt
  rw [h]
  show ρ.set i (ice (e x)) = ρ2
  rw [Ic.ic (e := e), h2]
theorem b_asgC {i : Nat} [ic : Ic e e'] (env2 : α → List D) (h : Eg e env g ρ o) (hl : ∀ x, decide (i < (env x).length) = true) (h2 : ∀ x, (env x).set i (e' x) = env2 x) (h3 : ∀ x, Bk Q m (env2 x) (k x)) : Bk Q (seqM (iceM i (asgM (nameT i) g)) m) ρ (o.bind k) :=
  b_asgI env2 h (fun x => by
    rw [ev_name, Option.map_some, ice_set (e := e) (x := x) (ρ2 := env2 x)]
    · rw [List.getElem?_set_self (of_decide_eq_true (hl x))]
    · rw [List.set_set, h2]) h3
end
end LI
namespace LI
open PySem L2

section
variable {α β γ κ τ σ ζ η : Type} {Q : Fl → List D → τ → Prop} {e e1 : α → D} {env env1 : α → List D} {m r a b : SM} {g ga gb : GM} {mm : RM} {ρ : List D} {o : Option α} {c : BM} {mc md : BGM} {oc od : Option (Bool × α)} {k : α → Option τ}
end
end LI
namespace LI
open PySem L2

def kS (s : Ts) : Key := .inr ⟨(s.map Char.toNat).toArray⟩
def kI (i : Int) : Key := .inl i
class Ky {κ : Type} (ek : κ → D) (kk : outParam (κ → Key)) : Prop where
  ky : ∀ x, keyD (ek x) = some (kk x)
  inj : ∀ x y, kk x = kk y → x = y
instance : Ky eI kI := ⟨fun _ => rfl, fun x y h => Sum.inl.inj h⟩
instance : Ky eS kS := ⟨fun _ => rfl, fun x y h => by
  have h1 : (⟨(x.map Char.toNat).toArray⟩ : Str) = ⟨(y.map Char.toNat).toArray⟩ := Sum.inr.inj h
  have h2 : (x.map Char.toNat).toArray = (y.map Char.toNat).toArray := congrArg (fun s : Str => s.cps) h1
  exact ts_map_inj.mp (Array.toList_inj.mpr h2)⟩
def eD {κ α : Type} (o : Bool) (kk : κ → Key) (a : α → D) (m : List (κ × α)) : D := .dK o (m.map fun p => kk p.1) (m.map fun p => a p.2)
section
variable {κ α β : Type} {o : Bool} {ek : κ → D} {kk : κ → Key} {a a' : α → D} {ρ : List D} {ma mb mc mk mv : RM} {ms mt : AM}
theorem frzL2 [Fz a] : ∀ m : List (κ × α), frzL (m.map fun p => a p.2) = true
  | [] => rfl
  | p :: m => by rw [List.map_cons]; show (frz (a p.2) && frzL _) = true; rw [Fz.fz, frzL2 m]; rfl
instance : Ng (eD o kk a) := ⟨fun _ => rfl⟩
instance [Fz a] : Fz (eD false kk a) := ⟨fun m => by
  show (!false && frzL (m.map fun p => a p.2)) = true
  rw [frzL2]; rfl⟩
instance [Ic a a'] : Ic (eD o kk a) (eD false kk a') := ⟨fun m => by
  show D.dK false _ (iceL (m.map fun p => a p.2)) = .dK false _ (m.map fun p => a' p.2)
  congr 1
  induction m with
  | nil => rfl
  | cons p m ih => simp [iceL, ih, Ic.ic (e := a)]⟩
def getT {κ α : Type} [DecidableEq κ] : List (κ × α) → κ → Option α
  | [], _ => none
  | p :: m, k => if p.1 = k then some p.2 else getT m k
theorem under_get [DecidableEq κ] [Ky ek kk] (k : κ) : ∀ m : List (κ × α), under (m.map fun p => kk p.1) (m.map fun p => a p.2) (kk k) = (getT m k).map a
  | [] => rfl
  | p :: m => by
    rw [List.map_cons, List.map_cons]
    unfold under getT
    by_cases h : p.1 = k
    · rw [if_pos h, if_pos (by rw [h])]; rfl
    · rw [if_neg h, if_neg (fun q => h (Ky.inj ek _ _ q)), under_get k m]
end
end LI
namespace LI
open PySem L2
def slX (l h : Option Int) : D → D
  | .tup ds => .tup (cutL ds l h)
  | d => d
def isTup : D → Bool
  | .tup _ => true | _ => false
theorem x_slK {α β : Type} {e : α → D} {f : β → D} [Fz e] {m : RM} {lo hi : OM} {ρ : List D} {o : Option α} (l h : Option Int) (k : α → β) (hk : ∀ x, slX l h (e x) = f (k x)) (ht : ∀ x, isTup (e x) = true) (hm : Ev e m ρ o) (hl : lo ρ = some l) (hh : hi ρ = some h) : Ev f (slM m lo hi) ρ (o.bind fun x => some (k x)) := fun z hz => by
  obtain ⟨x, h1, h2⟩ := ob_some hz
  cases h2
  rw [ev_slM, hm x h1, Option.bind_some, hl, Option.bind_some, hh, Option.bind_some]
  have h3 := hk x
  have h4 := ht x
  have h5 : frz (e x) = true := Fz.fz x
  cases hd : e x with
  | tup ds =>
    rw [hd] at h3 h5
    show (if frzL ds = true then some (D.tup (cutL ds l h)) else none) = _
    rw [if_pos (show frzL ds = true from h5), ← h3]; rfl
  | _ => rw [hd] at h4; cases h4
end LI
namespace LI
open PySem L2
class Tu {α : Type} (e : α → D) : Prop where
  tu : ∀ x, ∃ ds, e x = .tup ds
section
variable {α β γ δ ε ζ : Type} {a : α → D} {b : β → D} {c : γ → D} {d : δ → D} {e : ε → D} {f : ζ → D}
instance : Tu (e1 a) := ⟨fun _ => ⟨_, rfl⟩⟩
instance : Tu (e2 a b) := ⟨fun _ => ⟨_, rfl⟩⟩
instance : Tu (e3 a b c) := ⟨fun _ => ⟨_, rfl⟩⟩
instance : Tu (e4 a b c d) := ⟨fun _ => ⟨_, rfl⟩⟩
instance : Tu (e5 a b c d e) := ⟨fun _ => ⟨_, rfl⟩⟩
instance : Tu (e6 a b c d e f) := ⟨fun _ => ⟨_, rfl⟩⟩
end
def asL (o : Bool) : D → D
  | .tup ds => .lst o ds
  | d => d
def eH {α : Type} (o : Bool) (e : α → D) (x : α) : D := asL o (e x)
section
variable {α : Type} {o : Bool} {e e' : α → D}
instance [Tu e] : Ng (eH o e) := ⟨fun x => by obtain ⟨ds, h⟩ := Tu.tu (e := e) x; unfold eH; rw [h]; rfl⟩
instance [Tu e] : No (eH o e) := ⟨fun x => by obtain ⟨ds, h⟩ := Tu.tu (e := e) x; unfold eH; rw [h]; rfl⟩
instance [Tu e] [Fz e] : Fz (eH false e) := ⟨fun x => by
  obtain ⟨ds, h⟩ := Tu.tu (e := e) x
  have h2 : frz (e x) = true := Fz.fz x
  unfold eH; rw [h] at h2 ⊢
  show (!false && frzL ds) = true
  rw [show frzL ds = true from h2]; rfl⟩
instance [Tu e] [Tu e'] [Ic e e'] : Ic (eH o e) (eH false e') := ⟨fun x => by
  obtain ⟨ds, h⟩ := Tu.tu (e := e) x
  obtain ⟨ds', h'⟩ := Tu.tu (e := e') x
  have h2 : ice (e x) = e' x := Ic.ic x
  unfold eH; rw [h, h'] at h2; rw [h, h']
  have h3 : D.tup (iceL ds) = .tup ds' := h2
  show D.lst false (iceL ds) = .lst false ds'
  cases h3; rfl⟩
end
section
variable {α β σ τ : Type} {e : α → D} {env : α → List D} {g : GM} {ms : AGM} {ρ : List D} {o : Option α}
end
theorem bk_of {τ : Type} {Q : Fl → List D → τ → Prop} {m : SM} {ρ : List D} {o o' : Option τ} (h : Bk Q m ρ o) (e : ∀ t, o' = some t → o = some t) : Bk Q m ρ o' := fun t ht => h t (e t ht)
end LI
namespace LI
open PySem L2
section
variable {α β σ τ : Type} {o : Bool} {a : α → D} {xs : List α} {ρ : List D} {L : Lens} {mi : RM} {oi : Option Int} {envs : List α → List D} {g : GM}
end
end LI
namespace LI
open PySem L2
def eY {κ : Type} (kk : κ → List Key) (x : κ) : D := .key (kk x)
class KyT {κ : Type} (kk : κ → List Key) : Prop where
  inj : ∀ x y, kk x = kk y → x = y
def k2 {α β : Type} (a : α → Key) (b : β → Key) (t : α × β) : List Key := [a t.1, b t.2]
def k3 {α β γ : Type} (a : α → Key) (b : β → Key) (c : γ → Key) (t : α × β × γ) : List Key := [a t.1, b t.2.1, c t.2.2]
class Kj {α : Type} (a : α → Key) : Prop where
  inj : ∀ x y, a x = a y → x = y
instance : Kj kI := ⟨fun x y h => Sum.inl.inj h⟩
instance : Kj kS := ⟨fun x y h => Ky.inj eS x y h⟩
section
variable {α β γ κ τ : Type} {a : α → Key} {b : β → Key} {c : γ → Key} {kk : κ → List Key} {e : α → D} {e' : κ → D} {o : Bool} {ρ : List D} {m ma mb : RM} {ms : AM}
instance [Kj a] [Kj b] : KyT (k2 a b) := ⟨fun x y h => by
  unfold k2 at h
  simp only [List.cons.injEq, and_true] at h
  exact Prod.ext (Kj.inj _ _ h.1) (Kj.inj _ _ h.2)⟩
instance [Kj a] [Kj b] [Kj c] : KyT (k3 a b c) := ⟨fun x y h => by
  unfold k3 at h
  simp only [List.cons.injEq, and_true] at h
  exact Prod.ext (Kj.inj _ _ h.1) (Prod.ext (Kj.inj _ _ h.2.1) (Kj.inj _ _ h.2.2))⟩
instance : Ng (eY kk) := ⟨fun _ => rfl⟩
instance : Fz (eY kk) := ⟨fun _ => rfl⟩
instance : Ic (eY kk) (eY kk) := ⟨fun _ => rfl⟩
instance : No (eY kk) := ⟨fun _ => rfl⟩
def eDT {κ α : Type} (o : Bool) (kk : κ → List Key) (a : α → D) (m : List (κ × α)) : D := .dT o (m.map fun p => kk p.1) (m.map fun p => a p.2)
instance {a : α → D} : Ng (eDT o kk a) := ⟨fun _ => rfl⟩
instance {a : α → D} [Fz a] : Fz (eDT false kk a) := ⟨fun m => by
  show (!false && frzL (m.map fun p => a p.2)) = true
  rw [frzL2]; rfl⟩
instance {a a' : α → D} [Ic a a'] : Ic (eDT o kk a) (eDT false kk a') := ⟨fun m => by
  show D.dT false _ (iceL (m.map fun p => a p.2)) = .dT false _ (m.map fun p => a' p.2)
  congr 1
  induction m with
  | nil => rfl
  | cons p m ih => simp [iceL, ih, Ic.ic (e := a)]⟩
def putT {κ α : Type} [DecidableEq κ] (m : List (κ × α)) (k : κ) (v : α) : List (κ × α) := if (m.any fun p => decide (p.1 = k)) = true then m.map (fun p => if p.1 = k then (p.1, v) else p) else m ++ [(k, v)]
def putC {κ α : Type} [DecidableEq κ] (m : List (κ × α)) (k : κ) (v : α) : Option (List (κ × α)) := if m.length < LIM then some (putT m k v) else none
theorem put_any {κ2 : Type} [DecidableEq κ] [DecidableEq κ2] (f : κ → κ2) (hf : ∀ x y, f x = f y → x = y) (k : κ) : ∀ m : List (κ × α), ((m.map fun p => f p.1).any fun j => decide (j = f k)) = m.any fun p => decide (p.1 = k)
  | [] => rfl
  | p :: m => by
    rw [List.map_cons, List.any_cons, List.any_cons, put_any f hf k m]
    congr 1
    by_cases h : p.1 = k
    · rw [h]; simp
    · rw [decide_eq_false h, decide_eq_false (fun q => h (hf _ _ q))]
theorem put_map {κ2 : Type} [DecidableEq κ] [DecidableEq κ2] (f : κ → κ2) (hf : ∀ x y, f x = f y → x = y) (k : κ) (v : α) : ∀ m : List (κ × α), (((m.map fun p => f p.1).zip (m.map fun p => e p.2)).map fun p => if p.1 = f k then e v else p.2) = (m.map fun p => if p.1 = k then (p.1, v) else p).map fun p => e p.2
  | [] => rfl
  | p :: m => by
    simp only [List.map_cons, List.zip_cons_cons]
    rw [put_map f hf k v m]
    congr 1
    by_cases h : p.1 = k
    · rw [if_pos h, if_pos (by rw [h])]
    · rw [if_neg h, if_neg (fun q => h (hf _ _ q))]
theorem put_eq {κ2 : Type} [DecidableEq κ] [DecidableEq κ2] (f : κ → κ2) (hf : ∀ x y, f x = f y → x = y) (k : κ) (v : α) (m : List (κ × α)) : putL (m.map fun p => f p.1) (m.map fun p => e p.2) (f k) (e v) = ((putT m k v).map (fun p => f p.1), (putT m k v).map fun p => e p.2) := by
  unfold putL putT
  rw [put_any f hf]
  split
  · rw [put_map f hf]
    congr 1
    rw [List.map_map]
    apply List.map_congr_left
    intro p _
    show f p.1 = f (if p.1 = k then (p.1, v) else p).1
    split <;> rfl
  · simp
end
end LI
namespace LI
open PySem L2
section
variable {X : Cx} {cl : Nat → Addr} {E : En} {pos : Pos} {x : Str}
end
end LI
namespace LI
open PySem L2
section
variable {X : Cx} {pins : List (Addr × Obj)} {σ : L2.St} {H : Hp} {s : Shared}
end
end LI
namespace LI
open PySem L2
section
variable {X : Cx} {cl : Nat → Addr} {E : En} {e a b o i : Expr} {es : List Expr} {pos p apos cpos : Pos} {m ma mb : RM} {ms : AM} {L : Lens}
end
section
variable {α β γ κ τ : Type} {kk : κ → List Key} {kq : κ → Key} {ek : κ → D} {a : α → D} {o : Bool} {ρ : List D} {m ma mb : RM}
instance : Ki (eDT o kk a) "dict" := ⟨fun _ => rfl⟩
end
end LI
namespace LI
open PySem L2
def keyQ : Key → PyData
  | .inl i => .int i
  | .inr s => .str s
mutual
def toQ : D → Option PyData
  | .int i => some (.int i)
  | .str s => some (.str ⟨s.toArray⟩)
  | .key ks => some (.tuple (ks.map keyQ))
  | .tup ds => (toQL ds).map .tuple
  | _ => none
def toQL : List D → Option (List PyData)
  | [] => some []
  | d :: ds => (toQ d).bind fun p => (toQL ds).map fun ps => p :: ps
end
mutual
/-- a value that reads as data -/
def VD (K : PySem.W.Frag) (H : Hp) : PyData → V → Prop
  | .int i, v => v = .int i
  | .str s, v => v = .str s
  | .tuple ps, v => ∃ a xs, v = .ref a ∧ SqT K H a xs ∧ VDL K H ps xs
  | _, _ => False
def VDL (K : PySem.W.Frag) (H : Hp) : List PyData → List V → Prop
  | [], xs => xs = []
  | p :: ps, xs => ∃ y ys, xs = y :: ys ∧ VD K H p y ∧ VDL K H ps ys
end
section
variable {X : Cx} {pins : List (Addr × Obj)} {σ : L2.St} {H : Hp} {s : Shared}
end
theorem VDL.len {K : PySem.W.Frag} {H : Hp} : ∀ {ps : List PyData} {xs : List V}, VDL K H ps xs → ps.length = xs.length
  | [], xs, h => by obtain rfl : xs = [] := h; rfl
  | p :: ps, xs, ⟨y, ys, e, _, h⟩ => by subst e; simp [VDL.len h]
def isTupP : PyData → Bool
  | .tuple (_ :: _) => true
  | _ => false
def isPlP : PyData → Bool
  | .tuple _ => false
  | .none => false
  | _ => true
section
variable {X : Cx} {pins : List (Addr × Obj)} {σ : L2.St} {H : Hp} {s : Shared}
end
class Sd {α : Type} (e : α → D) (p : outParam (α → PyData)) (n : outParam Nat) : Prop where
  to : ∀ x, toQ (e x) = some (p x)
  al : ∀ x y, PySem.W.alike (p x) (p y) = true
  dp : ∀ x, (p x).depth ≤ n
  ok : (∀ x, isTupP (p x) = true) ∨ ∀ x, isPlP (p x) = true
def pI (i : Int) : PyData := .int i
def pS (s : Ts) : PyData := .str ⟨(s.map Char.toNat).toArray⟩
instance : Sd eI pI 0 := ⟨fun _ => rfl, fun _ _ => rfl, fun _ => Nat.zero_le _, .inr fun _ => rfl⟩
instance : Sd eS pS 0 := ⟨fun _ => rfl, fun _ _ => rfl, fun _ => Nat.zero_le _, .inr fun _ => rfl⟩
def p2 {α β : Type} (p : α → PyData) (q : β → PyData) (t : α × β) : PyData := .tuple [p t.1, q t.2]
def p3 {α β γ : Type} (p : α → PyData) (q : β → PyData) (r : γ → PyData) (t : α × β × γ) : PyData := .tuple [p t.1, q t.2.1, r t.2.2]
instance {α β : Type} {a : α → D} {b : β → D} {p : α → PyData} {q : β → PyData} {n m : Nat} [Sd a p n] [Sd b q m] : Sd (e2 a b) (p2 p q) (max n m + 1) := ⟨fun t => by
  show (toQL [a t.1, b t.2]).map PyData.tuple = _
  simp only [toQL, Sd.to (e := a), Sd.to (e := b)]; rfl, fun t u => by
  show PySem.W.alikeAll [p t.1, q t.2] [p u.1, q u.2] = true
  simp only [PySem.W.alikeAll, Sd.al (e := a), Sd.al (e := b)]; rfl, fun t => by
  show PyData.depthAll [p t.1, q t.2] + 1 ≤ _
  have h1 := Sd.dp (e := a) t.1
  have h2 := Sd.dp (e := b) t.2
  simp only [PyData.depthAll]; omega, .inl fun _ => rfl⟩
instance {α β γ : Type} {a : α → D} {b : β → D} {c : γ → D} {p : α → PyData} {q : β → PyData} {r : γ → PyData} {n m k : Nat} [Sd a p n] [Sd b q m] [Sd c r k] : Sd (e3 a b c) (p3 p q r) (max n (max m k) + 1) := ⟨fun t => by
  show (toQL [a t.1, b t.2.1, c t.2.2]).map PyData.tuple = _
  simp only [toQL, Sd.to (e := a), Sd.to (e := b), Sd.to (e := c)]; rfl, fun t u => by
  show PySem.W.alikeAll [p t.1, q t.2.1, r t.2.2] [p u.1, q u.2.1, r u.2.2] = true
  simp only [PySem.W.alikeAll, Sd.al (e := a), Sd.al (e := b), Sd.al (e := c)]; rfl, fun t => by
  show PyData.depthAll [p t.1, q t.2.1, r t.2.2] + 1 ≤ _
  have h1 := Sd.dp (e := a) t.1
  have h2 := Sd.dp (e := b) t.2.1
  have h3 := Sd.dp (e := c) t.2.2
  simp only [PyData.depthAll]; omega, .inl fun _ => rfl⟩
def pY2 (t : Int × Int) : PyData := .tuple [.int t.1, .int t.2]
instance : Sd (eY (k2 kI kI)) pY2 1 := ⟨fun _ => rfl, fun _ _ => rfl, fun _ => by
  show PyData.depthAll [_, _] + 1 ≤ 1
  simp [PyData.depthAll, PyData.depth], .inl fun _ => rfl⟩
end LI
namespace LI
open PySem L2
section
variable {c : LC} {E : En} {P P1 : Hp} {S S1 T U1 : FP} {σ σ1 : L2.St} {H H1 : Hp} {ρ ρ1 : List D}
def enOf (W : WX) (P H : Hp) (S : FP) (kp : List Bool) (σ : L2.St) (hk : ∀ i : Nat, kp[i]? = some true → ∃ v, σ[i]? = some (some v)) : En := ⟨P, H, S, kp, σ.map fun v => v.getD .non, fun i h => by
  obtain ⟨v, h2⟩ := hk i h
  exact ⟨v, by rw [List.getElem?_map, h2]; rfl⟩, W⟩
theorem Wd.keep {W : WX} (w : Wd c E P S T σ H ρ) {kp : List Bool} {hk : ∀ i : Nat, kp[i]? = some true → ∃ v, σ[i]? = some (some v)} (w1 : Wd c (enOf W P H S kp σ hk) P1 S1 U1 σ1 H1 ρ1) : ∀ a o, 0 < T a → H a = some o → H1 a = some o := fun a o h1 h2 => by
  have := w.le a
  exact w1.fr a o (by show S a = 0; omega) h2
end
section
variable {X : Cx} {cl : Nat → Addr} {E : En} {tg : Expr} {pos p : Pos} {x : Str}
end
end LI
namespace LI
open PySem L2
section
variable {X : Cx} {cl : Nat → Addr} {E : En} {es : List Expr} {pos : Pos} {ms : AGM}
end
section
variable {X : Cx} {cl : Nat → Addr} {E : En} {o : Expr} {pos apos : Pos} {g : GM}
end
def eGn (_ : Unit) : D := .gone
instance : Fz eGn := ⟨fun _ => rfl⟩
instance : Ng (eL true eGn) := ⟨fun _ => rfl⟩
section
variable {α β σ τ : Type} {Q : Fl → List D → τ → Prop} {e : α → D} {r body : SM} {ρ : List D} {k : σ → Option τ} {f : TgM} {kl : List Nat}
end
end LI
namespace LI
open PySem L2
section
variable {X : Cx} {cl : Nat → Addr} {E : En} {tg e2 : Expr} {pos p p2 tpos : Pos} {x : Str} {elts : List Expr} {kk : Nat} {m2 : RM}
end
section
variable {α β σ τ : Type} {Q : Fl → List D → τ → Prop} {e : α → D} {e2 : β → D} {r body : SM} {ρ : List D} {k : σ → Option τ} {f : TgM} {kl : List Nat} {mb : RM}
end
end LI
namespace LI
open PySem L2
section
variable {L : Lens}
end
section
variable {X : Cx} {cl : Nat → Addr} {E : En} {a : Expr} {pos p2 : Pos} {L : Lens}
end
section
variable {X : Cx} {cl : Nat → Addr} {E : En} {e : Expr} {pos apos : Pos} {g : GM}
end
section
variable {X : Cx} {cl : Nat → Addr} {E : En} {tg : Expr} {pos p p2 p3 : Pos} {x : Str}
end
section
variable {X : Cx} {cl : Nat → Addr} {E : En} {e : Expr} {m : RM}
end
section
variable {α β σ τ : Type} {Q : Fl → List D → τ → Prop} {e : α → D} {r body : SM} {ρ : List D} {k : σ → Option τ} {f : TgM} {kl : List Nat}
end
end LI
namespace LI
open PySem L2
section
variable {X : Cx} {cl : Nat → Addr} {E : En} {pos : Pos}
end
end LI
namespace LI
open PySem L2
section
variable {X : Cx} {cl : Nat → Addr} {E : En} {e a b : Expr} {es : List Expr} {pos : Pos} {m ma mb : RM} {ms : AM}
end
end LI
namespace LI
open PySem L2
section
variable {X : Cx} {cl : Nat → Addr} {E : En} {e o i : Expr} {pos pos' : Pos} {mi : RM} {g : GM} {L : Lens}
end
def eLh {α : Type} (i : Int) (a : α → D) (xs : List α) : D := .lst true (match ixN xs.length i with
  | some j => (xs.map a).set j .gone
  | none => xs.map a)
section
variable {α β γ σ τ κ : Type} {Q : Fl → List D → τ → Prop} {e : α → D} {env : α → List D} {m : SM} {ρ : List D} {L : Lens} {mi : RM} {g : GM} {o : Option α}
instance {i : Int} {a : α → D} : Ng (eLh i a) := ⟨fun _ => rfl⟩
instance {i : Int} {a : α → D} : No (eLh i a) := ⟨fun _ => rfl⟩
end
end LI
namespace LI
open PySem L2
def isiCM (n : Nat) (b : Bool) (m : RM) : RM := fun ρ => (m ρ).bind fun d => match d with
  | .obj _ k _ _ => if k = n then some (.bl b) else none
  | _ => none
section
variable {X : Cx} {cl : Nat → Addr} {E : En} {a : Expr} {pos p p2 : Pos} {ma : RM}
end
@[simp] theorem ev_isiC {n : Nat} {b : Bool} {m : RM} {ρ : List D} : isiCM n b m ρ = (m ρ).bind fun d => match d with
  | .obj _ k _ _ => if k = n then some (.bl b) else none
  | _ => none := (rfl)
instance {κ α : Type} [DecidableEq κ] {ek : κ → D} {kk : κ → Key} [Ky ek kk] {o : Bool} {a : α → D} : In ek (eD o kk a) (fun x m => some (getT m x).isSome) := ⟨fun x m k h => by
  cases h
  have q : inB (ek x) (eD o kk a m) = (keyD (ek x)).map fun k => (under (m.map fun p => kk p.1) (m.map fun p => a p.2) k).isSome := by
    unfold eD
    cases h : ek x <;> try rfl
    rename_i s
    rcases s with _ | ⟨c, _ | ⟨c2, t⟩⟩ <;> rfl
  rw [q, Ky.ky (ek := ek), Option.map_some, under_get (ek := ek)]
  cases getT m x <;> rfl⟩
class Dc {α : Type} (e : α → D) (f : outParam (D → Option α)) : Prop where
  dc : ∀ d x, f d = some x → d = e x
  od : ∀ x, f (e x) = some x
def dI : D → Option Int
  | .int i => some i
  | _ => none
def dB : D → Option Bool
  | .bl i => some i
  | _ => none
def dU : D → Option Unit
  | .non => some ()
  | _ => none
def dS : D → Option Ts
  | .str s => if (s.map Char.ofNat).map Char.toNat = s then some (s.map Char.ofNat) else none
  | _ => none
def dAll {α : Type} (f : D → Option α) : List D → Option (List α)
  | [] => some []
  | d :: ds => (f d).bind fun x => (dAll f ds).bind fun xs => some (x :: xs)
def dL {α : Type} (f : D → Option α) : D → Option (List α)
  | .lst false ds => dAll f ds
  | _ => none
def dV {α : Type} (f : D → Option α) : D → Option (List α)
  | .tup ds => dAll f ds
  | _ => none
def d2 {α β : Type} (f : D → Option α) (g : D → Option β) : D → Option (α × β)
  | .tup [a, b] => (f a).bind fun x => (g b).bind fun y => some (x, y)
  | _ => none
def d3 {α β γ : Type} (f : D → Option α) (g : D → Option β) (h : D → Option γ) : D → Option (α × β × γ)
  | .tup [a, b, c] => (f a).bind fun x => (g b).bind fun y => (h c).bind fun z => some (x, y, z)
  | _ => none
def d4 {α β γ δ : Type} (f : D → Option α) (g : D → Option β) (h : D → Option γ) (i : D → Option δ) : D → Option (α × β × γ × δ)
  | .tup [a, b, c, d] => (f a).bind fun x => (g b).bind fun y => (h c).bind fun z => (i d).bind fun u => some (x, y, z, u)
  | _ => none
def d6 {α β γ δ ε ζ : Type} (f : D → Option α) (g : D → Option β) (h : D → Option γ) (i : D → Option δ) (j : D → Option ε) (k : D → Option ζ) : D → Option (α × β × γ × δ × ε × ζ)
  | .tup [a, b, c, d, e, l] => (f a).bind fun x => (g b).bind fun y => (h c).bind fun z => (i d).bind fun u => (j e).bind fun v => (k l).bind fun w => some (x, y, z, u, v, w)
  | _ => none
theorem ofNat_toNat (c : Char) : Char.ofNat c.toNat = c := by
  apply Char.ext
  have := Char.ofNat_toNat c
  exact congrArg Char.val this
theorem ts_back (s : Ts) : (s.map Char.toNat).map Char.ofNat = s := by
  rw [List.map_map]
  conv => rhs; rw [← List.map_id s]
  exact List.map_congr_left fun c _ => ofNat_toNat c
instance : Dc eI dI where
  dc := fun d x h => by cases d <;> simp [dI] at h; rw [h]; rfl
  od := fun _ => rfl
instance : Dc eB dB where
  dc := fun d x h => by cases d <;> simp [dB] at h; rw [h]; rfl
  od := fun _ => rfl
instance : Dc eU dU where
  dc := fun d x h => by cases d <;> simp [dU] at h; rfl
  od := fun _ => rfl
instance : Dc eS dS where
  dc := fun d x h => by
    cases d with
    | str s =>
      unfold dS at h
      dsimp only at h
      split at h
      · rename_i q
        cases h
        unfold eS; rw [q]
      · cases h
    | _ => cases h
  od := fun x => by
    show (if _ then _ else _) = _
    rw [ts_back, if_pos rfl]
  theorem dAll_dc {α : Type} {e : α → D} {f : D → Option α} [Dc e f] : ∀ (ds : List D) (xs : List α), dAll f ds = some xs → ds = xs.map e
    | [], xs, h => by cases h; rfl
    | d :: ds, xs, h => by
      obtain ⟨x, h1, h2⟩ := ob_some h
      obtain ⟨ys, h3, h4⟩ := ob_some h2
      cases h4
      rw [Dc.dc (e := e) d x h1, dAll_dc (e := e) ds ys h3, List.map_cons]
  theorem dAll_od {α : Type} {e : α → D} {f : D → Option α} [Dc e f] : ∀ xs : List α, dAll f (xs.map e) = some xs
    | [] => rfl
    | x :: xs => by rw [List.map_cons, dAll, Dc.od (e := e), Option.bind_some, dAll_od (e := e) xs]; rfl
instance {α : Type} {e : α → D} {f : D → Option α} [Dc e f] : Dc (eL false e) (dL f) where
  dc := fun d x h => by
    cases d with
    | lst o ds =>
      cases o with
      | true => cases h
      | false => unfold eL; rw [dAll_dc (e := e) ds x h]
    | _ => cases h
  od := fun x => dAll_od x
instance {α : Type} {e : α → D} {f : D → Option α} [Dc e f] : Dc (eV e) (dV f) where
  dc := fun d x h => by
    cases d with
    | tup ds => unfold eV; rw [dAll_dc (e := e) ds x h]
    | _ => cases h
  od := fun x => dAll_od x
instance {α β : Type} {a : α → D} {b : β → D} {f : D → Option α} {g : D → Option β} [Dc a f] [Dc b g] : Dc (e2 a b) (d2 f g) where
  dc := fun d x h => by
    unfold d2 at h
    split at h
    · obtain ⟨x1, h1, h⟩ := ob_some h
      obtain ⟨x2, h2, h⟩ := ob_some h
      cases h
      rw [Dc.dc (e := a) _ _ h1, Dc.dc (e := b) _ _ h2]; rfl
    · cases h
  od := fun x => by
    show (f (a x.1)).bind _ = _
    rw [Dc.od (e := a), Option.bind_some, Dc.od (e := b)]; rfl
instance {α β γ : Type} {a : α → D} {b : β → D} {c : γ → D} {f : D → Option α} {g : D → Option β} {i : D → Option γ} [Dc a f] [Dc b g] [Dc c i] : Dc (e3 a b c) (d3 f g i) where
  dc := fun d x h => by
    unfold d3 at h
    split at h
    · obtain ⟨x1, h1, h⟩ := ob_some h
      obtain ⟨x2, h2, h⟩ := ob_some h
      obtain ⟨x3, h3, h⟩ := ob_some h
      cases h
      rw [Dc.dc (e := a) _ _ h1, Dc.dc (e := b) _ _ h2, Dc.dc (e := c) _ _ h3]; rfl
    · cases h
  od := fun x => by
    show (f (a x.1)).bind _ = _
    rw [Dc.od (e := a), Option.bind_some, Dc.od (e := b), Option.bind_some, Dc.od (e := c)]; rfl
instance {α β γ δ : Type} {a : α → D} {b : β → D} {c : γ → D} {k : δ → D} {f : D → Option α} {g : D → Option β} {i : D → Option γ} {j : D → Option δ} [Dc a f] [Dc b g] [Dc c i] [Dc k j] : Dc (e4 a b c k) (d4 f g i j) where
  dc := fun d x h => by
    unfold d4 at h
    split at h
    · obtain ⟨x1, h1, h⟩ := ob_some h
      obtain ⟨x2, h2, h⟩ := ob_some h
      obtain ⟨x3, h3, h⟩ := ob_some h
      obtain ⟨x4, h4, h⟩ := ob_some h
      cases h
      rw [Dc.dc (e := a) _ _ h1, Dc.dc (e := b) _ _ h2, Dc.dc (e := c) _ _ h3, Dc.dc (e := k) _ _ h4]; rfl
    · cases h
  od := fun x => by
    show (f (a x.1)).bind _ = _
    rw [Dc.od (e := a), Option.bind_some, Dc.od (e := b), Option.bind_some, Dc.od (e := c), Option.bind_some, Dc.od (e := k)]; rfl
instance {α β γ δ ε ζ : Type} {a : α → D} {b : β → D} {c : γ → D} {k : δ → D} {l : ε → D} {r : ζ → D} {f : D → Option α} {g : D → Option β} {i : D → Option γ} {j : D → Option δ} {m : D → Option ε} {n : D → Option ζ} [Dc a f] [Dc b g] [Dc c i] [Dc k j] [Dc l m] [Dc r n] : Dc (e6 a b c k l r) (d6 f g i j m n) where
  dc := fun d x h => by
    unfold d6 at h
    split at h
    · obtain ⟨x1, h1, h⟩ := ob_some h
      obtain ⟨x2, h2, h⟩ := ob_some h
      obtain ⟨x3, h3, h⟩ := ob_some h
      obtain ⟨x4, h4, h⟩ := ob_some h
      obtain ⟨x5, h5, h⟩ := ob_some h
      obtain ⟨x6, h6, h⟩ := ob_some h
      cases h
      rw [Dc.dc (e := a) _ _ h1, Dc.dc (e := b) _ _ h2, Dc.dc (e := c) _ _ h3, Dc.dc (e := k) _ _ h4, Dc.dc (e := l) _ _ h5, Dc.dc (e := r) _ _ h6]; rfl
    · cases h
  od := fun x => by
    show (f (a x.1)).bind _ = _
    rw [Dc.od (e := a), Option.bind_some, Dc.od (e := b), Option.bind_some, Dc.od (e := c), Option.bind_some, Dc.od (e := k), Option.bind_some, Dc.od (e := l), Option.bind_some, Dc.od (e := r)]; rfl
section
variable {X : Cx} {cl : Nat → Addr} {E : En} {e : Expr} {pos apos : Pos} {g : GM}
end
section
variable {α β σ τ : Type} {Q : Fl → List D → τ → Prop} {e : α → D} {env : α → List D} {m : SM} {ρ : List D} {L : Lens} {mi : RM} {g : GM} {o : Option α}
end
end LI
namespace LI
open PySem L2
def viewM (i : Nat) (m : RM) : RM := fun ρ => match ρ[i]? with
  | some d0 => if notGone d0 = true then (m (ρ.set i (ice d0))).bind fun d => if noIce d = true then some d else none else none
  | none => none
def viewsM : List Nat → RM → RM
  | [], m => m
  | i :: is, m => viewM i (viewsM is m)
theorem view_run {c : LC} {E : En} {i : Nat} {m : RM} {σ : L2.St} {H : Hp} {Q : VK} (h : tF c E (viewM i m) σ H Q) : tF c E m σ H Q := by
  obtain ⟨P, S, T, ρ, d, w, hm, q⟩ := h
  unfold viewM at hm
  split at hm
  · rename_i d0 hi
    split at hm
    · rename_i hn
      cases e1 : m (ρ.set i (ice d0)) with
      | none => rw [e1] at hm; cases hm
      | some d1 =>
        rw [e1, Option.bind_some] at hm
        split at hm
        · rename_i hz
          cases hm
          obtain ⟨v, Sd, R, hσ, hrep, hsum, hput⟩ := w.env.focus hi hn
          have henv := hput (coldP Sd P H) H (ice d0) fz (coldP_p w.ph) (fun _ _ _ h => h) (Rep.ice (coldP_p w.ph) d0 v Sd (fun a o h1 h2 => by unfold coldP; rw [if_pos h1]; exact h2) hrep)
          have w2 : Wd c E (coldP Sd P H) (fa fz R) T σ H (ρ.set i (ice d0)) := by
            refine ⟨henv, fun a => ?_, fun a h => ?_, w.th, coldP_h w.ph, w.p0.trans (coldP_p w.ph), w.fr, fun a h => ?_, fun a h => w.ns a (by have := hsum a; simp only [fa, fz] at h; omega), w.kp⟩
            · have := w.le a; have := hsum a; simp only [fa, fz]; omega
            · have h1 := w.le a
              have h2 := hsum a
              simp only [fa, fz] at h
              unfold coldP
              rw [if_neg (by omega)]
              exact w.out a (by omega)
            · by_cases hs : 0 < Sd a
              · exact .inr (w.ns a (by have := hsum a; omega))
              · unfold coldP at h
                rw [if_neg hs] at h
                exact w.np a h
          refine ⟨coldP Sd P H, fa fz R, T, _, d, w2, e1, fun v1 H' P2 U g r u1 u2 => ?_⟩
          have hP : ∀ a, ¬ 0 < Sd a → coldP Sd P H a = P a := fun a h => by unfold coldP; rw [if_neg h]
          refine q v1 H' (fun a => if 0 < Sd a then P a else P2 a) U ⟨fun a o h => ?_, g.h, fun a o h => ?_, fun a h => ?_⟩ (Rep.thaw (fun b o h1 h2 => ?_) d v1 U hz r) u1 fun a h => ?_
          · by_cases hs : 0 < Sd a
            · rw [if_pos hs]; exact h
            · rw [if_neg hs]; exact g.p a o (by rw [hP a hs]; exact h)
          · by_cases hs : 0 < Sd a
            · rw [if_pos hs] at h; exact g.h a o (w.ph a o h)
            · rw [if_neg hs] at h; exact g.ph a o h
          · by_cases hs : 0 < Sd a
            · rw [if_pos hs] at h; exact .inl h
            · rw [if_neg hs] at h
              rcases g.new a h with z | z
              · rw [hP a hs] at z; exact .inl z
              · exact .inr z
          · by_cases hs : 0 < Sd b
            · obtain ⟨o2, k1, k2⟩ := Rep.nt d0 v Sd hrep b hs
              have k3 := g.h b o2 k1
              rw [g.ph b o h1] at k3
              cases k3
              rw [h2] at k2; cases k2
            · rw [if_neg hs]; exact h1
          · obtain ⟨k1, k2⟩ := u2 a h
            refine ⟨k1, ?_⟩
            rw [if_neg (fun hs => Rep.there d0 v Sd hrep a hs k1)]
            exact k2
        · cases hm
    · cases hm
  · cases hm
theorem views_run {c : LC} {E : En} {m : RM} {σ : L2.St} {H : Hp} {Q : VK} : ∀ {is : List Nat}, tF c E (viewsM is m) σ H Q → tF c E m σ H Q
  | [], h => h
  | _ :: _, h => views_run (view_run h)
section
variable {X : Cx} {cl : Nat → Addr} {E : En} {e o : Expr} {pos apos : Pos} {m : RM} {L : Lens}
theorem f_view (is : List Nat) (h : PE X e (tF ⟨X.K, cl, X.w⟩ E m)) : PE X e (tF ⟨X.K, cl, X.w⟩ E (viewsM is m)) := PE_imp h fun _ _ _ h => views_run h
theorem RepL.snoc {c : LC} {P H : Hp} : ∀ {ds : List D} {y : D} {xs : List V} {S : FP}, RepL c P H (ds ++ [y]) xs S → ∃ xs' z A B, xs = xs' ++ [z] ∧ RepL c P H ds xs' A ∧ Rep c P H y z B ∧ ∀ a, S a = A a + B a
  | [], y, xs, S, ⟨z, ys, T, U, e, r, rs, f⟩ => ⟨[], z, fz, T, by rw [e, rs.1]; rfl, ⟨rfl, rfl⟩, r, fun a => by rw [f, rs.2]; simp [fa, fz]⟩
  | d :: ds, y, xs, S, ⟨z, ys, T, U, e, r, rs, f⟩ => by
    obtain ⟨xs', z', A, B, h1, h2, h3, h4⟩ := RepL.snoc rs
    exact ⟨z :: xs', z', fa T A, B, by rw [e, h1]; rfl, ⟨z, xs', T, A, rfl, r, h2, rfl⟩, h3, fun a => by have := h4 a; rw [f]; simp only [fa]; omega⟩
end
section
variable {α β : Type} {ρ : List D} {L : Lens} {m : RM}
theorem x_view {i : Nat} {is : List Nat} {e0 e' : α → D} [Ic e0 e'] [Ng e0] {x : α} {f : β → D} [Nic f] {o : Option β} (hi : ρ[i]? = some (e0 x)) (h : Ev f (viewsM is m) (ρ.set i (e' x)) o) : Ev f (viewsM (i :: is) m) ρ o := fun z hz => by
  show viewM i (viewsM is m) ρ = _
  unfold viewM
  rw [hi]
  dsimp only
  rw [if_pos (Ng.ng x), Ic.ic x, h z hz, Option.bind_some, if_pos (Nic.ni z)]
end
section
variable {α β γ δ ε ζ : Type} {a : α → D} {b : β → D} {c : γ → D} {d : δ → D} {e : ε → D} {f : ζ → D}
instance [Nic a] [Nic b] [Nic c] [Nic d] : Nic (e4 a b c d) := ⟨fun x => by simp [e4, noIce, noIceL, Nic.ni]⟩
instance [Nic a] [Nic b] [Nic c] [Nic d] [Nic e] [Nic f] : Nic (e6 a b c d e f) := ⟨fun x => by simp [e6, noIce, noIceL, Nic.ni]⟩
end
end LI
namespace LI
open PySem L2
end LI
namespace LI
open PySem L2
section
variable {X : Cx} {cl : Nat → Addr} {E : En} {e o : Expr} {pos apos : Pos} {m mo : RM}
end
section
variable {X : Cx} {cl : Nat → Addr} {E : En} {e o : Expr} {pos apos : Pos} {m mo : RM}
end
end LI
namespace LI
open PySem L2
section
variable {X : Cx}
end
def lvB : Fl → Bool
  | .rt _ => true
  | .ex _ _ _ => true
  | _ => false
def forFL (f : TgM) (mc : BM) (ml : SM) (kl : List Nat) : List D → List D → Option (Fl × List D)
  | [], ρ => some (.nx, ρ)
  | d :: ds, ρ => (f d ρ).bind fun ρ1 => (mc ρ1).bind fun b => if b = true then (ml ρ1).bind fun r => if lvB r.1 = true then some r else none else forFL f mc ml kl ds (goneAt ρ1 kl)
def forFM (L : Lens) (f : TgM) (mc : BM) (ml : SM) (kl : List Nat) : SM := fun ρ => (L.get ρ).bind fun d => match d with
  | .lst true ds => if frzL ds = true then forFL f mc ml kl ds ρ else none
  | _ => none
theorem forF_run {c : LC} {E : En} {L : Lens} {tl kl : List Nat} {f : TgM} {mc : BM} {ml : SM} {D : Ends} {σ : L2.St} {H : Hp} (h : tS c E (forFM L f mc ml kl) D σ H) : tFor (iList c.K (tPl c E L)) (tPG c E tl f) (tIfS (tT c E mc) (tS c E ml) tNext) D σ H := by
  obtain ⟨P, S, ρ, fl, ρ', w, hm, q⟩ := h
  unfold forFM at hm
  cases e1 : L.get ρ with
  | none => rw [e1] at hm; cases hm
  | some d0 =>
    rw [e1, Option.bind_some] at hm
    split at hm
    · rename_i ds
      split at hm
      · rename_i hz
        refine ⟨P, S, fz, ρ, _, w, e1, fun v Sd R l => ?_⟩
        obtain ⟨a, xs, T1, ev, hh, rl, hf⟩ := l.rep
        have z := RepL.frz0 ds xs T1 hz rl
        subst z
        refine ⟨a, ev, ⟨xs, .inl (.inl hh)⟩, ?_⟩
        have hlen : ds.length = xs.length := rl.length
        refine for_it (walk_list (xs := xs)) (fun i σi Hi => ∃ P2 S2 ρi, Wd c E P2 S2 fz σi Hi ρi ∧ Ex P P2 ∧ Hi a = some (.lst xs) ∧ forFL f mc ml kl (ds.drop i) ρi = some (fl, ρ')) ?_ ?_ ?_ ?_
        · exact ⟨P, S, ρ, w, .refl _, hh, hm⟩
        · rintro i σi Hi hi ⟨P2, S2, ρi, w2, e2, ha, _⟩
          exact .inl (.inl ha)
        · rintro i x σi Hi H3 hi ⟨P2, S2, ρi, w2, e2, ha, hf⟩ y
          obtain ⟨rfl, hx⟩ := y
          obtain ⟨d, hd, rd⟩ := rep_get0 (RepL.mono (H' := H3) e2 ds xs fz (fun b o hb _ => by simp [fz] at hb) rl) hx
          have hdrop : ds.drop i = d :: ds.drop (i + 1) := by
            have hi2 : i < ds.length := by omega
            rw [List.drop_eq_getElem_cons hi2]
            congr 1
            rw [List.getElem?_eq_getElem hi2] at hd
            exact Option.some.inj hd
          rw [hdrop] at hf
          unfold forFL at hf
          cases ef : f d ρi with
          | none => rw [ef] at hf; cases hf
          | some ρ1 =>
            rw [ef, Option.bind_some] at hf
            cases ec : mc ρ1 with
            | none => rw [ec] at hf; cases hf
            | some b =>
              rw [ec, Option.bind_some] at hf
              have w3 : Wd c E P2 S2 (fa fz fz) σi H3 ρi := by rw [fa_fz]; exact w2
              refine ⟨P2, S2, fz, fz, ρi, d, ρ1, w3, rd, ef, fun σ4 S4 w4 _ _ => ⟨P2, S4, fz, ρ1, b, w4, ec, fun H' P' g => ?_⟩⟩
              cases b with
              | true =>
                rw [if_pos rfl] at hf
                cases el : ml ρ1 with
                | none => rw [el] at hf; cases hf
                | some r =>
                  obtain ⟨f1, ρ2⟩ := r
                  rw [el, Option.bind_some] at hf
                  split at hf
                  · rename_i hlv
                    cases hf
                    refine iteT ⟨P', S4, ρ1, fl, ρ', w4.grow g, el, ?_⟩
                    cases fl with
                    | rt d' => exact q
                    | ex n fs es => exact fun vs σ' H' P' S' U w' x' => q vs σ' H' P' S' U w' ((e2.trans g.p).trans x')
                    | _ => cases hlv
                  · cases hf
              | false =>
                rw [if_neg (by decide)] at hf
                refine iteF ?_
                obtain ⟨S5, w5⟩ := (w4.grow g).forget kl
                exact ⟨P', S5, _, w5, e2.trans g.p, g.h _ _ ha, hf⟩
        · rintro σi Hi ⟨P2, S2, ρi, w2, e2, _, hf⟩
          rw [← hlen, List.drop_length] at hf
          cases hf
          exact q σi Hi P2 S2 w2 e2
      · cases hm
    · cases hm
section
variable {X : Cx} {cl : Nat → Addr} {E : En} {pos pos2 : Pos}
theorem s_forF {iter tg cond : Expr} {sb : List Stmt} {tl : List Nat} (kl : List Nat) {f : TgM} {mc : BM} {ml : SM} {L : Lens} (hp : PassesOwn (model X.prog X.w) X.A X.env X.xe) (hc : X.calm = true) (hi : PE X iter (tPl ⟨X.K, cl, X.w⟩ E L)) (hg : PG X tg (tPG ⟨X.K, cl, X.w⟩ E tl f)) (ht : PT X cond (tT ⟨X.K, cl, X.w⟩ E mc)) (hb : PSs X sb (tS ⟨X.K, cl, X.w⟩ E ml))
    (hs : ∀ x, foldedSetIterable iter X.env x = pure x := by intro _; rfl) : PS X (.For tg iter [.If cond sb [] pos2] [] pos) (tS ⟨X.K, cl, X.w⟩ E (forFM L f mc ml kl)) := PS_imp (ps_for hp hc (pi_list hi) hg (pss_one (ps_if ht hb pss_nil)) hs) fun _ _ _ h => forF_run h
end
def srchT {α : Type} (c : α → Option Bool) : List α → Option (Option α)
  | [] => some none
  | x :: xs => (c x).bind fun b => if b = true then some (some x) else srchT c xs
def srchK {α υ : Type} (u : Option α) (r : Option υ) (k : α → Option υ) : Option υ := match u with
  | some x => k x
  | none => r
def Qr {τ : Type} (Q : Fl → List D → τ → Prop) : Fl → List D → τ → Prop := fun fl ρ t => lvB fl = true ∧ Q fl ρ t
theorem b_forF {α υ : Type} {Q : Fl → List D → υ → Prop} {m ml : SM} {mc : BM} {ρ : List D} {e : α → D} [Fz e] {L : Lens} {xs : List α} {c : α → Option Bool} {f : TgM} {kl : List Nat} {env1 : α → List D} {kx : α → Option υ} {r : Option υ} (hL : L.get ρ = some (eL true e xs)) (hf : ∀ x, f (e x) ρ = some (env1 x)) (hg : ∀ x, goneAt (env1 x) kl = ρ)
    (hc : ∀ x, Et mc (env1 x) (c x)) (hl : ∀ x, Bk (Qr Q) ml (env1 x) (kx x)) (hr : Bk Q m ρ r) : Bk Q (seqM (forFM L f mc ml kl) m) ρ ((srchT c xs).bind fun u => srchK u r kx) := fun t ht => by
  obtain ⟨u, h1, h2⟩ := ob_some ht
  have key : ∀ (ys : List α) (u : Option α), srchT c ys = some u → match u with
      | some x => ∀ t, kx x = some t → ∃ fl ρ', forFL f mc ml kl (ys.map e) ρ = some (fl, ρ') ∧ lvB fl = true ∧ Q fl ρ' t
      | none => forFL f mc ml kl (ys.map e) ρ = some (.nx, ρ) := by
    intro ys
    induction ys with
    | nil => intro u hu; cases hu; rfl
    | cons y ys ih =>
      intro u hu
      unfold srchT at hu
      obtain ⟨b, h3, h4⟩ := ob_some hu
      cases b with
      | true =>
        rw [if_pos rfl] at h4
        cases h4
        intro t ht
        obtain ⟨fl, ρ', h5, h6, h7⟩ := hl y t ht
        refine ⟨fl, ρ', ?_, h6, h7⟩
        rw [List.map_cons]
        unfold forFL
        rw [hf, Option.bind_some, hc y _ h3, Option.bind_some, if_pos rfl, h5, Option.bind_some, if_pos h6]
      | false =>
        rw [if_neg (by decide)] at h4
        have := ih u h4
        have e2 : forFL f mc ml kl ((y :: ys).map e) ρ = forFL f mc ml kl (ys.map e) ρ := by
          rw [List.map_cons]
          conv => lhs; unfold forFL
          rw [hf, Option.bind_some, hc y _ h3, Option.bind_some, if_neg (by decide), hg]
        cases u with
        | some x => intro t ht; obtain ⟨fl, ρ', h5⟩ := this t ht; exact ⟨fl, ρ', by rw [e2]; exact h5.1, h5.2⟩
        | none => show forFL f mc ml kl ((y :: ys).map e) ρ = _; rw [e2]; exact this
  have k := key xs u h1
  have hm : ∀ r, forFL f mc ml kl (xs.map e) ρ = r → forFM L f mc ml kl ρ = r := fun r hr => by
    unfold forFM eL at *
    rw [hL, Option.bind_some]
    dsimp only
    rw [if_pos (fz_map xs)]
    exact hr
  cases u with
  | some x =>
    obtain ⟨fl, ρ', h5, h6, h7⟩ := k t h2
    refine ⟨fl, ρ', ?_, h7⟩
    unfold seqM
    rw [hm _ h5, Option.bind_some]
    cases fl <;> first | rfl | cases h6
  | none =>
    obtain ⟨fl, ρ', h5, h6⟩ := hr t h2
    refine ⟨fl, ρ', ?_, h6⟩
    unfold seqM
    rw [hm _ k, Option.bind_some]
    exact h5
end LI
namespace LI
open PySem PySem.Spec PyProof.Rows L2

structure NOk (K : PySem.W.Frag) (H : Hp) (a : Addr) (l : List (NestedKey × Addr × V)) : Prop where
  ne : (a == sysModules) = false
  le : l.length ≤ sizeLine
  nd : (l.map (·.1)).Nodup
  at_ : ∀ p ∈ l, NkRep K H p.1 (.ref p.2.1) ∧ p.1.depth ≤ 8
abbrev KN : List (NestedKey × Addr × V) → List (NestedKey × Addr × Value) → Prop := Paired fun p q => p.1 = q.1 ∧ p.2.1 = q.2.1 ∧ RelV p.2.2 q.2.2
def valN (l : List (NestedKey × Addr × V)) (k : NestedKey) : Option V := valV (l.map fun p => (p.1, p.2.2)) k
def putN (l : List (NestedKey × Addr × V)) (k : NestedKey) (b : Addr) (v : V) : List (NestedKey × Addr × V) :=
  if (l.any fun p => decide (p.1 = k)) = true then l.map (fun p => if p.1 = k then (p.1, p.2.1, v) else p) else l ++ [(k, b, v)]
section
variable {X : Cx} {pins : List (Addr × Obj)} {σ : L2.St} {H : Hp} {s : Shared}
mutual
theorem nk_is (I : Inv X pins σ H s) : ∀ (k : NestedKey) (v : V) (u : Value), NkRep X.K H k v → RelV v u → NestedIs s.heap k u
  | .none, v, u, h, r => by
    cases (show v = V.non from h)
    cases (show u = Value.none from r)
    exact .none
  | .num i, v, u, h, r => by
    cases (show v = V.int i from h)
    obtain ⟨t, q⟩ := (show ∃ t, u = Value.int i t from r)
    subst q
    exact .int i t
  | .text x, v, u, h, r => by
    cases (show v = V.str x from h)
    obtain ⟨t, q⟩ := (show ∃ t, u = Value.str x t from r)
    subst q
    exact .text x t
  | .tup ks, v, u, ⟨a, xs, e, q, h⟩, r => by
    subst e
    cases (show u = Value.ref a from r)
    obtain ⟨its, rv, ⟨o, h1, h2, n, h3⟩, _⟩ := I.tuple q
    exact .tup h1 h2 h3 (by simpa using nk_all I ks xs its h rv)
theorem nk_all (I : Inv X pins σ H s) : ∀ (ks : List NestedKey) (vs : List V) (us : List Value), NkAll X.K H ks vs → Vals vs us → NestedAll s.heap ks us
  | [], vs, us, h, r => by
    cases (show vs = [] from h)
    cases r
    exact .nil
  | k :: ks, vs, us, ⟨y, ys, e, h1, h2⟩, r => by
    subst e
    cases r with
    | cons r1 r2 => exact .cons (nk_is I k y _ h1 r1) (nk_all I ks ys _ h2 r2)
end
theorem nk_key (I : Inv X pins σ H s) {k : NestedKey} {b : Addr} (h : NkRep X.K H k (.ref b)) (hd : k.depth ≤ 8) : (nestedKind X.prog X.w).is s.heap k b := ⟨nk_is I k _ _ h rfl, hd⟩
theorem kn_of (w : World) : ∀ {l : List (NestedKey × Addr × V)} {es : List DictEntry}, DnE w l es → ∃ xs, KN l xs ∧ es = xs.map fun x => ⟨x.1.hash w, .ref x.2.1, x.2.2⟩
  | [], _, h => by cases h; exact ⟨[], .nil, rfl⟩
  | p :: l, _, h => by
    cases h with
    | @cons _ e _ es h1 h2 =>
      obtain ⟨xs, r, q⟩ := kn_of w h2
      obtain ⟨e1, e2, e3⟩ := h1
      refine ⟨(p.1, p.2.1, e.val) :: xs, .cons ⟨rfl, rfl, e3⟩ r, ?_⟩
      rw [List.map_cons, ← q]
      congr 1
      obtain ⟨eh, ek, ev⟩ := e
      simp only at e1 e2
      rw [e1, e2]
theorem kn_keys : ∀ {l : List (NestedKey × Addr × V)} {xs : List (NestedKey × Addr × Value)}, KN l xs → l.map (·.1) = xs.map (·.1)
  | [], _, h => by cases h; rfl
  | p :: l, _, h => by
    cases h with
    | cons h1 h2 => rw [List.map_cons, List.map_cons, h1.1, kn_keys h2]
theorem kn_mem : ∀ {l : List (NestedKey × Addr × V)} {xs : List (NestedKey × Addr × Value)}, KN l xs → ∀ x ∈ xs, ∃ p ∈ l, p.1 = x.1 ∧ p.2.1 = x.2.1
  | [], _, h => by cases h; intro x hx; simp at hx
  | p :: l, _, h => by
    cases h with
    | cons h1 h2 =>
      intro x hx
      rcases List.mem_cons.mp hx with e | hx
      · subst e; exact ⟨p, List.mem_cons_self, h1.1, h1.2.1⟩
      · obtain ⟨q, m, r⟩ := kn_mem h2 x hx
        exact ⟨q, List.mem_cons_of_mem _ m, r⟩
theorem kn_val (k : NestedKey) : ∀ {l : List (NestedKey × Addr × V)} {xs : List (NestedKey × Addr × Value)}, KN l xs → RelO (valN l k) ((atKey xs k).map (·.2))
  | [], _, h => by cases h; exact True.intro
  | p :: l, _, h => by
    cases h with
    | @cons _ q _ qs h1 h2 =>
      obtain ⟨e1, _, e3⟩ := h1
      by_cases e : p.1 = k
      · have e' : q.1 = k := e1.symm.trans e
        have b : atKey (q :: qs) k = some q.2 := by simp [atKey, List.find?_cons, e']
        unfold valN
        rw [List.map_cons, valV_pos (p := (p.1, p.2.2)) e, b]; exact e3
      · have e' : ¬ q.1 = k := fun z => e (e1.trans z)
        have b : atKey (q :: qs) k = atKey qs k := by simp [atKey, List.find?_cons, e']
        unfold valN
        rw [List.map_cons, valV_neg (p := (p.1, p.2.2)) e, b]; exact kn_val k h2
theorem dn_of {a : Addr} {l : List (NestedKey × Addr × V)} (I : Inv X pins σ H s) (h : DnAt X.w H a l) (o : NOk X.K H a l) : ∃ xs, KN l xs ∧ s.heap.DictOfH (nestedKind X.prog X.w) a xs := by
  obtain ⟨ob, ha, h2, es, ep, h3, h4⟩ := h
  have h1 : s.heap.get? a = some ob := (show ObjOk X.prog X.w H s.heap a (exO a ob) from I.hok a _ ha).1
  obtain ⟨xs, r, q⟩ := kn_of X.w h4
  refine ⟨xs, r, ob, es, ep, h1, h2, h3, q, fun x hx => ?_, ?_⟩
  · obtain ⟨p, m, e1, e2⟩ := kn_mem r x hx
    have := o.at_ p m
    rw [e1, e2] at this
    exact nk_key I this.1 this.2
  · rw [← kn_keys r]; exact o.nd
def DGetN (K : PySem.W.Frag) (w : World) (H : Hp) (a : Addr) (y : V) (r : Option V) : Prop :=
  ∃ l k b, DnAt w H a l ∧ NOk K H a l ∧ y = .ref b ∧ NkRep K H k (.ref b) ∧ k.depth ≤ 8 ∧ r = valN l k
def DPutN (K : PySem.W.Frag) (w : World) (H : Hp) (a : Addr) (y v : V) (R : Hp → Prop) : Prop :=
  ∃ l k b, DnAt w H a l ∧ NOk K H a l ∧ y = .ref b ∧ NkRep K H k (.ref b) ∧ k.depth ≤ 8 ∧ l.length < sizeLine ∧ ∀ o, DnObj w (putN l k b v) o → R (upd H a (exO a o))
def IsDN (K : PySem.W.Frag) (w : World) (H : Hp) (a : Addr) : Prop := ∃ l, DnAt w H a l ∧ NOk K H a l
theorem nroom {A : Around} (hu : A.units + 9 < cLine) : (nestedKind X.prog X.w).room A.in1 := by show A.units + 1 + 8 < cLine; omega
variable {a : Addr} {y v d : V} {u r : Value} {o : Option V} {A : Around} {E : Value → Shared → Prop}
theorem isDN_at (I : Inv X pins σ H s) (g : IsDN X.K X.w H a) : s.TypeIs (.ref a) "dict" ∧ (∀ b, Value.ref a = .ref b → ∃ ob, s.heap.get? b = some ob ∧ ob.dict = none) ∧ (a == sysModules) = false := by
  obtain ⟨l, e, ok⟩ := g
  obtain ⟨xs, _, dd⟩ := dn_of I e ok
  refine ⟨dd.typeIs, fun b q => ?_, ok.ne⟩
  cases q
  obtain ⟨ob, _, _, h1, h2, _⟩ := dd
  exact ⟨ob, h1, h2.2.1⟩
theorem DGetN.is (g : DGetN X.K X.w H a y o) : IsDN X.K X.w H a := by
  obtain ⟨l, _, _, e, ok, _⟩ := g
  exact ⟨l, e, ok⟩
theorem dn_get2 {Q : Value → Shared → Prop} (hu : A.units + 9 < cLine) (I : Inv X pins σ H s) (g : DGetN X.K X.w H a y o) (ry : RelV y u) (rd : RelV d r) (h : ∀ w' s', Inv X pins σ H s' → RelV (o.getD d) w' → Q w' s') :
    wpAny (model X.prog X.w) A (call (.builtin "dict.get") [.ref a, u, r]) Q E s := by
  obtain ⟨l, k, b, e, ok, ey, hk, hd, q⟩ := g
  subst ey
  cases (show u = Value.ref b from ry)
  obtain ⟨xs, rel, dd⟩ := dn_of I e ok
  refine call_meetsIn PySem.F.slot_dict_get dd.typeIs PySem.F.entry_dict_get (PySem.F.args_dict_get_3 _ _ _) (meetsH_dict_get_default (nestedKind X.prog X.w) a b ok.ne r) ⟨nroom hu, k, xs, nk_key I hk hd, dd, h _ _ (I.tok _) ?_⟩
  rw [q]
  exact (kn_val k rel).getD rd
theorem kn_any (k : NestedKey) : ∀ {l : List (NestedKey × Addr × V)} {xs : List (NestedKey × Addr × Value)}, KN l xs → (l.any fun p => decide (p.1 = k)) = (atKey xs k).isSome
  | [], _, h => by cases h; rfl
  | p :: l, _, h => by
    cases h with
    | @cons _ q _ qs h1 h2 =>
      rw [List.any_cons, kn_any k h2]
      by_cases e : p.1 = k
      · have e' : q.1 = k := h1.1.symm.trans e
        simp [atKey, List.find?_cons, e, e']
      · have e' : ¬ q.1 = k := fun z => e (h1.1.trans z)
        simp [atKey, List.find?_cons, e, e']
theorem kn_repl (k : NestedKey) {z : V} {zu : Value} (rz : RelV z zu) : ∀ {l : List (NestedKey × Addr × V)} {xs : List (NestedKey × Addr × Value)}, KN l xs → KN (l.map fun p => if p.1 = k then (p.1, p.2.1, z) else p) (xs.map (putAt k zu))
  | [], _, h => by cases h; exact .nil
  | p :: l, _, h => by
    cases h with
    | @cons _ q _ qs h1 h2 =>
      rw [List.map_cons, List.map_cons]
      refine .cons ?_ (kn_repl k rz h2)
      obtain ⟨e1, e2, e3⟩ := h1
      unfold putAt
      by_cases e : p.1 = k
      · rw [if_pos e, if_pos (e1.symm.trans e)]; exact ⟨e1, e2, rz⟩
      · rw [if_neg e, if_neg (fun z => e (e1.trans z))]; exact ⟨e1, e2, e3⟩
theorem kn_put {l : List (NestedKey × Addr × V)} {xs : List (NestedKey × Addr × Value)} (rel : KN l xs) (k : NestedKey) (b : Addr) {z : V} {zu : Value} (rz : RelV z zu) : KN (putN l k b z) (storedH xs k b zu) := by
  unfold putN storedH
  rw [kn_any k rel]
  by_cases q : (atKey xs k).isSome = true
  · rw [if_pos q, if_pos q]; exact kn_repl k rz rel
  · rw [if_neg q, if_neg q]; exact Paired.snoc rel ⟨rfl, rfl, rz⟩
theorem dnE_of (w : World) : ∀ {l : List (NestedKey × Addr × V)} {xs : List (NestedKey × Addr × Value)}, KN l xs → DnE w l (xs.map fun x => ⟨x.1.hash w, .ref x.2.1, x.2.2⟩)
  | [], _, h => by cases h; exact .nil
  | p :: l, _, h => by
    cases h with
    | @cons _ q _ qs h1 h2 =>
      rw [List.map_cons]
      refine .cons ⟨by rw [h1.1], by rw [h1.2.1], h1.2.2⟩ (dnE_of w h2)
theorem dn_obj {P : Program} {w : World} {h' : Heap} {l : List (NestedKey × Addr × V)} {xs : List (NestedKey × Addr × Value)} (rel : KN l xs) (dd : h'.DictOfH (nestedKind P w) a xs) : ∃ o, DnObj w l o ∧ h'.get? a = some o := by
  obtain ⟨ob, es, ep, h1, h2, h3, h4, _⟩ := dd
  exact ⟨ob, ⟨h2, es, ep, h3, by rw [h4]; exact dnE_of w rel⟩, h1⟩
theorem ex_ok {P : Program} {w : World} {H' : Hp} {h' : Heap} {o : Obj} (h : h'.get? a = some o) : ObjOk P w H' h' a (exO a o) := ⟨h, ⟨o, h⟩, fun _ _ k1 kk => kk _ k1⟩
theorem dn_setItem {R : Hp → Prop} {Q : Unit → Shared → Prop} (hu : A.units + 9 < cLine) (I : Inv X pins σ H s) (g : DPutN X.K X.w H a y v R) (ry : RelV y u) (rv : RelV v r) (h : ∀ H' s', R H' → Inv X pins σ H' s' → Q () s') :
    wpAny (model X.prog X.w) A (setItem (.ref a) u r) Q E s := by
  obtain ⟨l, k, b, e, ok, ey, hk, hd, hl, eH⟩ := g
  subst ey
  cases (show u = Value.ref b from ry)
  obtain ⟨xs, rel, dd⟩ := dn_of I e ok
  have hz : xs.length ≤ sizeLine := by rw [← Paired.length rel]; exact ok.le
  refine wpAny_setItem_heap (hsz := hz) (nroom hu) (nk_key I hk hd) dd fun h' dd' hs => ?_
  obtain ⟨o', ho, hq⟩ := dn_obj (kn_put rel k b rv) dd'
  obtain ⟨o0, e0, _⟩ := e
  exact h _ _ (eH o' ho) (d_write I (by rw [e0]; exact True.intro) hs ⟨o', hq⟩ (ex_ok hq))
theorem dn_empty {w : World} : DnObj w [] { cls := .type "dict", data := .dict #[] } := ⟨⟨rfl, rfl, rfl⟩, #[], 0, rfl, .nil⟩
end
def sDPutN (K : PySem.W.Frag) (w : World) (td ty tv : TE) : TS := fun D σ H => tv σ H fun v H1 => td σ H1 fun x H2 => ty σ H2 fun y H3 => ∃ a, x = .ref a ∧ DPutN K w H3 a y v (D.nx σ)
def tDGet2N (K : PySem.W.Frag) (w : World) (td ty tx : TE) : TE := fun σ H Q => td σ H fun x H1 => ∃ a, x = .ref a ∧ IsDN K w H1 a ∧ ty σ H1 fun y H2 => tx σ H2 fun z H3 => ∃ o, DGetN K w H3 a y o ∧ Q (o.getD z) H3
def tDNewN (w : World) : TE := fun _ H Q => ∀ p o, H p = none → (p == sysModules) = false → DnObj w [] o → Q (.ref p) (upd H p (exO p o))
section
variable {X : Cx} {o i e f value : Expr} {pos pos' tpos apos cpos : Pos} {td ty tv tx : TE}
theorem ps_dputN (hu : X.A.units + 9 < cLine) (ho : PE X o td) (hi : PE X i ty) (hv : PE X value tv) (hs : swapsWith value (some (.Subscript o i pos')) pos.line X.env = pure false) :
    PS X (.Assign [.Subscript o i pos'] value pos) (sDPutN X.K X.w td ty tv) := by
  refine ⟨fun pins s σ H D I h => ?_⟩
  refine wpAny_Assign_Subscript (thn (hv.run pins s σ H _ I h) fun r s1 ⟨v, H1, I1, rv, q1⟩ => thn (ho.run pins s1 σ H1 _ I1 q1) fun u s2 ⟨x, H2, I2, rx, q2⟩ => thn (hi.run pins s2 σ H2 _ I2 q2) fun iv s3 ⟨y, H3, I3, ry, a, ex, g⟩ => ?_) hs
  subst ex
  obtain rfl : u = Value.ref a := rx
  exact dn_setItem hu I3 g ry rv fun H4 s4 q3 I4 => ⟨σ, H4, I4, q3⟩
theorem pe_dget2N (hu : X.A.units + 9 < cLine) (ho : PE X o td) (he : PE X e ty) (hf : PE X f tx) (m : M2 X o "get" apos e f cpos) : PE X (.Call (.Attribute o "get" apos) [e, f] [] cpos) (tDGet2N X.K X.w td ty tx) := by
  refine ⟨fun pins s σ H Q I h => ?_⟩
  refine wpAny_Call_method m.base m.few m.line PySem.F.plainAttrs_dict PySem.F.slot_dict_get PySem.F.type_dict_get (thn (ho.run pins s σ H _ I h) fun u s1 ⟨x, H1, I1, rx, a, ex, d, q1⟩ => ?_)
  subst ex
  obtain rfl : u = Value.ref a := rx
  obtain ⟨t1, t2, _⟩ := isDN_at I1 d
  refine ⟨t1, t2, ?_⟩
  rw [m.trees]
  refine Calls.callWith_builtin rfl (Calls.evalArgs_plain (Calls.spliced_cons (thn (he.run pins s1 σ H1 _ I1 q1) fun iv s2 ⟨y, H2, I2, ry, q2⟩ =>
    Calls.spliced_cons (thn (hf.run pins s2 σ H2 _ I2 q2) fun fv s3 ⟨z, H3, I3, rz, ov, g, q3⟩ => Calls.spliced_nil ?_))))
  exact dn_get2 hu I3 g ry rz fun w' s4 I4 rw' => ⟨_, H3, I4, rw', q3⟩
theorem pe_dnewN : PE X (.Dict [] [] pos) (tDNewN X.w) := ⟨fun pins s σ H Q I h =>
  wpAny_Dict_empty ⟨.ref s.heap.objs.size, _, I.laid (a := s.heap.objs.size) (o := exO s.heap.objs.size { cls := .type "dict", data := .dict #[] }) (t' := s.toks) (fun _ _ q => Heap.get?_push_of_some _ q) (Nat.le_refl _) (ex_ok (Heap.get?_push_size _ rfl)), rfl, h _ _ (I.hok.fresh (Nat.le_refl _)) (beq_eq_false_iff_ne.mpr (Ne.symm (Nat.ne_of_lt I.big))) dn_empty⟩⟩
end
end LI
namespace LI
open PySem PySem.Spec PyProof.Rows L2
def keyN : Key → NestedKey
  | .inl i => .num i
  | .inr x => .text x
mutual
/-- a thing as a key -/
def toNk : D → Option NestedKey
  | .non => some .none
  | .int i => some (.num i)
  | .str s => some (.text ⟨s.toArray⟩)
  | .kst ss => some (.tup (ss.map fun s => .text ⟨s.toArray⟩))
  | .key ks => some (.tup (ks.map keyN))
  | .tup ds => (toNkL ds).map .tup
  | _ => none
def toNkL : List D → Option (List NestedKey)
  | [] => some []
  | d :: ds => (toNk d).bind fun k => (toNkL ds).map fun ks => k :: ks
end
def nkT (d : D) : Option NestedKey := (toNk d).bind fun k => match k with
  | .tup ks => if (NestedKey.tup ks).depth ≤ 8 then some (.tup ks) else none
  | _ => none
theorem nk_kst {K : PySem.W.Frag} {P : Hp} : ∀ ss : List (List Nat), NkAll K P (ss.map fun s => .text ⟨s.toArray⟩) (ss.map fun s => V.str ⟨s.toArray⟩)
  | [] => rfl
  | s :: ss => ⟨_, _, rfl, rfl, nk_kst ss⟩
theorem nk_keys {K : PySem.W.Frag} {P : Hp} : ∀ ks : List Key, NkAll K P (ks.map keyN) (ks.map kV)
  | [] => rfl
  | .inl i :: ks => ⟨_, _, rfl, rfl, nk_keys ks⟩
  | .inr x :: ks => ⟨_, _, rfl, rfl, nk_keys ks⟩
mutual
theorem nk_v {c : LC} {P H : Hp} : ∀ (d : D) (v : V) (U : FP) (k : NestedKey), toNk d = some k → Rep c P H d v U → NkRep c.K P k v
  | .non, v, U, k, h, r => by cases h; exact r.1
  | .int i, v, U, k, h, r => by cases h; exact r.1
  | .str i, v, U, k, h, r => by cases h; exact r.1
  | .kst ss, v, U, k, h, ⟨a, e, q, _⟩ => by cases h; exact ⟨a, _, e, q, nk_kst ss⟩
  | .key ks, v, U, k, h, ⟨a, e, q, _⟩ => by cases h; exact ⟨a, _, e, .inl (.inl q), nk_keys ks⟩
  | .tup ds, v, U, k, h, ⟨a, xs, e, q, r⟩ => by
    unfold toNk at h
    cases z : toNkL ds with
    | none => rw [z] at h; cases h
    | some ks => rw [z] at h; cases h; exact ⟨a, xs, e, q, nk_vs ds xs U ks z r⟩
  | .gone, _, _, _, h, _ => by cases h
  | .bl _, _, _, _, h, _ => by cases h
  | .scr _, _, _, _, h, _ => by cases h
  | .lst .., _, _, _, h, _ => by cases h
  | .dK .., _, _, _, h, _ => by cases h
  | .dT .., _, _, _, h, _ => by cases h
  | .dN .., _, _, _, h, _ => by cases h
  | .obj .., _, _, _, h, _ => by cases h
theorem nk_vs {c : LC} {P H : Hp} : ∀ (ds : List D) (vs : List V) (U : FP) (ks : List NestedKey), toNkL ds = some ks → RepL c P H ds vs U → NkAll c.K P ks vs
  | [], vs, U, ks, h, r => by cases h; exact r.1
  | d :: ds, vs, U, ks, h, ⟨y, ys, T, T2, e1, r, rs, _⟩ => by
    unfold toNkL at h
    cases z : toNk d with
    | none => rw [z] at h; cases h
    | some q =>
      cases z2 : toNkL ds with
      | none => rw [z, z2] at h; cases h
      | some qs => rw [z, z2] at h; cases h; exact ⟨y, ys, e1, nk_v d y T q z r, nk_vs ds ys T2 qs z2 rs⟩
end
theorem nkT_v {c : LC} {P H : Hp} {d : D} {v : V} {U : FP} {k : NestedKey} (h : nkT d = some k) (r : Rep c P H d v U) : ∃ b, v = .ref b ∧ NkRep c.K P k (.ref b) ∧ k.depth ≤ 8 := by
  unfold nkT at h
  cases e : toNk d with
  | none => rw [e] at h; cases h
  | some k0 =>
    rw [e, Option.bind_some] at h
    have q := nk_v d v U k0 e r
    cases k0 with
    | tup ks =>
      dsimp only at h
      split at h
      · rename_i hd
        cases h
        obtain ⟨a, xs, e1, q1, q2⟩ := q
        subst e1
        exact ⟨a, rfl, ⟨a, xs, rfl, q1, q2⟩, hd⟩
      · cases h
    | _ => cases h
theorem NkRep.up {K : PySem.W.Frag} {P H : Hp} (e : Ex P H) {k : NestedKey} {v : V} (h : NkRep K P k v) : NkRep K H k v := NkRep.mono (fun _ _ => sqt_mono e) k v h
theorem zip3_fst {ks : List NestedKey} : ∀ {bs : List Addr} {xs : List V}, ks.length = bs.length → ks.length = xs.length → ((ks.zip (bs.zip xs)).map fun p => (p.1, p.2.2)) = ks.zip xs := by
  induction ks with
  | nil => intro bs xs _ _; rfl
  | cons k ks ih =>
    intro bs xs h1 h2
    cases bs with
    | nil => simp at h1
    | cons b bs =>
      cases xs with
      | nil => simp at h2
      | cons x xs => simp only [List.zip_cons_cons, List.map_cons]; rw [ih (by simpa using h1) (by simpa using h2)]
theorem zip3_key {ks : List NestedKey} : ∀ {bs : List Addr} {xs : List V}, ks.length = bs.length → ks.length = xs.length → ((ks.zip (bs.zip xs)).map fun p => p.1) = ks := by
  induction ks with
  | nil => intro bs xs _ _; rfl
  | cons k ks ih =>
    intro bs xs h1 h2
    cases bs with
    | nil => simp at h1
    | cons b bs =>
      cases xs with
      | nil => simp at h2
      | cons x xs => simp only [List.zip_cons_cons, List.map_cons]; rw [ih (by simpa using h1) (by simpa using h2)]
theorem zip3_mem {ks : List NestedKey} : ∀ {bs : List Addr} {xs : List V} {p : NestedKey × Addr × V}, p ∈ ks.zip (bs.zip xs) → (p.1, p.2.1) ∈ ks.zip bs := by
  induction ks with
  | nil => intro bs xs p h; simp at h
  | cons k ks ih =>
    intro bs xs p h
    cases bs with
    | nil => simp at h
    | cons b bs =>
      cases xs with
      | nil => simp at h
      | cons x xs =>
        simp only [List.zip_cons_cons, List.mem_cons] at h ⊢
        rcases h with h | h
        · subst h; exact .inl rfl
        · exact .inr (ih h)
theorem nok_of {K : PySem.W.Frag} {P H : Hp} (e : Ex P H) {a : Addr} {ks : List NestedKey} {bs : List Addr} {xs : List V} (o : NkOk K P a ks bs) (n : ks.length = xs.length) : NOk K H a (ks.zip (bs.zip xs)) :=
  ⟨o.ne, by rw [List.length_zip, List.length_zip, ← o.len, ← n, Nat.min_self, Nat.min_self]; exact o.le, by
    have := zip3_key o.len n
    rw [this]; exact o.nd, fun p hp => ⟨((o.at_ _ (zip3_mem hp)).1).up e, (o.at_ _ (zip3_mem hp)).2⟩⟩
theorem valN_zip {ks : List NestedKey} {bs : List Addr} {xs : List V} {k : NestedKey} (h1 : ks.length = bs.length) (h2 : ks.length = xs.length) : valN (ks.zip (bs.zip xs)) k = valV (ks.zip xs) k := by
  unfold valN; rw [zip3_fst h1 h2]
theorem dn_heap {c : LC} {P H : Hp} (e : Ex P H) {o : Bool} {ks : List NestedKey} {ds : List D} {v : V} {U : FP} (r : Rep c P H (.dN o ks ds) v U) : ∃ a bs xs T, v = .ref a ∧ DnAt c.w H a (ks.zip (bs.zip xs)) ∧ NkOk c.K P a ks bs ∧ ks.length = xs.length ∧ RepL c P H ds xs T ∧ ∀ b, T b ≤ U b := by
  cases o with
  | true =>
    obtain ⟨a, bs, xs, T, e1, h, ok, n, rl, f⟩ := r
    exact ⟨a, bs, xs, T, e1, h, ok, n, rl, fun b => by rw [f]; simp only [fa]; omega⟩
  | false =>
    obtain ⟨a, bs, xs, e1, h, ok, n, rl⟩ := r
    exact ⟨a, bs, xs, U, e1, h.of fun o z => e _ _ z, ok, n, rl, fun b => Nat.le_refl _⟩
theorem valNk_under {c : LC} {P H : Hp} {ks : List NestedKey} {ds : List D} {xs : List V} {T : FP} (n : ks.length = xs.length) (rl : RepL c P H ds xs T) (k : NestedKey) : match under ks ds k with
    | some d => ∃ x T', valV (ks.zip xs) k = some x ∧ Rep c P H d x T' ∧ ∀ b, T' b ≤ T b
    | none => valV (ks.zip xs) k = none := by
  cases z : under ks ds k with
  | some d =>
    obtain ⟨x, T', h1, h2, h3⟩ := under_rep rl n z
    exact ⟨x, T', by unfold valV; rw [h1]; rfl, h2, h3⟩
  | none => exact under_none rl n z
theorem nkT_some {d r : D} {f : NestedKey → D} (h : (nkT d).map f = some r) : ∃ k, nkT d = some k ∧ r = f k := by
  cases e : nkT d with
  | none => rw [e] at h; cases h
  | some k => rw [e] at h; cases h; exact ⟨k, rfl, rfl⟩
theorem hr9 {X : Cx} (hu : X.A.units + 64 < cLine) : X.A.units + 9 < cLine := by omega
section
variable {X : Cx} {cl : Nat → Addr} {E : En} {e a b o i : Expr} {es : List Expr} {pos p apos cpos : Pos} {m ma mb : RM} {ms : AM} {L : Lens}
theorem FQ.dN0 {P H : Hp} {Q : VK} {c : LC} (h : FQ c P H (.dN true [] []) Q) (e : Ex P H) : ∀ p o, H p = none → (p == sysModules) = false → DnObj c.w [] o → Q (.ref p) (upd H p (exO p o)) := fun p o hp hne ho => by
  have hP := none_of e hp
  exact h _ _ P (one p) ⟨.refl _, ex_new hp, e.trans (ex_new hp), fun _ z => .inl z⟩ ⟨p, [], [], fz, rfl, ⟨o, upd_same, ho⟩, ⟨hne, rfl, Nat.zero_le _, List.nodup_nil, fun q hq => by simp at hq⟩, rfl, ⟨rfl, rfl⟩, by rw [fa_fz]⟩ one_le fun a z => by rw [one_pos z]; exact ⟨hp, hP⟩
def newN : RM := fun _ => some (.dN true [] [])
theorem f_dnewN : PE X (.Dict [] [] pos) (tF ⟨X.K, cl, X.w⟩ E newN) := PE_imp pe_dnewN fun σ H Q ⟨P, S, T, ρ, d, w, hm, q⟩ => by
  cases hm
  exact fun p o hp hne ho => q.dN0 w.ph p o hp hne ho
end
def putB (ks : List NestedKey) (bs : List Addr) (k : NestedKey) (b : Addr) : List Addr := if (ks.any fun j => decide (j = k)) = true then bs else bs ++ [b]
theorem putN_zip {k : NestedKey} {b : Addr} {y : V} {ks : List NestedKey} : ∀ {bs : List Addr} {xs : List V}, ks.length = bs.length → ks.length = xs.length → putN (ks.zip (bs.zip xs)) k b y = (putL ks xs k y).1.zip ((putB ks bs k b).zip (putL ks xs k y).2) := by
  intro bs xs h1 h2
  have hany : ((ks.zip (bs.zip xs)).any fun p => decide (p.1 = k)) = ks.any fun j => decide (j = k) := by
    have := zip3_key h1 h2
    conv => rhs; rw [← this]
    rw [List.any_map]; rfl
  unfold putN putL putB
  rw [hany]
  split
  · rename_i hq
    clear hany hq
    induction ks generalizing bs xs with
    | nil => rfl
    | cons j ks ih =>
      cases bs with
      | nil => simp at h1
      | cons b0 bs =>
        cases xs with
        | nil => simp at h2
        | cons x xs =>
          simp only [List.zip_cons_cons, List.map_cons]
          rw [ih (by simpa using h1) (by simpa using h2)]
          by_cases e : j = k <;> simp [e]
  · show _ = (ks ++ [k]).zip ((bs ++ [b]).zip (xs ++ [y]))
    rw [List.zip_append (h1.symm.trans h2), List.zip_append (by rw [List.length_zip, ← h1, ← h2, Nat.min_self])]
    rfl
theorem putNk_ok {K : PySem.W.Frag} {P : Hp} {a b : Addr} {k : NestedKey} {ks : List NestedKey} {bs : List Addr} {xs : List V} {y : V} (o : NkOk K P a ks bs) (hl : ks.length < LIM) (hk : NkRep K P k (.ref b)) (hd : k.depth ≤ 8) : NkOk K P a (putL ks xs k y).1 (putB ks bs k b) := by
  unfold putL putB
  split
  · exact o
  · rename_i hn
    refine ⟨o.ne, by rw [List.length_append, List.length_append, o.len]; rfl, by rw [List.length_append]; exact lim_le hl, ?_, fun p hp => ?_⟩
    · rw [List.nodup_append]
      refine ⟨o.nd, by simp, fun z hz w hw e => hn ?_⟩
      rw [List.any_eq_true]
      refine ⟨z, hz, ?_⟩
      rw [List.mem_singleton] at hw
      rw [decide_eq_true_eq, e, hw]
    · rw [List.zip_append o.len] at hp
      rcases List.mem_append.mp hp with hp | hp
      · exact o.at_ p hp
      · simp only [List.zip_cons_cons, List.zip_nil_right, List.mem_singleton] at hp
        subst hp
        exact ⟨hk, hd⟩
theorem dn_upd {c : LC} {E : En} {P H : Hp} {S T : FP} {σ : L2.St} {ρ : List D} {L : Lens} {v : V} {ks : List NestedKey} {ds : List D} {Sd R : FP} (w : Wd c E P S T σ H ρ) (l : Loc c L P H σ ρ S v (.dN true ks ds) Sd R) (hz : frzL ds = true) : ∃ a bs xs, v = .ref a ∧ DnAt c.w H a (ks.zip (bs.zip xs)) ∧ NkOk c.K P a ks bs ∧ ks.length = xs.length ∧ RepL c P H ds xs fz ∧
    ∀ (js : List NestedKey) (cs : List Addr) (ys : List V) (es : List D) (o : Obj), NkOk c.K P a js cs → js.length = ys.length → (∀ H', RepL c P H' es ys fz) → DnObj c.w (js.zip (cs.zip ys)) o → ∃ S', Wd c E P S' T σ (upd H a (exO a o)) (L.put ρ (.dN true js es)) ∧ ∀ b u, 0 < T b → H b = some u → upd H a (exO a o) b = some u := by
  have w' : Wd c E P S (fa T fz) σ H ρ := by rw [fa_fz]; exact w
  obtain ⟨a, bs, xs, T1, e1, hh, ok, n, rl, hf⟩ := l.rep
  have z := RepL.frz0 ds xs T1 hz rl
  subst z
  have hS : ∀ b, Sd b = one a b + fz b := fun b => by rw [hf]; rfl
  refine ⟨a, bs, xs, e1, hh, ok, n, rl, fun js cs ys es o ok2 hl hr ho => ?_⟩
  have w2 := loc_own w' l hS (fun b hb => by simp [fz] at hb) (exO a o) (.dN true js es) fz fz ⟨a, cs, ys, fz, e1, ⟨o, upd_same, ho⟩, ok2, hl, hr _, rfl⟩ fun b => by simp only [fz]; omega
  rw [fa_fz T] at w2
  refine ⟨_, w2, fun b u hb hu => ?_⟩
  have : b ≠ a := fun q => by
    subst q
    have := w.le b; have := l.sum b; have := hS b
    simp [one] at *; omega
  rw [upd_ne this]; exact hu
def dputN (L : Lens) (mi : RM) (g : GM) : SM := fun ρ => (g ρ).bind fun r => (L.get r.2).bind fun l => (mi r.2).bind fun k => match l with
  | .dN true ks ds => (nkT k).bind fun k => if frzL ds = true ∧ frz r.1 = true ∧ ks.length < LIM then some (.nx, L.put r.2 (.dN true (putL ks ds k r.1).1 (putL ks ds k r.1).2)) else none
  | _ => none
theorem dputN_split {L : Lens} {mi : RM} {g : GM} {ρ : List D} {r : Fl × List D} (h : dputN L mi g ρ = some r) : ∃ d ρ1 ks ds dk k, g ρ = some (d, ρ1) ∧ L.get ρ1 = some (.dN true ks ds) ∧ mi ρ1 = some dk ∧ nkT dk = some k ∧ frzL ds = true ∧ frz d = true ∧ ks.length < LIM ∧ r = (.nx, L.put ρ1 (.dN true (putL ks ds k d).1 (putL ks ds k d).2)) := by
  unfold dputN at h
  cases e1 : g ρ with
  | none => rw [e1] at h; cases h
  | some r1 =>
    obtain ⟨d, ρ1⟩ := r1
    rw [e1, Option.bind_some] at h
    dsimp only at h
    cases e2 : L.get ρ1 with
    | none => rw [e2] at h; cases h
    | some l =>
      cases e3 : mi ρ1 with
      | none => rw [e2, e3] at h; cases h
      | some k =>
        rw [e2, e3, Option.bind_some, Option.bind_some] at h
        split at h
        · rename_i ks ds
          cases e4 : nkT k with
          | none => rw [e4] at h; cases h
          | some kk =>
            rw [e4, Option.bind_some] at h
            split at h
            · rename_i hc
              cases h; exact ⟨d, ρ1, ks, ds, k, kk, rfl, e2, e3, e4, hc.1, hc.2.1, hc.2.2, rfl⟩
            · cases h
        · cases h
theorem s_dputN {X : Cx} {cl : Nat → Addr} {E : En} {e o i : Expr} {pos pos' : Pos} {mi : RM} {g : GM} {L : Lens} (hu : X.A.units + 9 < cLine) (he : PE X e (tG ⟨X.K, cl, X.w⟩ E g)) (ho : PE X o (tPl ⟨X.K, cl, X.w⟩ E L)) (hi : PE X i (tR ⟨X.K, cl, X.w⟩ E mi)) (hs : swapsWith e (some (.Subscript o i pos')) pos.line X.env = pure false := by rfl) :
    PS X (.Assign [.Subscript o i pos'] e pos) (tS ⟨X.K, cl, X.w⟩ E (dputN L mi g)) :=
  PS_imp (ps_dputN hu ho hi he hs) fun D σ H ⟨P, S, ρ, fl, ρ', w, hm, q⟩ => by
    obtain ⟨d, ρ1, ks, ds, dk, k, eg, el, ei, ek, hz, hd, hl, e3⟩ := dputN_split hm
    cases e3
    refine g_run w eg fun y H1 P1 S1 U w1 ex r1 => ?_
    have hU := Rep.frz0 d y U hd r1
    subst hU
    refine ⟨P1, S1, fz, ρ1, _, w1, el, fun v Sd R l => ?_⟩
    refine ⟨P1, S1, fz, ρ1, _, w1, ei, fun iv H2 P2 U2 g2 r2 => ?_⟩
    obtain ⟨a, bs, xs, ev, hh, ok, n, rl, kk⟩ := dn_upd (w1.grow g2) (l.grow g2) hz
    obtain ⟨kb, e2, hk, hdp⟩ := nkT_v ek r2
    refine ⟨a, ev, ⟨_, k, kb, hh, nok_of g2.ph ok n, e2, hk.up g2.ph, hdp, by rw [List.length_zip, List.length_zip, ← ok.len, ← n, Nat.min_self, Nat.min_self]; exact lim_lt hl, fun o ho => ?_⟩⟩
    rw [putN_zip ok.len n] at ho
    obtain ⟨S', w2, kT⟩ := kk (putL ks xs k y).1 (putB ks bs k kb) (putL ks xs k y).2 (putL ks ds k d).2 o (putNk_ok ok hl hk hdp) (putL_len n) (fun H' => putL_rep (Rep.mono g2.p d y fz (fun _ _ h => by simp [fz] at h) r1) n (repL_any rl H')) ho
    rw [show (putL ks xs k y).1 = (putL ks ds k d).1 from putL_keys] at w2
    exact q σ _ P2 S' w2 (ex.trans g2.p)
class Nc {α : Type} (e : α → D) (f : outParam (α → NestedKey)) (n : outParam Nat) : Prop where
  nc : ∀ x, toNk (e x) = some (f x)
  inj : ∀ x y, f x = f y → x = y
  dp : ∀ x, (f x).depth ≤ n
class Nk {κ : Type} (e : κ → D) (f : outParam (κ → NestedKey)) : Prop where
  nk : ∀ x, nkT (e x) = some (f x)
  inj : ∀ x y, f x = f y → x = y
def nI : Int → NestedKey := .num
def nS (s : Ts) : NestedKey := .text ⟨(s.map Char.toNat).toArray⟩
def n2 {α β : Type} (a : α → NestedKey) (b : β → NestedKey) (t : α × β) : NestedKey := .tup [a t.1, b t.2]
instance : Nc eI nI 0 := ⟨fun _ => rfl, fun x y h => by injection h, fun _ => Nat.le_refl _⟩
instance : Nc eS nS 0 := ⟨fun _ => rfl, fun x y h => by
  have h1 : (⟨(x.map Char.toNat).toArray⟩ : Str) = ⟨(y.map Char.toNat).toArray⟩ := by injection h
  have h2 : (Sum.inr ⟨(x.map Char.toNat).toArray⟩ : Key) = Sum.inr ⟨(y.map Char.toNat).toArray⟩ := by rw [h1]
  exact Ky.inj eS x y h2, fun _ => Nat.le_refl _⟩
section
variable {α β γ κ τ : Type} {a : α → D} {b : β → D} {e : α → D} {ek : κ → D} {f : α → NestedKey} {g : β → NestedKey} {nk : κ → NestedKey} {i j : Nat} {o : Bool} {ρ : List D} {m ma mb : RM}
instance nc2 [Nc a f i] [Nc b g j] : Nc (e2 a b) (n2 f g) (max i j + 1) := ⟨fun x => by
    show (toNkL [a x.1, b x.2]).map NestedKey.tup = _
    unfold toNkL toNkL toNkL
    rw [Nc.nc (e := a) x.1, Nc.nc (e := b) x.2]; rfl, fun x y h => by
    unfold n2 at h
    simp only [NestedKey.tup.injEq, List.cons.injEq, and_true] at h
    exact Prod.ext (Nc.inj (e := a) _ _ h.1) (Nc.inj (e := b) _ _ h.2), fun x => by
    show max (f x.1).depth (max (g x.2).depth 0) + 1 ≤ _
    have := Nc.dp (e := a) x.1
    have := Nc.dp (e := b) x.2
    omega⟩
theorem nk_of2 {n : Nat} {f' : NestedKey → Prop} [h : Nc (e2 a b) (n2 f g) n] (hn : n ≤ 8) : Nk (e2 a b) (n2 f g) := ⟨fun x => by
  unfold nkT
  rw [Nc.nc (e := e2 a b) x, Option.bind_some]
  have := Nc.dp (e := e2 a b) x
  show (if (n2 f g x).depth ≤ 8 then some (n2 f g x) else none) = _
  rw [if_pos (by omega)], Nc.inj (e2 a b)⟩
instance nkA [Nc a f 0] [Nc b g 0] : Nk (e2 a b) (n2 f g) := nk_of2 (f' := fun _ => True) (h := nc2) (by decide)
instance nkB [Nc a f 0] [Nc b g (max 0 0 + 1)] : Nk (e2 a b) (n2 f g) := nk_of2 (f' := fun _ => True) (h := nc2) (by decide)
def eDN {κ α : Type} (o : Bool) (nk : κ → NestedKey) (a : α → D) (m : List (κ × α)) : D := .dN o (m.map fun p => nk p.1) (m.map fun p => a p.2)
instance {a : α → D} : Ng (eDN o nk a) := ⟨fun _ => rfl⟩
instance {a : α → D} [Fz a] : Fz (eDN false nk a) := ⟨fun m => by
  show (!false && frzL (m.map fun p => a p.2)) = true
  rw [frzL2]; rfl⟩
instance {a a' : α → D} [Ic a a'] : Ic (eDN o nk a) (eDN false nk a') := ⟨fun m => by
  show D.dN false _ (iceL (m.map fun p => a p.2)) = .dN false _ (m.map fun p => a' p.2)
  congr 1
  induction m with
  | nil => rfl
  | cons p m ih => simp [iceL, ih, Ic.ic (e := a)]⟩
theorem underN [DecidableEq κ] (hj : ∀ x y, nk x = nk y → x = y) (k : κ) : ∀ m : List (κ × α), under (m.map fun p => nk p.1) (m.map fun p => a p.2) (nk k) = (getT m k).map a
  | [] => rfl
  | p :: m => by
    rw [List.map_cons, List.map_cons]
    unfold under getT
    by_cases h : p.1 = k
    · rw [if_pos h, h, if_pos rfl]; rfl
    · rw [if_neg h, if_neg (fun q => h (hj _ _ q)), underN hj k m]
theorem x_newN {a : α → D} : Ev (eDN true nk a) newN ρ (some ([] : List (κ × α))) := fun x hx => by cases hx; rfl
theorem b_dputN {σ : Type} {Q : Fl → List D → τ → Prop} {ev : σ → D} {env : σ → List D} {g : GM} {o : Option σ} {L : Lens} {mi : RM} {r : SM} {av : α → D} {v : σ → α} {xs : σ → List (κ × α)} {ok : σ → Option κ} {kt : σ × List (κ × α) → Option τ} [DecidableEq κ] [Nk ek nk] [Fz av] (env2 : σ × List (κ × α) → List D) (h : Eg ev env g ρ o) (hv : ∀ x, ev x = av (v x)) (hg : ∀ x, L.get (env x) = some (eDN true nk av (xs x))) (hi : ∀ x, Ev ek mi (env x) (ok x)) (hp : ∀ p, L.put (env p.1) (eDN true nk av p.2) = env2 p) (h3 : ∀ p, Bk Q r (env2 p) (kt p)) :
    Bk Q (seqM (dputN L mi g) r) ρ (o.bind fun x => (ok x).bind fun k => (putC (xs x) k (v x)).bind fun ys => kt (x, ys)) := fun t ht => by
  obtain ⟨x, h4, h5⟩ := ob_some ht
  obtain ⟨k, h6, h7⟩ := ob_some h5
  obtain ⟨ys, h8, h9⟩ := ob_some h7
  obtain ⟨fl, ρ', k1, k2⟩ := h3 _ t h9
  refine ⟨fl, ρ', ?_, k2⟩
  unfold putC at h8
  split at h8
  · rename_i hl
    cases h8
    unfold seqM dputN
    rw [h x h4, Option.bind_some]
    dsimp only
    rw [hg, Option.bind_some, hi x k h6, Option.bind_some]
    show (((nkT (ek k)).bind fun j => (if frzL ((xs x).map fun p => av p.2) = true ∧ frz (ev x) = true ∧ ((xs x).map fun p => nk p.1).length < LIM then some (Fl.nx, L.put (env x) (.dN true (putL ((xs x).map fun p => nk p.1) ((xs x).map fun p => av p.2) j (ev x)).1 (putL ((xs x).map fun p => nk p.1) ((xs x).map fun p => av p.2) j (ev x)).2)) else none : Option (Fl × List D))).bind _) = _
    rw [Nk.nk k, Option.bind_some, if_pos ⟨frzL2 _, by rw [hv]; exact Fz.fz _, by rw [List.length_map]; exact hl⟩, Option.bind_some, hv, put_eq nk (Nk.inj ek)]
    show r (L.put (env x) (eDN true nk av (putT (xs x) k (v x)))) = _
    rw [hp (x, _)]
    exact k1
  · cases h8
end
section
variable {X : Cx} {cl : Nat → Addr} {E : En} {e : Expr} {m : RM}
end
end LI
namespace LI
open PySem PySem.Spec PyProof.Rows L2 PySem.W

structure Sk (P : Program) (w : World) (κ : Type) [DecidableEq κ] where
  knd : KeyKind P w κ
  of : κ → Tok → Value
  key : Value → κ
  enc : κ → PyData
  vv : κ → V
  is_of : ∀ k t, knd.is k (of k t) = true
  is_iff : ∀ k j t, knd.is k (of j t) = true ↔ j = k
  scan : ∀ k t, (of k t).scannable = true
  key_of : ∀ k t, key (of k t) = k
  reads : ∀ (h : Heap) k t, Reads h (of k t) (enc k) []
  alk : ∀ k j, alike (enc k) (enc j) = true
  oth : ∀ k, enc k ≠ .none ∧ ∀ xs, enc k ≠ .tuple xs
  dep : ∀ k, (enc k).depth = 0
  rel : ∀ k t, RelV (vv k) (of k t)
  back : ∀ k u, RelV (vv k) u → ∃ t, u = of k t
  tr : ∀ a b c, dataLe false enc a b = true → dataLe false enc b c = true → dataLe false enc a c = true
  tot : ∀ a b, (dataLe false enc a b || dataLe false enc b a) = true
  anti : ∀ a b, dataLe false enc a b = true → dataLe false enc b a = true → a = b
section
variable {P : Program} {w : World} {κ : Type} [DecidableEq κ] {Z : Sk P w κ} {A : Around} {E : Value → Shared → Prop} {s : Shared} {q : Addr} {M : κ → Bool} {c : Nat}
def okE (Z : Sk P w κ) (x : Int × Value) : Prop := ∃ k tk, x.2 = Z.of k tk ∧ x.1 = Z.knd.hash k
def kyE (Z : Sk P w κ) (x : Int × Value) : κ := Z.key x.2
def SetZ (Z : Sk P w κ) (h : Heap) (q : Addr) (M : κ → Bool) (c : Nat) : Prop :=
  ∃ ob xs ep tb, h.get? q = some ob ∧ ob.ExactSet ∧ ob.data = .set xs ep tb ∧ (∀ x ∈ xs.toList, okE Z x) ∧ (xs.toList.map (kyE Z)).Nodup ∧ (∀ k, M k = true ↔ k ∈ xs.toList.map (kyE Z)) ∧
    xs.size < scanBound ∧ tb.fits xs.size = true ∧ xs.size = c ∧ Ris tb.place.toList ∧ (w.params.followText "set-order" = true ∨ tb.led = true)
theorem SetZ.at_ {h h' : Heap} (R : SetZ Z h q M c) (k : ∀ ob, h.get? q = some ob → h'.get? q = some ob) : SetZ Z h' q M c := by
  obtain ⟨ob, xs, ep, tb, ho, r⟩ := R
  exact ⟨ob, xs, ep, tb, k ob ho, r⟩
def nub {α : Type} [DecidableEq α] : List α → List α
  | [] => []
  | k :: ks => if k ∈ ks then nub ks else k :: nub ks
theorem nub_mem {α : Type} [DecidableEq α] {x : α} : ∀ ks : List α, x ∈ nub ks ↔ x ∈ ks
  | [] => Iff.rfl
  | k :: ks => by
    unfold nub
    split
    · rename_i h
      rw [nub_mem ks, List.mem_cons]
      exact ⟨.inr, fun z => z.elim (fun e => e ▸ h) id⟩
    · rw [List.mem_cons, List.mem_cons, nub_mem ks]
theorem nub_nd {α : Type} [DecidableEq α] : ∀ ks : List α, (nub ks).Nodup
  | [] => List.nodup_nil
  | k :: ks => by
    unfold nub
    split
    · exact nub_nd ks
    · rename_i h
      exact List.nodup_cons.mpr ⟨fun z => h ((nub_mem ks).mp z), nub_nd ks⟩
end
end LI
namespace LI
open PySem PySem.Spec PyProof.Rows L2 PySem.W

section
variable {X : Cx} {κ : Type} [DecidableEq κ] {Z : Sk X.prog X.w κ}
end
def leN (a b : List Nat) : Bool := decide (a ≤ b)
section
variable {X : Cx} {cl : Nat → Addr} {E : En} {e : Expr} {m : RM} {pos p1 p2 pos2 : Pos}
end
def leTs (a b : Ts) : Bool := leN (a.map Char.toNat) (b.map Char.toNat)
end LI
namespace LI
open PySem PySem.Spec PyProof.Rows L2 PySem.W

section
variable {P : Program} {w : World} {K : PySem.W.Frag} {tg : Expr} {d : Addr} {o : Obj} {l : List (NestedKey × Addr × V)}
end
mutual
def nkD : NestedKey → D
  | .none => .non
  | .num i => .int i
  | .text x => .str x.cps.toList
  | .tup ks => .tup (nkDs ks)
def nkDs : List NestedKey → List D
  | [] => []
  | k :: ks => nkD k :: nkDs ks
end
section
variable {X : Cx} {cl : Nat → Addr} {E : En} {e tg : Expr} {m : RM} {pos p : Pos}
end
section
variable {X : Cx} {pins : List (Addr × Obj)} {σ : L2.St} {H : Hp} {s : Shared}
end
end LI
namespace LI
open PySem PySem.Spec PyProof.Rows L2
class Nb {κ : Type} (e : κ → D) (f : κ → NestedKey) : Prop where
  nb : ∀ x, nkD (f x) = e x
instance : Nb eI nI := ⟨fun _ => rfl⟩
instance : Nb eS nS := ⟨fun s => by
  show D.str (⟨(s.map Char.toNat).toArray⟩ : Str).cps.toList = .str (s.map Char.toNat)
  simp⟩
instance {α β : Type} {a : α → D} {b : β → D} {f : α → NestedKey} {g : β → NestedKey} [Nb a f] [Nb b g] : Nb (e2 a b) (n2 f g) := ⟨fun x => by
  show D.tup [nkD (f x.1), nkD (g x.2)] = .tup [a x.1, b x.2]
  rw [Nb.nb (e := a), Nb.nb (e := b)]⟩
section
variable {α κ : Type} {ek : κ → D} {nk : κ → NestedKey} {a : α → D} {ρ : List D} {m : RM} {o : Bool}
end
end LI
namespace LI
open PySem L2
def undIx {κ : Type} [DecidableEq κ] : List κ → κ → Option Nat
  | [], _ => none
  | j :: ks, k => if j = k then some 0 else (undIx ks k).map (· + 1)
theorem undIx_val {κ : Type} [DecidableEq κ] {k : κ} : ∀ {ks : List κ} {xs : List V} {j : Nat} {x : V}, undIx ks k = some j → xs[j]? = some x → valV (ks.zip xs) k = some x
  | [], _, _, _, h, _ => by cases h
  | i :: ks, [], j, x, h, hx => by simp at hx
  | i :: ks, y :: xs, j, x, h, hx => by
    unfold undIx at h
    rw [List.zip_cons_cons]
    by_cases e : i = k
    · rw [if_pos e] at h; cases h
      simp at hx; subst hx
      exact valV_pos (p := (i, y)) e
    · rw [if_neg e] at h
      rw [valV_neg (p := (i, y)) e]
      cases z : undIx ks k with
      | none => rw [z] at h; cases h
      | some t =>
        rw [z] at h; cases h
        exact undIx_val z (by simpa using hx)
def updT {κ α : Type} [DecidableEq κ] : List (κ × α) → κ → α → List (κ × α)
  | [], _, _ => []
  | p :: m, k, y => if p.1 = k then (p.1, y) :: m else p :: updT m k y
section
variable {α β κ σ τ : Type} [DecidableEq κ] {o : Bool} {a : α → D} {ek : κ → D} {kq : κ → Key} [Ky ek kq] {ρ : List D} {L : Lens} {mi : RM} {g : GM}
end
end LI
namespace LI
open PySem PySem.Spec PyProof.Rows L2 PySem.W
section
variable {prog : Program} {w : World} {A : Around} {E : Value → Shared → Prop} {s : Shared}
end
section
variable {X : Cx} {cl : Nat → Addr} {E : En} {e : Expr} {m : RM} {pos p1 p2 kpos : Pos}
end
end LI
namespace LI
open PySem PySem.Spec PyProof.Rows L2 PySem.W
section
variable {X : Cx} {cl : Nat → Addr} {E : En} {a b : Expr} {ga gb : GM} {pos : Pos}
end
section
variable {X : Cx} {cl : Nat → Addr} {E : En} {a : Expr} {g : GM} {pos : Pos}
end
end LI
namespace LI
open PySem PySem.Spec PyProof.Rows L2 PySem.W
section
variable {P : Program} {w : World} {K : PySem.W.Frag} {mg : Str → Option Value} {base : Heap} {sp : Sp}
end
section
variable {X : Cx} {cl : Nat → Addr} {E : En} {rest : List Stmt} {ma mb : SM}
end
section
variable {X : Cx} {cl : Nat → Addr} {E : En} {k : Nat} {f : Addr} {fd : FuncData} {F : FM} {CX : CXT} {XE : XK} {x y z : Str} {p cp apos pos c0 c1 : Pos} {j0 j1 : Nat}
end
section
variable {X : Cx} {cl : Nat → Addr} {E : En} {e o : Expr} {pos apos : Pos} {m mo : RM}
end
end LI
namespace LI
open PySem L2
section
variable {X : Cx} {cl : Nat → Addr} {E : En} {pos pos2 : Pos}
end
end LI
namespace LI
open PySem PySem.Spec PyProof.Rows L2 PySem.W
section
variable {X : Cx} {cl : Nat → Addr} {E : En} {pos : Pos}
end
section
variable {X : Cx} {cl : Nat → Addr} {E : En} {e : Expr} {es : List Expr} {pos p apos px : Pos} {ms : AGM} {CX : CXT} {k : Nat} {f : Addr} {fd : FuncData} {ps : List Str} {F : FM} {XE : XK} {x nm : Str}
end
structure FunA (K : PySem.W.Frag) (x qual : Str) (st : Stmt) (f : Addr) (fd : FuncData) : Prop where
  ex : ∃ (oc : Value) (od : Option Addr) (dV kV doc pm : Value) (an : Option Addr) (cdv ct : Value) (osl : Array (Option Value)),
    fd = PySem.W.fnOf x qual (defArgs st) (defBody st) (defScope st) dV kV doc pm an cdv ct ∧ K.lookup f = some ⟨oc, od, .func fd, osl⟩ ∧ PySem.W.codeIn K cdv qual = true
  kp : PySem.W.keepIn K (.ref f) = true
theorem FunA.of {K : PySem.W.Frag} {x qual : Str} {st : Stmt} {dvs : List V} {f : Addr} {fd : FuncData} (F : FunD K x qual (defArgs st) (defBody st) (defScope st) dvs [] f fd) : FunA K x qual st f fd := by
  obtain ⟨oc, od, dV, kV, doc, pm, an, cdv, ct, osl, h1, h2, h3, _, _⟩ := F.ex
  exact ⟨⟨oc, od, dV, kV, doc, pm, an, cdv, ct, osl, h1, h2, h3⟩, F.kp⟩
section
variable {P : Program} {w : World} {K : PySem.W.Frag} {mg : Str → Option Value} {base : Heap} {cl : Nat → Addr}
end
section
variable {X : Cx} {cl : Nat → Addr} {E : En} {e : Expr} {es : List Expr} {pos p : Pos} {ms : AM} {CX : CXT} {k : Nat} {f : Addr} {fd : FuncData} {ps : List Str} {F : FM} {XE : XK} {x : Str} {dd : List D} {dvs : List V} {us : List Value}
end
section
variable {K : PySem.W.Frag} {x qual : Str} {st : Stmt} {dvs : List V} {f : Addr} {fd : FuncData} {ps : List Str}
end
section
variable {X : Cx} {cl : Nat → Addr} {E : En} {e : Expr} {es : List Expr} {pos p : Pos} {ms : AGM} {x : Str}
end
section
variable {X : Cx} {cl : Nat → Addr} {E : En} {pos : Pos}
end
section
variable {X : Cx} {cl : Nat → Addr} {E : En} {pos p1 p2 p3 : Pos} {e : Expr} {m : RM} {k : Nat}
end
section
variable {X : Cx} {cl : Nat → Addr} {E : En} {e : Expr} {es : List Expr} {pos p : Pos} {ms : AM} {CX : CXT} {k : Nat} {f : Addr} {fd : FuncData} {ps : List Str} {F : FM} {XE : XK} {x : Str} {dd : List D} {dvs : List V}
end
section
variable {X : Cx} {cl : Nat → Addr} {E : En} {e : Expr} {es : List Expr} {pos p : Pos} {ms : AGM} {CX : CXT} {k : Nat} {f : Addr} {fd : FuncData} {ps : List Str} {F : FM} {XE : XK} {x : Str} {dd : List D} {dvs : List V}
end
section
variable {X : Cx} {cl : Nat → Addr} {E : En} {a : Expr} {pos p2 : Pos} {ma : RM}
end
section
variable {X : Cx} {cl : Nat → Addr} {E : En} {e o : Expr} {pos apos : Pos} {m mo : RM}
end
section
variable {X : Cx} {cl : Nat → Addr} {E : En} {e o : Expr} {pos apos : Pos} {m mo : RM}
end
section
variable {X : Cx} {e : Expr} {te : TE} {apos cpos pos p : Pos}
end
section
variable {X : Cx} {cl : Nat → Addr} {E : En} {e : Expr} {apos cpos pos p : Pos} {m : RM}
end
end LI
namespace LI
open PySem PySem.Spec PyProof.Rows L2 PySem.W
section
variable {X : Cx}
end
section
variable {κ α : Type} {ek : κ → D} {kk : κ → Key} {a b e' : α → D} {n : Nat}
end
section
variable {X : Cx} {cl : Nat → Addr} {E : En} {e : Expr} {es : List Expr} {pos p : Pos} {ms : AGM} {x : Str}
end
end LI
namespace LI
open PySem L2
section
variable {α : Type} {e : α → D} {m : RM} {ρ : List D} {o : Option (List α)} {w : Bool}
end
section
variable {X : Cx} {cl : Nat → Addr} {E : En} {tg a b c : Expr} {pos : Pos} {ma mb mc : RM}
end
section
variable {ρ : List D} {ma mb mc : RM}
end
end LI
namespace LRV
open PySem PySem.Spec PyProof.Rows PySem.W RT L2
section
variable {prog : Program} {w : World} {A : Around} {E : Value → Shared → Prop} {s : Shared}
end
section
variable {X : Cx}
end
end LRV
namespace LI
open PySem L2
section
variable {X : Cx} {cl : Nat → Addr} {E : En} {pos p p2 pos2 : Pos} {e : Expr} {m : RM}
end
end LI
namespace LI
open PySem L2
def PeA (a : An) : Prop := ∃ p, toP a.d = some p ∧ p.canLay0 = true ∧ p.depth ≤ 20 ∧ p.eqv p = true
theorem PeA.mk {α : Type} [DecidableEq α] {e : α → D} {n : Nat} [Pe e n] (hn : n ≤ 20) {a : An} {x : α} (h : a.d = e x) : PeA a :=
  ⟨Pe.p e x, by rw [h]; exact Pe.to (e := e) x, Pe.lay (e := e) x, Nat.le_trans (Pe.dep (e := e) x) hn, by rw [Pe.eq (e := e)]⟩
theorem PeA.list : ∀ (xs : List An), (∀ a ∈ xs, PeA a) → ∃ ps, toPL (xs.map eA) = some ps ∧ PyData.canLayAll0 ps = true ∧ PyData.depthAll ps ≤ 20 ∧ PyData.eqvAll ps ps = true
  | [], _ => ⟨[], rfl, by simp [PyData.canLayAll0], by simp [PyData.depthAll], by simp [PyData.eqvAll]⟩
  | a :: xs, h => by
    obtain ⟨p, h1, h2, h3, h4⟩ := h a List.mem_cons_self
    obtain ⟨ps, q1, q2, q3, q4⟩ := PeA.list xs fun b hb => h b (List.mem_cons_of_mem _ hb)
    refine ⟨p :: ps, ?_, by simp [PyData.canLayAll0, h2, q2], by simp [PyData.depthAll]; omega, by simp [PyData.eqvAll, h4, q4]⟩
    have e : toP (eA a) = some p := h1
    simp [toPL, e, q1]
end LI
namespace LI
open PySem L2
def getN2M (ma mb mc : RM) : RM := fun ρ => (ma ρ).bind fun d => (mb ρ).bind fun k => (mc ρ).bind fun x => match d with
  | .dN _ ks ds => (nkT k).map fun k => (under ks ds k).getD x
  | _ => none
theorem getN2_split {ma mb mc : RM} {ρ : List D} {r : D} (h : getN2M ma mb mc ρ = some r) : ∃ o ks ds dk k x, ma ρ = some (.dN o ks ds) ∧ mb ρ = some dk ∧ nkT dk = some k ∧ mc ρ = some x ∧ r = (under ks ds k).getD x := by
  unfold getN2M at h
  cases e1 : ma ρ with
  | none => rw [e1] at h; cases h
  | some d =>
    cases e2 : mb ρ with
    | none => rw [e1, e2] at h; cases h
    | some dk =>
      cases e3 : mc ρ with
      | none => rw [e1, e2, e3] at h; cases h
      | some x =>
        rw [e1, e2, e3, Option.bind_some, Option.bind_some, Option.bind_some] at h
        split at h
        · rename_i o ks ds
          obtain ⟨k, ek, h⟩ := nkT_some h
          exact ⟨o, ks, ds, dk, k, x, rfl, rfl, ek, rfl, h⟩
        · cases h
section
variable {X : Cx} {cl : Nat → Addr} {E : En} {e o f0 : Expr} {apos cpos : Pos} {ma mb mc : RM}
theorem r_getN2 (hu : X.A.units + 9 < cLine) (ho : PE X o (tR ⟨X.K, cl, X.w⟩ E ma)) (he : PE X e (tR ⟨X.K, cl, X.w⟩ E mb)) (hf : PE X f0 (tR ⟨X.K, cl, X.w⟩ E mc)) (hm : M2 X o "get" apos e f0 cpos := by exact ⟨rfl, rfl, rfl, rfl⟩) : PE X (.Call (.Attribute o "get" apos) [e, f0] [] cpos) (tR ⟨X.K, cl, X.w⟩ E (getN2M ma mb mc)) :=
  PE_imp (pe_dget2N hu ho he hf hm) fun σ H Q ⟨P, S, T, ρ, d, w, hm, q⟩ => by
    obtain ⟨o, ks, ds, dk, k, x, e1, e2, e3, e4, rfl⟩ := getN2_split hm
    refine ⟨P, S, T, ρ, _, w, e1, fun v H1 P1 U1 g1 r1 => ?_⟩
    obtain ⟨a, bs, xs, T1, rfl, h1, ok, n1, rl, _⟩ := dn_heap g1.ph r1
    refine ⟨a, rfl, ⟨_, h1, nok_of g1.ph ok n1⟩, P1, S, T, ρ, dk, w.grow g1, e2, fun y H2 P2 U2 g2 r2 => ?_⟩
    refine ⟨P2, S, T, ρ, x, w.grow (g1.trans g2), e4, fun z H3 P3 U3 g3 r3 => ?_⟩
    obtain ⟨kb, e5, hk, hd⟩ := nkT_v e3 r2
    refine ⟨valV (ks.zip xs) k, ⟨_, k, kb, (h1.of (g2.h _)).of (g3.h _), nok_of (fun a o z => g3.h a o (g2.h a o (g1.ph a o z))) ok n1, e5, (hk.up g2.ph).up g3.h, hd, (valN_zip ok.len n1).symm⟩, ?_⟩
    have hv := valNk_under n1 (rl.gr (g2.trans g3)) k
    cases hz : under ks ds k with
    | some d =>
      rw [hz] at hv q
      obtain ⟨x', T', hx, hr, _⟩ := hv
      rw [hx]
      exact q _ _ _ _ ((g1.trans g2).trans g3) hr
    | none =>
      rw [hz] at hv q
      rw [hv]
      exact q _ _ _ _ ((g1.trans g2).trans g3) r3
end
theorem x_getN2 {κ α : Type} {nk : κ → NestedKey} {a : α → D} {ek : κ → D} {ma mb mc : RM} {ρ : List D} {o : Bool} [DecidableEq κ] [Nk ek nk] {om : Option (List (κ × α))} {ok : Option κ} {oc : Option α} (h : Ev (eDN o nk a) ma ρ om) (hk : Ev ek mb ρ ok) (hc : Ev a mc ρ oc) : Ev a (getN2M ma mb mc) ρ (om.bind fun m => ok.bind fun k => oc.bind fun x => some ((getT m k).getD x)) := fun z hz => by
  obtain ⟨m, h1, h2⟩ := ob_some hz
  obtain ⟨k, h3, h4⟩ := ob_some h2
  obtain ⟨x, h5, h6⟩ := ob_some h4
  cases h6
  unfold getN2M
  rw [h m h1, Option.bind_some, hk k h3, Option.bind_some, hc x h5, Option.bind_some]
  show (nkT (ek k)).map (fun k => Option.getD (under (m.map fun p => nk p.1) (m.map fun p => a p.2) k) (a x)) = _
  rw [Nk.nk k, Option.map_some, underN (Nk.inj ek)]
  cases getT m k <;> rfl
end LI
namespace LI
open PySem L2
def inLB (x y : D) : Option Bool := match y with
  | .lst _ ds => (toP x).bind fun p => (toPL ds).bind fun ps => if SeqAt.shaped p = true ∧ SeqAt.shaped (.list ps) = true then some (ps.any fun z => PyData.eqv z p) else none
  | _ => none
def inLD (x y : D) : Option D := (inLB x y).map .bl
def ninLD (x y : D) : Option D := (inLB x y).map fun b => .bl (!b)
theorem inLB_dp {c : LC} {P H : Hp} (e : Ex P H) {da db : D} {k : Bool} {x y : V} {U1 U2 : FP} (h : inLB da db = some k) (r1 : Rep c P H da x U1) (r2 : Rep c P H db y U2) : ∃ d ds, Dp c.K H x d ∧ Dp c.K H y (.list ds) ∧ SeqAt.shaped d = true ∧ SeqAt.shaped (.list ds) = true ∧ k = ds.any fun z => PyData.eqv z d := by
  unfold inLB at h
  split at h
  · rename_i o ds
    cases e1 : toP da with
    | none => rw [e1] at h; cases h
    | some p =>
      cases e2 : toPL ds with
      | none => rw [e1, e2] at h; cases h
      | some ps =>
        rw [e1, e2, Option.bind_some, Option.bind_some] at h
        split at h
        · rename_i hs
          cases h
          have e3 : toP (.lst o ds) = some (.list ps) := by
            show (toPL ds).map PyData.list = _
            rw [e2]; rfl
          exact ⟨p, ps, dp_of e _ _ _ _ e1 r1, dp_of e _ _ _ _ e3 r2, hs.1, hs.2, rfl⟩
        · cases h
  · cases h
theorem op_inLD {c : LC} : Op2 c (rInD c.K) inLD := by
  intro P H e da db d x y U1 U2 hf r1 r2 Q q
  unfold inLD at hf
  cases z : inLB da db with
  | none => rw [z] at hf; cases hf
  | some k =>
    rw [z] at hf; cases hf
    obtain ⟨p, ps, d1, d2, s1, s2, rfl⟩ := inLB_dp e z r1 r2
    exact ⟨p, ps, d1, d2, s1, s2, q.flat e ⟨rfl, rfl⟩⟩
theorem op_ninLD {c : LC} : Op2 c (rNotInD c.K) ninLD := by
  intro P H e da db d x y U1 U2 hf r1 r2 Q q
  unfold ninLD at hf
  cases z : inLB da db with
  | none => rw [z] at hf; cases hf
  | some k =>
    rw [z] at hf; cases hf
    obtain ⟨p, ps, d1, d2, s1, s2, rfl⟩ := inLB_dp e z r1 r2
    exact ⟨p, ps, d1, d2, s1, s2, q.flat e ⟨rfl, rfl⟩⟩
theorem toPL_map {α : Type} {e : α → D} {n : Nat} [Pe e n] : ∀ xs : List α, toPL (xs.map e) = some (xs.map (Pe.p e)) ∧ PyData.canLayAll0 (xs.map (Pe.p e)) = true ∧ PyData.depthAll (xs.map (Pe.p e)) ≤ n
  | [] => ⟨rfl, by simp [PyData.canLayAll0], by simp [PyData.depthAll]⟩
  | x :: xs => by
    obtain ⟨a, b, c⟩ := toPL_map (e := e) xs
    have h1 := Pe.to (e := e) x
    have h2 := Pe.lay (e := e) x
    have h3 := Pe.dep (e := e) x
    exact ⟨by simp [toPL, h1, a], by simp [PyData.canLayAll0, h2, b], by simp [PyData.depthAll]; omega⟩
theorem inLB_mem {α : Type} [DecidableEq α] {e : α → D} {n : Nat} [Pe e n] (hn : n ≤ 60) (o : Bool) (x : α) (xs : List α) : inLB (e x) (eL o e xs) = some (memT x xs) := by
  obtain ⟨a, b, c⟩ := toPL_map (e := e) xs
  have h1 := Pe.to (e := e) x
  have h2 := Pe.lay (e := e) x
  have h3 := Pe.dep (e := e) x
  show (toP (e x)).bind (fun p => (toPL (xs.map e)).bind fun ps => if SeqAt.shaped p = true ∧ SeqAt.shaped (.list ps) = true then some (ps.any fun z => PyData.eqv z p) else none) = _
  rw [h1, a, Option.bind_some, Option.bind_some, if_pos ⟨by simp [SeqAt.shaped, h2]; omega, by simp [SeqAt.shaped, PyData.canLay0, PyData.depth, b]; omega⟩]
  congr 1
  unfold memT
  rw [Bool.eq_iff_iff, decide_eq_true_iff, List.any_eq_true]
  constructor
  · rintro ⟨z, hz, hq⟩
    obtain ⟨y, hy, rfl⟩ := List.mem_map.mp hz
    have := (Pe.eq (e := e) y x).mp hq
    exact this ▸ hy
  · intro hx
    exact ⟨_, List.mem_map.mpr ⟨x, hx, rfl⟩, (Pe.eq (e := e) x x).mpr rfl⟩
theorem o2_inL {α : Type} [DecidableEq α] {e : α → D} {n : Nat} [Pe e n] (hn : n ≤ 60) {o : Bool} : O2 inLD e (eL o e) eB (fun x xs => some (memT x xs)) := o2_tot fun x xs => by
  unfold inLD; rw [inLB_mem hn]; rfl
theorem o2_ninL {α : Type} [DecidableEq α] {e : α → D} {n : Nat} [Pe e n] (hn : n ≤ 60) {o : Bool} : O2 ninLD e (eL o e) eB (fun x xs => some (!memT x xs)) := o2_tot fun x xs => by
  unfold ninLD; rw [inLB_mem hn]; rfl
end LI
namespace LI
open PySem L2
section
variable {c : LC} {E : En} {P : Hp} {S T : FP} {σ : L2.St} {H : Hp} {ρ : List D}
theorem Wd.take (w : Wd c E P S T σ H ρ) {i : Nat} {d : D} (hρ : ρ[i]? = some d) (hn : notGone d = true) : ∃ v Sd S', σ[i]? = some (some v) ∧ Rep c P H d v Sd ∧ Wd c E P S' (fa T Sd) σ H (ρ.set i .gone) := by
  obtain ⟨v, Sd, R, hσ, hrep, hsum, hput⟩ := w.env.focus hρ hn
  have henv := hput P H .gone fz (.refl P) (fun _ _ _ h => h) rfl
  refine ⟨v, Sd, _, hσ, hrep, henv, fun b => ?_, fun b h => w.out b ?_, fun b h => ?_, w.ph, w.p0, w.fr, w.np, fun b h => w.ns b ?_, w.kp⟩
  · have := w.le b; have := hsum b; simp only [fa, fz] at *; omega
  · have := hsum b; simp only [fa, fz] at *; omega
  · by_cases z : 0 < T b
    · exact w.th b z
    · exact Rep.there d v Sd hrep b (by simp only [fa] at h; omega)
  · have := hsum b; simp only [fa, fz] at *; omega
end
end LI
namespace LI
open PySem L2
section
variable {X : Cx} {cl : Nat → Addr} {E : En} {pos : Pos}
end
section
variable {X : Cx} {cl : Nat → Addr} {E : En} {tg : Expr} {pos p : Pos} {x : Str}
end
section
variable {α σ τ : Type} {Q : Fl → List D → τ → Prop} {e : α → D} {r body : SM} {ρ : List D} {k : List α × σ → Option τ} {kl : List Nat}
end
end LI
namespace LI
open PySem L2
section
variable {X : Cx} {cl : Nat → Addr} {E : En} {pos apos : Pos} {o e : Expr} {g : GM} {m : RM}
end
section
variable {α β σ τ υ : Type} {Q : Fl → List D → υ → Prop} {e : α → D} {m body : SM} {ρ : List D} {f : TgM} {kl : List Nat} {ev : τ → D} {env : τ → List D} {g : GM} {o : Option τ}
end
end LI
namespace LI
open PySem PySem.Spec PyProof.Rows L2
theorem u65 {k : Nat} {A : Around} (r : Room k A) : A.units + 65 < cLine := by have := r.un; omega
def DSetN (K : PySem.W.Frag) (w : World) (H : Hp) (a : Addr) (y z : V) (Q : VK) : Prop :=
  ∃ l k b, DnAt w H a l ∧ NOk K H a l ∧ y = .ref b ∧ NkRep K H k (.ref b) ∧ k.depth ≤ 8 ∧ l.length < sizeLine ∧ (∀ v, valN l k = some v → Q v H) ∧ (valN l k = none → ∀ o, DnObj w (putN l k b z) o → Q z (upd H a (exO a o)))
section
variable {X : Cx} {pins : List (Addr × Obj)} {σ : L2.St} {H : Hp} {s : Shared}
variable {a : Addr} {y z d : V} {u r : Value} {A : Around} {E : Value → Shared → Prop}
theorem dn_setdef {QQ : VK} {Q : Value → Shared → Prop} (hu : A.units + 9 < cLine) (I : Inv X pins σ H s) (g : DSetN X.K X.w H a y z QQ) (ry : RelV y u) (rz : RelV z r) (h : ∀ v H' w' s', QQ v H' → RelV v w' → Inv X pins σ H' s' → Q w' s') :
    wpAny (model X.prog X.w) A (call (.builtin "dict.setdefault") [.ref a, u, r]) Q E s := by
  obtain ⟨l, k, b, e, ok, ey, hk, hd, hl, q1, q2⟩ := g
  subst ey
  cases (show u = Value.ref b from ry)
  obtain ⟨xs, rel, dd⟩ := dn_of I e ok
  have hz : xs.length ≤ sizeLine := by rw [← Paired.length rel]; exact ok.le
  have hv := kn_val k rel
  refine call_setdefault_heap (hsz := hz) (nroom hu) (nk_key I hk hd) ok.ne dd (fun p hp => ?_) (fun hn h' dd' hs => ?_)
  · rw [hp, Option.map_some] at hv
    cases q0 : valN l k with
    | none => rw [q0] at hv; exact (show False from hv).elim
    | some v0 => rw [q0] at hv; exact h v0 H _ _ (q1 v0 q0) hv (I.tok _)
  · rw [hn, Option.map_none] at hv
    cases q0 : valN l k with
    | some v0 => rw [q0] at hv; exact (show False from hv).elim
    | none =>
      obtain ⟨o', ho, hq⟩ := dn_obj (kn_put rel k b rz) dd'
      obtain ⟨o0, e0, _⟩ := e
      exact h z _ _ _ (q2 q0 o' ho) rz (d_write I (by rw [e0]; exact True.intro) hs ⟨o', hq⟩ (ex_ok hq))
end
def tDSetN (K : PySem.W.Frag) (w : World) (td ty tx : TE) : TE := fun σ H Q => td σ H fun x H1 => ∃ a, x = .ref a ∧ IsDN K w H1 a ∧ ty σ H1 fun y H2 => tx σ H2 fun z H3 => DSetN K w H3 a y z Q
section
variable {X : Cx} {o e f : Expr} {td ty tx : TE} {apos cpos : Pos}
theorem pe_dsetN (hu : X.A.units + 9 < cLine) (ho : PE X o td) (he : PE X e ty) (hf : PE X f tx) (m : M2 X o "setdefault" apos e f cpos) : PE X (.Call (.Attribute o "setdefault" apos) [e, f] [] cpos) (tDSetN X.K X.w td ty tx) := by
  refine ⟨fun pins s σ H Q I h => ?_⟩
  refine wpAny_Call_method m.base m.few m.line PySem.F.plainAttrs_dict PySem.F.slot_dict_setdefault PySem.F.type_dict_setdefault (thn (ho.run pins s σ H _ I h) fun u s1 ⟨x, H1, I1, rx, a, ex, d, q1⟩ => ?_)
  subst ex
  obtain rfl : u = Value.ref a := rx
  obtain ⟨t1, t2, _⟩ := isDN_at I1 d
  refine ⟨t1, t2, ?_⟩
  rw [m.trees]
  refine Calls.callWith_builtin rfl (Calls.evalArgs_plain (Calls.spliced_cons (thn (he.run pins s1 σ H1 _ I1 q1) fun iv s2 ⟨y, H2, I2, ry, q2⟩ =>
    Calls.spliced_cons (thn (hf.run pins s2 σ H2 _ I2 q2) fun fv s3 ⟨z, H3, I3, rz, g⟩ => Calls.spliced_nil ?_))))
  exact dn_setdef hu I3 g ry rz fun v H4 w' s4 q3 rw' I4 => ⟨v, H4, I4, rw', q3⟩
end
section
variable {c : LC} {E : En} {P H : Hp} {S T : FP} {σ : L2.St} {ρ : List D} {L : Lens} {v : V} {d : D} {Sd R : FP}
theorem Wd.lens_take (w : Wd c E P S T σ H ρ) (l : Loc c L P H σ ρ S v d Sd R) : Wd c E P (fa fz R) (fa T Sd) σ H (L.put ρ .gone) := by
  have henv := l.put P H .gone fz (.refl P) (fun _ _ _ h => h) rfl
  refine ⟨henv, fun b => ?_, fun b h => w.out b ?_, fun b h => ?_, w.ph, w.p0, w.fr, w.np, fun b h => w.ns b ?_, w.kp⟩
  · have := w.le b; have := l.sum b; simp only [fa, fz] at *; omega
  · have := l.sum b; simp only [fa, fz] at *; omega
  · by_cases z : 0 < T b
    · exact w.th b z
    · exact Rep.there d v Sd l.rep b (by simp only [fa] at h; omega)
  · have := l.sum b; simp only [fa, fz] at *; omega
theorem wd_updA (w : Wd c E P S T σ H ρ) {a : Addr} {o : HO} (ha : 0 < T a) : Wd c E P S T σ (upd H a o) ρ := by
  have h1 := w.le a
  have hS : ∀ b, 0 < S b → b ≠ a := fun b h e => by subst e; omega
  refine ⟨RepE.mono (.refl P) ρ σ S (fun b u h k => by rw [upd_ne (hS b h)]; exact k) w.env, w.le, w.out, fun b h => ?_, fun b u h => ?_, w.p0, fun b u k1 k2 => ?_, w.np, w.ns, w.kp⟩
  · by_cases q : b = a
    · subst q; rw [upd_same]; simp
    · rw [upd_ne q]; exact w.th b h
  · have hb : b ≠ a := fun e => by
      subst e
      have := w.out b (by omega)
      rw [h] at this; cases this
    rw [upd_ne hb]; exact w.ph b u h
  · have hb : b ≠ a := fun e => by
      subst e
      rcases w.ns b (by omega) with q | q
      · omega
      · rw [k2] at q; cases q
    rw [upd_ne hb]; exact w.fr b u k1 k2
end
theorem undIx_none {κ : Type} [DecidableEq κ] {k : κ} : ∀ {ks : List κ} {xs : List V}, undIx ks k = none → valV (ks.zip xs) k = none ∧ (ks.any fun j => decide (j = k)) = false
  | [], xs, _ => ⟨by cases xs <;> rfl, rfl⟩
  | i :: ks, xs, h => by
    unfold undIx at h
    by_cases e : i = k
    · rw [if_pos e] at h; cases h
    · rw [if_neg e] at h
      have h2 : undIx ks k = none := by
        cases z : undIx ks k with
        | none => rfl
        | some t => rw [z] at h; cases h
      refine ⟨?_, by rw [List.any_cons, decide_eq_false e, (undIx_none (xs := []) h2).2]; rfl⟩
      cases xs with
      | nil => rfl
      | cons x xs => rw [List.zip_cons_cons, valV_neg (p := (i, x)) e]; exact (undIx_none (xs := xs) h2).1
def sdaM (L : Lens) (mi mx : RM) : GM := fun ρ => (L.get ρ).bind fun d => (mi ρ).bind fun kd => match d with
  | .dN true ks ds => (nkT kd).bind fun k => (mx (L.put ρ .gone)).bind fun x => if ks.length < LIM then (match undIx ks k with
    | some j => (match ds[j]? with
      | some (.lst true xs) => if xs.length < LIM then some (.non, L.put ρ (.dN true ks (ds.set j (.lst true (xs ++ [x]))))) else none
      | _ => none)
    | none => some (.non, L.put ρ (.dN true (ks ++ [k]) (ds ++ [.lst true [x]])))) else none
  | _ => none
theorem sda_split {L : Lens} {mi mx : RM} {ρ : List D} {r : D × List D} (h : sdaM L mi mx ρ = some r) : ∃ ks ds kd k x, L.get ρ = some (.dN true ks ds) ∧ mi ρ = some kd ∧ nkT kd = some k ∧ mx (L.put ρ .gone) = some x ∧ ks.length < LIM ∧
    ((∃ j xs, undIx ks k = some j ∧ ds[j]? = some (.lst true xs) ∧ xs.length < LIM ∧ r = (.non, L.put ρ (.dN true ks (ds.set j (.lst true (xs ++ [x])))))) ∨ (undIx ks k = none ∧ r = (.non, L.put ρ (.dN true (ks ++ [k]) (ds ++ [.lst true [x]]))))) := by
  unfold sdaM at h
  cases e1 : L.get ρ with
  | none => rw [e1] at h; cases h
  | some d =>
    cases e2 : mi ρ with
    | none => rw [e1, e2] at h; cases h
    | some kd =>
      rw [e1, e2, Option.bind_some, Option.bind_some] at h
      split at h
      · rename_i ks ds
        cases e3 : nkT kd with
        | none => rw [e3] at h; cases h
        | some k =>
          cases e4 : mx (L.put ρ .gone) with
          | none => rw [e3, e4] at h; cases h
          | some x =>
            rw [e3, e4, Option.bind_some, Option.bind_some] at h
            split at h
            · rename_i hl
              refine ⟨ks, ds, kd, k, x, rfl, rfl, e3, rfl, hl, ?_⟩
              split at h
              · rename_i j hj
                split at h
                · rename_i xs hx
                  split at h
                  · rename_i hxl
                    cases h
                    exact .inl ⟨j, xs, hj, hx, hxl, rfl⟩
                  · cases h
                · cases h
              · rename_i hj
                cases h
                exact .inr ⟨hj, rfl⟩
            · cases h
      · cases h
section
variable {X : Cx} {cl : Nat → Addr} {E : En} {o i e : Expr} {p0 p1 p2 p3 p4 : Pos} {mi mx : RM} {L : Lens}
theorem g_sda (hu : X.A.units + 9 < cLine) (ho : PE X o (tPl ⟨X.K, cl, X.w⟩ E L)) (hi : PE X i (tR ⟨X.K, cl, X.w⟩ E mi)) (hx : PE X e (tF ⟨X.K, cl, X.w⟩ E mx)) (m : M2 X o "setdefault" p1 i (.List [] p0) p2 := by exact ⟨rfl, rfl, rfl, rfl⟩)
    (hbase : attributeBase (.Call (.Attribute o "setdefault" p1) [i, .List [] p0] [] p2) "append" X.env (eval (.Call (.Attribute o "setdefault" p1) [i, .List [] p0] [] p2) X.env) = eval (.Call (.Attribute o "setdefault" p1) [i, .List [] p0] [] p2) X.env := by rfl)
    (hfew : ((backTo p4 (starEach [e] X.env)).all (fun x => !x.1) && (backToKw p4 (keywordEach [] X.env)).all (fun x => x.1.isSome)
      && decide ([e].length + ([] : List Keyword).length + (if ([] : List Keyword).isEmpty then 0 else 1) < 30)) = true := by rfl)
    (hline : (p3.endLine == p4.line) = true := by rfl) (hs : starEach [e] X.env = (false, eval e X.env) :: starEach [] X.env := by rfl) :
    PE X (.Call (.Attribute (.Call (.Attribute o "setdefault" p1) [i, .List [] p0] [] p2) "append" p3) [e] [] p4) (tG ⟨X.K, cl, X.w⟩ E (sdaM L mi mx)) := by
  refine PE_imp (pe_bm PySem.F.plainAttrs_list PySem.F.slot_list_append PySem.F.type_list_append mt_append (pe_dsetN hu ho hi (f_lst (cl := cl) (E := E) (ms := nilM) a_nil) m) (pa_cons hx pa_nil hs) hbase hfew hline hs) fun σ H Q ⟨P, S, T, ρ, d, ρ', w, hm, q⟩ => ?_
  obtain ⟨ks, ds, kd, k, x, e1, e2, e3, e4, hkl, hcase⟩ := sda_split hm
  refine ⟨P, S, T, ρ, _, w, e1, fun v Sd R l => ?_⟩
  obtain ⟨a, bs, xs, T1, rfl, hh, ok, n, rl, hf⟩ := l.rep
  have hSd : ∀ b, Sd b = one a b + T1 b := fun b => by rw [hf]; rfl
  refine ⟨a, rfl, ⟨_, hh, nok_of w.ph ok n⟩, P, S, T, ρ, kd, w, e2, fun y H1 P1 U1 g1 r1 => ?_⟩
  refine ⟨P1, S, T, ρ, .lst true [], w.grow g1, rfl, fun z H2 P2 U2 g2 r2 u1 u2 => ?_⟩
  have g12 := g1.trans g2
  have w2 := (w.grow g1).aside g2 u1 u2 (Rep.there _ z U2 r2)
  have l2 := l.grow g12
  obtain ⟨la, ys, Ty, rfl, hla, hys, hU2⟩ := r2
  obtain ⟨rfl, rfl⟩ : ys = [] ∧ Ty = fz := hys
  have w3 := w2.lens_take l2
  obtain ⟨kb, ey, hk, hdp⟩ := nkT_v e3 r1
  have hh2 : DnAt X.w H2 a (ks.zip (bs.zip xs)) := hh.of fun o h => g12.h _ _ h
  have hlen : (ks.zip (bs.zip xs)).length < sizeLine := by rw [List.length_zip, List.length_zip, ← ok.len, ← n, Nat.min_self, Nat.min_self]; exact lim_lt hkl
  refine ⟨_, k, kb, hh2, nok_of (fun b u h => g12.h _ _ (w.ph b u h)) ok n, ey, (hk.up g1.ph).up g2.h, hdp, hlen, fun v hv => ?_, fun hv ob hob => ?_⟩
  · rw [valN_zip ok.len n] at hv
    rcases hcase with ⟨j, ls, hj, hd, hll, hr⟩ | ⟨hj, _⟩
    · cases hr
      obtain ⟨z0, S1, R1, k1, k2, k3, k4⟩ := rl.focus hd
      have hvz : v = z0 := by
        have := undIx_val hj k1
        rw [this] at hv
        exact (Option.some.inj hv).symm
      subst hvz
      obtain ⟨l0, vs0, T0, rfl, hl0, rl0, hS1⟩ := k2
      have hS1' : ∀ b, S1 b = one l0 b + T0 b := fun b => by rw [hS1]; rfl
      have hl02 : H2 l0 = some (.lst vs0) := g12.h _ _ hl0
      refine ⟨.inl ⟨rfl, vs0, .inl (.inl hl02)⟩, P2, _, _, _, x, w3, e4, fun u H4 P4 U4 g4 r4 v1 v2 => ?_⟩
      have w4 := w3.aside g4 v1 v2 (Rep.there x u U4 r4)
      have hpos : 0 < fa (fa (fa T U2) Sd) U4 l0 := by
        have h1 := hSd l0; have h2 := k3 l0; have h3 := hS1' l0
        simp only [fa] at *
        simp [one] at h3
        omega
      have w5 := wd_updA (o := .lst (vs0 ++ [u])) w4 hpos
      have hone : ∀ b, one a b + S1 b + R1 b + R b + T b + U2 b + U4 b ≤ 1 := fun b => by
        have h0 := w4.le b; have h1 := hSd b; have h2 := k3 b
        simp only [fa, fz] at h0
        omega
      have hl0S : S1 l0 = T0 l0 + 1 := by have := hS1' l0; simp [one] at this; omega
      have keep : ∀ b u, 0 < one a b + T0 b + R1 b + R b → H b = some u → upd H4 l0 (.lst (vs0 ++ [‹V›])) b = some u := fun b u' hb hu' => by
        have hne : b ≠ l0 := fun q => by
          subst q
          have h0 := hone b
          omega
        rw [upd_ne hne]
        exact g4.h _ _ (g12.h _ _ hu')
      have keep4 : ∀ b u', 0 < U4 b → H4 b = some u' → upd H4 l0 (.lst (vs0 ++ [u])) b = some u' := fun b u' hb hu' => by
        have hne : b ≠ l0 := fun q => by
          subst q
          have h0 := hone b
          omega
        rw [upd_ne hne]; exact hu'
      have ep : Ex P P4 := g12.p.trans g4.p
      refine ⟨l0, vs0, u, rfl, rfl, g4.h _ _ hl02, by rw [← rl0.length]; exact lim_lt hll, ?_⟩
      have rnew : Rep ⟨X.K, cl, X.w⟩ P4 (upd H4 l0 (.lst (vs0 ++ [u]))) (.lst true (ls ++ [x])) (.ref l0) (fa (one l0) (fa T0 (fa U4 fz))) :=
        ⟨l0, vs0 ++ [u], _, rfl, upd_same, RepL.append (RepL.mono ep ls vs0 T0 (fun b u' hb hu' => keep b u' (by omega) hu') rl0) ⟨u, [], U4, fz, rfl, Rep.mono (.refl _) x u U4 keep4 r4, ⟨rfl, rfl⟩, rfl⟩, rfl⟩
      have rl2 := k4 P4 _ _ (.ref l0) _ ep (fun b u' hb hu' => keep b u' (by omega) hu') rnew
      have e2 : xs.set j (.ref l0) = xs := by
        apply List.ext_getElem?
        intro t
        by_cases ht : t = j
        · subst ht; rw [k1, List.getElem?_set_self (List.getElem?_eq_some_iff.mp k1).1]
        · rw [List.getElem?_set_ne (Ne.symm ht)]
      rw [e2] at rl2
      have ok4 : NkOk X.K P4 a ks bs := ok.mono fun _ _ => sqt_mono ep
      have rd : Rep ⟨X.K, cl, X.w⟩ P4 (upd H4 l0 (.lst (vs0 ++ [u]))) (.dN true ks (ds.set j (.lst true (ls ++ [x])))) (.ref a) (fa (one a) (fa (fa (one l0) (fa T0 (fa U4 fz))) R1)) :=
        ⟨a, bs, xs, _, rfl, hh.of fun o ho => keep a o (by simp [one]; omega) ho, ok4, n, rl2, rfl⟩
      have henv := l.put P4 _ _ _ ep (fun b u' hb hu' => keep b u' (by omega) hu') rd
      refine q .non _ P4 _ fz (w5.shrink henv (fun b => ?_) (fun b => by simp only [fa, fz]; omega) w5.kp) ep ⟨rfl, rfl⟩ fun b u' hb hu' => ?_
      · have h1 := hSd b; have h2 := k3 b; have h3 := hS1' b
        simp only [fa, fz]
        omega
      · have hne : b ≠ l0 := fun q => by
          subst q
          have h0 := hone b
          omega
        rw [upd_ne hne]
        exact g4.h _ _ (g12.h _ _ hu')
    · rw [(undIx_none (xs := xs) hj).1] at hv; cases hv
  · rw [valN_zip ok.len n] at hv
    rcases hcase with ⟨j, ls, hj, hd, hll, hr⟩ | ⟨hj, hr⟩
    · obtain ⟨z0, S1, R1, k1, k2, k3, k4⟩ := rl.focus hd
      rw [undIx_val hj k1] at hv; cases hv
    · cases hr
      have hany := (undIx_none (xs := xs) hj).2
      have hU2' : ∀ b, U2 b = one la b := fun b => by rw [hU2]; simp [fa, fz]
      have hne0 : a ≠ la := fun q => by
        subst q
        obtain ⟨o1, h1, _⟩ := hh
        have := (u2 a (by rw [hU2']; simp [one])).1
        rw [g1.h _ _ h1] at this; cases this
      have hpa : 0 < fa (fa T U2) Sd a := by have := hSd a; simp [one, fa] at *; omega
      have w3a := wd_updA (o := exO a ob) w3 hpa
      rw [putN_zip ok.len n] at hob
      unfold putL putB at hob
      rw [hany] at hob
      simp only [Bool.false_eq_true, if_false] at hob
      have hla3 : upd H2 a (exO a ob) la = some (.lst []) := by rw [upd_ne (Ne.symm hne0)]; exact hla
      refine ⟨.inl ⟨rfl, [], .inl (.inl hla3)⟩, P2, _, _, _, x, w3a, e4, fun u H4 P4 U4 g4 r4 v1 v2 => ?_⟩
      have w4 := w3a.aside g4 v1 v2 (Rep.there x u U4 r4)
      have hpos : 0 < fa (fa (fa T U2) Sd) U4 la := by have := hU2' la; simp [one, fa] at *; omega
      have w5 := wd_updA (o := .lst ([] ++ [u])) w4 hpos
      have hone : ∀ b, one a b + T1 b + R b + T b + one la b + U4 b ≤ 1 := fun b => by
        have h0 := w4.le b; have h1 := hSd b; have h2 := hU2' b
        simp only [fa, fz] at h0
        omega
      have hla1 : one la la = 1 := by simp [one]
      have haa1 : one a a = 1 := by simp [one]
      have ep : Ex P P4 := g12.p.trans g4.p
      have keep : ∀ b u', 0 < T1 b + R b + T b → H b = some u' → upd H4 la (.lst ([] ++ [u])) b = some u' := fun b u' hb hu' => by
        have hne : b ≠ la := fun q => by
          subst q
          have h0 := hone b
          omega
        have hne2 : b ≠ a := fun q => by
          subst q
          have h0 := hone b
          omega
        rw [upd_ne hne]
        refine g4.h _ _ ?_
        rw [upd_ne hne2]
        exact g12.h _ _ hu'
      have keep4 : ∀ b u', 0 < U4 b → H4 b = some u' → upd H4 la (.lst ([] ++ [u])) b = some u' := fun b u' hb hu' => by
        have hne : b ≠ la := fun q => by
          subst q
          have h0 := hone b
          omega
        rw [upd_ne hne]; exact hu'
      have hda : upd H4 la (.lst ([] ++ [u])) a = some (exO a ob) := by
        rw [upd_ne hne0]
        exact g4.h _ _ upd_same
      refine ⟨la, [], u, rfl, rfl, g4.h _ _ hla3, lim_lt (by unfold LIM; simp), ?_⟩
      have rnew : Rep ⟨X.K, cl, X.w⟩ P4 (upd H4 la (.lst ([] ++ [u]))) (.lst true [x]) (.ref la) (fa (one la) (fa U4 fz)) :=
        ⟨la, [] ++ [u], _, rfl, upd_same, ⟨u, [], U4, fz, rfl, Rep.mono (.refl _) x u U4 keep4 r4, ⟨rfl, rfl⟩, rfl⟩, rfl⟩
      have rl2 : RepL ⟨X.K, cl, X.w⟩ P4 (upd H4 la (.lst ([] ++ [u]))) (ds ++ [.lst true [x]]) (xs ++ [.ref la]) (fa T1 (fa (fa (one la) (fa U4 fz)) fz)) :=
        RepL.append (RepL.mono ep ds xs T1 (fun b u' hb hu' => keep b u' (by omega) hu') rl) ⟨.ref la, [], _, fz, rfl, rnew, ⟨rfl, rfl⟩, rfl⟩
      have ok4 : NkOk X.K P4 a (ks ++ [k]) (bs ++ [kb]) := by
        have h5 := putNk_ok (xs := xs) (y := .ref la) (ok.mono fun _ _ => sqt_mono ep) hkl ((hk.up g2.p).up g4.p) hdp
        unfold putL putB at h5
        rw [hany] at h5
        simpa using h5
      have rd : Rep ⟨X.K, cl, X.w⟩ P4 (upd H4 la (.lst ([] ++ [u]))) (.dN true (ks ++ [k]) (ds ++ [.lst true [x]])) (.ref a) (fa (one a) (fa T1 (fa (fa (one la) (fa U4 fz)) fz))) :=
        ⟨a, bs ++ [kb], xs ++ [.ref la], _, rfl, ⟨ob, hda, hob⟩, ok4, by rw [List.length_append, List.length_append, n]; rfl, rl2, rfl⟩
      have henv := l.put P4 _ _ _ ep (fun b u' hb hu' => keep b u' (by omega) hu') rd
      refine q .non _ P4 _ fz (w5.shrink henv (fun b => ?_) (fun b => by simp only [fa, fz]; omega) w5.kp) ep ⟨rfl, rfl⟩ fun b u' hb hu' => keep b u' (by omega) hu'
      have h1 := hSd b; have h2 := hU2' b
      simp only [fa, fz]
      omega
end
end LI
namespace LI
open PySem L2
def sdaT {κ α : Type} [DecidableEq κ] (m : List (κ × List α)) (k : κ) (x : α) : Option (List (κ × List α)) := if m.length < LIM then (match getT m k with
  | some xs => if xs.length < LIM then some (updT m k (xs ++ [x])) else none
  | none => some (m ++ [(k, [x])])) else none
section
variable {α β κ σ τ : Type} [DecidableEq κ] {o : Bool} {a : α → D} {ek : κ → D} {nk : κ → NestedKey} [Nk ek nk] {ρ : List D} {L : Lens} {mi : RM} {g : GM}
theorem undIxN_get (hj : ∀ x y, nk x = nk y → x = y) (k : κ) : ∀ {m : List (κ × α)} {x : α}, getT m k = some x → ∃ j, undIx (m.map fun p => nk p.1) (nk k) = some j ∧ (m.map fun p => a p.2)[j]? = some (a x) ∧ ∀ y, (m.map fun p => a p.2).set j (a y) = (updT m k y).map fun p => a p.2
  | [], x, h => by cases h
  | p :: m, x, h => by
    unfold getT at h
    simp only [List.map_cons]
    unfold undIx updT
    by_cases e : p.1 = k
    · rw [if_pos e] at h; cases h
      exact ⟨0, if_pos (by rw [e]), rfl, fun y => by rw [if_pos e]; rfl⟩
    · rw [if_neg e] at h
      obtain ⟨j, h1, h2, h3⟩ := undIxN_get hj k h
      refine ⟨j + 1, by rw [if_neg (fun q => e (hj _ _ q)), h1]; rfl, by simpa using h2, fun y => ?_⟩
      rw [if_neg e]
      show a p.2 :: ((m.map fun p => a p.2).set j (a y)) = _
      rw [h3]; rfl
theorem undIxN_none (hj : ∀ x y, nk x = nk y → x = y) (k : κ) : ∀ {m : List (κ × α)}, getT m k = none → undIx (m.map fun p => nk p.1) (nk k) = none
  | [], h => rfl
  | p :: m, h => by
    unfold getT at h
    simp only [List.map_cons]
    unfold undIx
    by_cases e : p.1 = k
    · rw [if_pos e] at h; cases h
    · rw [if_neg e] at h
      rw [if_neg (fun q => e (hj _ _ q)), undIxN_none hj k h]; rfl
theorem updN_keys (k : κ) (y : α) : ∀ m : List (κ × α), (updT m k y).map (fun p => nk p.1) = m.map fun p => nk p.1
  | [] => rfl
  | p :: m => by
    unfold updT
    by_cases e : p.1 = k
    · rw [if_pos e]; rfl
    · rw [if_neg e, List.map_cons, List.map_cons, updN_keys k y m]
theorem eg_sda {e : α → D} {m : List (κ × List α)} {env : List (κ × List α) → List D} {mx : RM} {ok : Option κ} {ox : Option α} (hL : L.get ρ = some (eDN true nk (eL true e) m)) (hp : ∀ ys, L.put ρ (eDN true nk (eL true e) ys) = env ys) (hk : Ev ek mi ρ ok) (hx : Ev e mx (L.put ρ .gone) ox) :
    Eg (fun _ : List (κ × List α) => .non) env (sdaM L mi mx) ρ (ok.bind fun k => ox.bind fun x => sdaT m k x) := fun r hr => by
  obtain ⟨k, h1, h2⟩ := ob_some hr
  obtain ⟨x, h3, h4⟩ := ob_some h2
  unfold sdaT at h4
  split at h4
  · rename_i hl
    have hk' := hk k h1
    have hx' := hx x h3
    unfold sdaM
    rw [hL, Option.bind_some, hk', Option.bind_some]
    show ((nkT (ek k)).bind fun k => (mx (L.put ρ .gone)).bind fun x => if (m.map fun p => nk p.1).length < LIM then (match undIx (m.map fun p => nk p.1) k with
      | some j => (match (m.map fun p => eL true e p.2)[j]? with
        | some (.lst true xs) => if xs.length < LIM then some (D.non, L.put ρ (.dN true (m.map fun p => nk p.1) ((m.map fun p => eL true e p.2).set j (.lst true (xs ++ [x]))))) else none
        | _ => none)
      | none => some (D.non, L.put ρ (.dN true ((m.map fun p => nk p.1) ++ [k]) ((m.map fun p => eL true e p.2) ++ [.lst true [x]])))) else none) = _
    rw [Nk.nk k, Option.bind_some, hx', Option.bind_some, List.length_map, if_pos hl]
    cases z : getT m k with
    | some xs =>
      rw [z] at h4
      dsimp only at h4
      split at h4
      · rename_i hxl
        cases h4
        obtain ⟨j, k1, k2, k3⟩ := undIxN_get (a := eL true e) (Nk.inj ek) k z
        rw [k1]
        dsimp only
        rw [k2]
        show (if (xs.map e).length < LIM then some (D.non, L.put ρ (.dN true (m.map fun p => nk p.1) ((m.map fun p => eL true e p.2).set j (.lst true (xs.map e ++ [e x]))))) else none) = _
        rw [List.length_map, if_pos hxl, show (D.lst true (xs.map e ++ [e x])) = eL true e (xs ++ [x]) from by unfold eL; rw [List.map_append]; rfl, k3, ← hp]
        unfold eDN
        rw [updN_keys]
      · cases h4
    | none =>
      rw [z] at h4
      cases h4
      rw [undIxN_none (Nk.inj ek) k z]
      dsimp only
      rw [← hp]
      unfold eDN
      rw [List.map_append, List.map_append]
      rfl
  · cases h4
end
end LI
namespace LI
open PySem L2

@[simp] theorem foldT_nil {σ α : Type} {g : σ → α → Option σ} {s : σ} : foldT g [] s = some s := (rfl)
@[simp] theorem foldT_cons {σ α : Type} {g : σ → α → Option σ} {s : σ} {x : α} {xs : List α} : foldT g (x :: xs) s = (g s x).bind fun s => foldT g xs s := (rfl)
theorem foldT_app {σ α : Type} {g : σ → α → Option σ} : ∀ {xs ys : List α} {s : σ}, foldT g (xs ++ ys) s = (foldT g xs s).bind fun s => foldT g ys s
  | [], ys, s => rfl
  | x :: xs, ys, s => by
    rw [List.cons_append, foldT_cons, foldT_cons, Option.bind_assoc]
    congr 1; funext s'; exact foldT_app
@[simp] theorem forT_nil {σ α τ : Type} {g : σ → α → Option (St σ τ)} {s : σ} : forT g [] s = some (.inl s) := (rfl)
theorem forT_cons {σ α τ : Type} {g : σ → α → Option (St σ τ)} {s : σ} {x : α} {xs : List α} : forT g (x :: xs) s = (g s x).bind fun u => match u with
    | .nx s => forT g xs s
    | .bk s => some (.inl s)
    | .rt t => some (.inr t) := (rfl)
@[simp] theorem seqT_inl {σ τ : Type} {s : σ} {k : σ → Option τ} : seqT (.inl s) k = k s := (rfl)
@[simp] theorem seqT_inr {σ τ : Type} {t : τ} {k : σ → Option τ} : seqT (.inr t) k = some t := (rfl)
theorem foldT_inv {σ α : Type} {g : σ → α → Option σ} (P : σ → Prop) : ∀ (xs : List α) (s : σ), P s → (∀ s x, P s → x ∈ xs → ∃ s', g s x = some s' ∧ P s') → ∃ s', foldT g xs s = some s' ∧ P s'
  | [], s, h, _ => ⟨s, rfl, h⟩
  | x :: xs, s, h, k => by
    obtain ⟨s1, h1, h2⟩ := k s x h (by simp)
    obtain ⟨s2, h3, h4⟩ := foldT_inv P xs s1 h2 fun s y hs hy => k s y hs (by simp [hy])
    exact ⟨s2, by rw [foldT_cons, h1]; exact h3, h4⟩
theorem foldT_cnt {σ α : Type} {g : σ → α → Option σ} (P : Nat → σ → Prop) : ∀ (xs : List α) (s : σ), P xs.length s → (∀ n s x, P (n + 1) s → x ∈ xs → ∃ s', g s x = some s' ∧ P n s') → ∃ s', foldT g xs s = some s' ∧ P 0 s'
  | [], s, h, _ => ⟨s, rfl, h⟩
  | x :: xs, s, h, k => by
    obtain ⟨s1, h1, h2⟩ := k xs.length s x h (by simp)
    obtain ⟨s2, h3, h4⟩ := foldT_cnt P xs s1 h2 fun n s y hs hy => k n s y hs (by simp [hy])
    exact ⟨s2, by rw [foldT_cons, h1]; exact h3, h4⟩
theorem forT_inv {σ α τ : Type} {g : σ → α → Option (St σ τ)} (P : σ → Prop) : ∀ (xs : List α) (s : σ), P s → (∀ s x, P s → x ∈ xs → ∃ s', g s x = some (.nx s') ∧ P s') → ∃ s', forT g xs s = some (.inl s') ∧ P s'
  | [], s, h, _ => ⟨s, rfl, h⟩
  | x :: xs, s, h, k => by
    obtain ⟨s1, h1, h2⟩ := k s x h (by simp)
    obtain ⟨s2, h3, h4⟩ := forT_inv P xs s1 h2 fun s y hs hy => k s y hs (by simp [hy])
    exact ⟨s2, by rw [forT_cons, h1]; exact h3, h4⟩
theorem forT_unit {α τ : Type} {g : Unit → α → Option (St Unit τ)} (xs : List α) (k : ∀ x, x ∈ xs → g () x = some (.nx ())) : forT g xs () = some (.inl ()) := by
  obtain ⟨s, h, _⟩ := forT_inv (fun _ => True) xs () trivial fun s x _ hx => ⟨(), k x hx, trivial⟩
  exact h
theorem compG_ex {α β : Type} {g : α → Option β} {P : α → β → Prop} : ∀ {xs : List α}, (∀ x ∈ xs, ∃ y, g x = some y ∧ P x y) → ∃ ys, compG (fun _ => some true) g xs = some ys ∧ ys.length = xs.length ∧ ∀ y ∈ ys, ∃ x ∈ xs, P x y
  | [], _ => ⟨[], rfl, rfl, by simp⟩
  | x :: xs, h => by
    obtain ⟨y, h1, h2⟩ := h x (by simp)
    obtain ⟨ys, h3, h4, h5⟩ := compG_ex (xs := xs) fun z hz => h z (by simp [hz])
    refine ⟨y :: ys, by simp [compG, h1, h3], by simp [h4], ?_⟩
    intro z hz
    rcases List.mem_cons.mp hz with rfl | hz
    · exact ⟨x, by simp, h2⟩
    · obtain ⟨w, h6, h7⟩ := h5 z hz
      exact ⟨w, by simp [h6], h7⟩
theorem compT_ex {α β : Type} {g : α → Option β} {P : α → β → Prop} {xs : List α} (hl : xs.length ≤ LIM) (h : ∀ x ∈ xs, ∃ y, g x = some y ∧ P x y) : ∃ ys, compT (fun _ => some true) g xs = some ys ∧ ys.length = xs.length ∧ ∀ y ∈ ys, ∃ x ∈ xs, P x y := by
  unfold compT; rw [if_pos hl]; exact compG_ex h
theorem compG_map {α β : Type} {g : α → Option β} {f : α → β} : ∀ {xs : List α}, (∀ x ∈ xs, g x = some (f x)) → compG (fun _ => some true) g xs = some (xs.map f)
  | [], _ => rfl
  | x :: xs, h => by simp [compG, h x (by simp), compG_map (xs := xs) fun z hz => h z (by simp [hz])]
theorem compT_map {α β : Type} {g : α → Option β} {f : α → β} {xs : List α} (hl : xs.length ≤ LIM) (h : ∀ x ∈ xs, g x = some (f x)) : compT (fun _ => some true) g xs = some (xs.map f) := by
  unfold compT; rw [if_pos hl]; exact compG_map h
theorem compG_fil {α β : Type} {p : α → Option Bool} {q : α → Bool} {g : α → Option β} {f : α → β} : ∀ {xs : List α}, (∀ x ∈ xs, p x = some (q x)) → (∀ x ∈ xs, q x = true → g x = some (f x)) → compG p g xs = some ((xs.filter q).map f)
  | [], _, _ => rfl
  | x :: xs, hp, h => by
    have ih := compG_fil (xs := xs) (fun z hz => hp z (by simp [hz])) fun z hz => h z (by simp [hz])
    cases hq : q x with
    | true => simp [compG, hp x (by simp), hq, h x (by simp) hq, ih]
    | false => simp [compG, hp x (by simp), hq, ih]
theorem compT_fil {α β : Type} {p : α → Option Bool} {q : α → Bool} {g : α → Option β} {f : α → β} {xs : List α} (hl : xs.length ≤ LIM) (hp : ∀ x ∈ xs, p x = some (q x)) (h : ∀ x ∈ xs, q x = true → g x = some (f x)) : compT p g xs = some ((xs.filter q).map f) := by
  unfold compT; rw [if_pos hl]; exact compG_fil hp h
theorem catL_ok {α : Type} {s t : List α} (h : s.length + t.length ≤ LIM) : catL s t = some (s ++ t) := if_pos h
theorem appT_ok {α : Type} {s : List α} {x : α} (h : s.length < LIM) : appT s x = some (s ++ [x]) := if_pos h
theorem rngT_ok {n : Int} (h1 : -1000000000000 ≤ n) (h2 : n ≤ 1000000000000) : rngT n = some ((List.range n.toNat).map fun (k : Nat) => (k : Int)) := if_pos ⟨by omega, by omega⟩
theorem mulT_ok {a b : Int} (h1 : -1000000000000000000 ≤ a) (h2 : a ≤ 1000000000000000000) : mulT a b = some (a * b) := if_pos (.inl ⟨by omega, by omega⟩)
theorem modT_ok {a b : Int} (h : 0 < b) : modT a b = some (a % b) := if_pos h
theorem atI_ok {α : Type} {xs : List α} {i : Int} (h0 : 0 ≤ i) (h1 : i < (xs.length : Int)) : ∃ x ∈ xs, atI xs i = some x :=
  have : i.toNat < xs.length := by omega
  ⟨_, List.getElem_mem this, atI_at h0 this⟩
theorem ixS_mem {s : Ts} {i : Int} (h : s.length ≤ LIM) (h0 : 0 ≤ i) (h1 : i < (s.length : Int)) : ∃ c ∈ s, ixS s i = some [c] := by
  obtain ⟨c, h2, h3⟩ := atI_ok h0 h1
  exact ⟨c, h2, by unfold ixS; rw [if_pos h, h3]; rfl⟩
@[simp] theorem inS_1 {c : Char} {z : Ts} : inS [c] z = some (decide (c ∈ z)) := (rfl)
theorem mod_in (c n : Int) (hn : 0 < n) : 0 ≤ c % n ∧ c % n < n := ⟨Int.emod_nonneg _ (by omega), Int.emod_lt_of_pos _ hn⟩
theorem cut_nat {α : Type} {xs : List α} {a b : Nat} : cutL xs (some (a : Int)) (some (b : Int)) = (xs.take b).drop a := by
  rw [cut_fromto (by omega) (by omega)]
  simp [List.drop_take]
end LI
namespace LI
open PySem L2
end LI
namespace OW
open PySem L2 LI
def t_lw_cell (script : (List Int)) (k : Int) : Option Int :=
  if decide (k < (List.length script : Int)) = true then
  (atI script k)
  else
  some (0 : Int)
def t_lw_mix (cell_here : Int) (k : Int) : Option Int :=
  if decide ((1000000000000000000 : Int) < cell_here) = true then
  let rest : Int := cell_here
  ((rngT k).bind fun v1_ => (foldT (fun (s2_ : Int) (turn : Int) =>
  let rest : Int := (s2_ / 1000000000)
  some rest) v1_ rest).bind fun (s2_ : Int) =>
  some (s2_ % 1000000000))
  else
  let number : Int := ((cell_here % 2147483647) + (7919 : Int))
  ((rngT (k + (2 : Int))).bind fun v3_ => (foldT (fun (s4_ : Int) (turn : Int) =>
  let number : Int := (((s4_ * 48271) + (104729 : Int)) % 2147483629)
  some number) v3_ number).bind fun (s4_ : Int) =>
  (((mulT s4_ s4_).bind fun v5_ => some (v5_ % 998244353)).bind fun v6_ => some (v6_ / 11)))
end OW
namespace OW
open PySem L2 LI
end OW
namespace OW
open PySem L2 LI
structure OMaker where
  most : Int
  row : (List (Ts × Ts × Ts × Int))
  ink : Ts
  ground : Ts
  stale : Bool
  more : Bool
def t_Maker_make_plain (self : OMaker) : Option OMaker :=
  let u1_ : Ts := ['.']
  let u2_ : Ts := ['.']
  some ({ { self with ink := u1_ } with ground := u2_ })
def t_Maker_tell_part (self : OMaker) (word : Ts) : Option ((List ((List (Ts × Ts × Ts × Int)) × Ts)) × OMaker) :=
  let part : ((List (Ts × Ts × Ts × Int)) × Ts) := (self.row, word)
  let u1_ : (List (Ts × Ts × Ts × Int)) := ([] : (List (Ts × Ts × Ts × Int)))
  let u2_ : Bool := false
  let u3_ : Bool := (decide (word = ['m', 'o', 'r', 'e']))
  some (([part] : (List ((List (Ts × Ts × Ts × Int)) × Ts))), { { { self with row := u1_ } with stale := u2_ } with more := u3_ })
def t_Maker_put_sign (self : OMaker) (sign : Ts) (place : Int) : Option ((List ((List (Ts × Ts × Ts × Int)) × Ts)) × OMaker) :=
  let found : (List ((List (Ts × Ts × Ts × Int)) × Ts)) := ([] : (List ((List (Ts × Ts × Ts × Int)) × Ts)))
  ((if (decide ((List.length self.row : Int) = self.most)) = true then
  ((t_Maker_tell_part self ['m', 'o', 'r', 'e'])).bind fun (u1_ : ((List ((List (Ts × Ts × Ts × Int)) × Ts)) × OMaker)) =>
  some (u1_.2, u1_.1)
  else
  some (self, found) : Option (OMaker × (List ((List (Ts × Ts × Ts × Int)) × Ts))))).bind fun (s2_ : (OMaker × (List ((List (Ts × Ts × Ts × Int)) × Ts)))) =>
  ((appT s2_.1.row (sign, s2_.1.ink, s2_.1.ground, place))).bind fun (u3_ : (List (Ts × Ts × Ts × Int))) =>
  some (s2_.2, { s2_.1 with row := u3_ })
def t_Maker_put (self : OMaker) (item : (Int × Ts × Ts)) : Option ((List ((List (Ts × Ts × Ts × Int)) × Ts)) × OMaker) :=
  let u1_ : (Int × Ts × Ts) := item
  if (decide (u1_.2.1 = (['e', 'n', 'd'] : Ts))) = true then
  ((t_Maker_make_plain self)).bind fun (u2_ : OMaker) =>
  ((t_Maker_tell_part u2_ ['w', 'h', 'o', 'l', 'e'])).bind fun u3_ => some (u3_.1, u3_.2)
  else
  if (decide (u1_.2.1 = (['a', 'n', 'e', 'w'] : Ts))) = true then
  ((t_Maker_make_plain self)).bind fun (u4_ : OMaker) =>
  let u5_ : Bool := true
  some (([] : (List ((List (Ts × Ts × Ts × Int)) × Ts))), { u4_ with stale := u5_ })
  else
  ((if self.stale = true then
  let u6_ : (List (Ts × Ts × Ts × Int)) := ([] : (List (Ts × Ts × Ts × Int)))
  let u7_ : Bool := false
  some ({ { self with row := u6_ } with stale := u7_ })
  else
  some self : Option OMaker)).bind fun (s8_ : OMaker) =>
  if (decide (u1_.2.1 = (['s', 'i', 'g', 'n'] : Ts))) = true then
  ((t_Maker_put_sign s8_ u1_.2.2 u1_.1)).bind fun u9_ => some (u9_.1, u9_.2)
  else
  ((if (decide (u1_.2.1 = (['i', 'n', 'k'] : Ts))) = true then
  let u10_ : Ts := u1_.2.2
  some ({ s8_ with ink := u10_ })
  else
  ((if (decide (u1_.2.1 = (['g', 'r', 'o', 'u', 'n', 'd'] : Ts))) = true then
  let u11_ : Ts := u1_.2.2
  some ({ s8_ with ground := u11_ })
  else
  ((t_Maker_make_plain s8_)).bind fun (u12_ : OMaker) =>
  some u12_ : Option OMaker)).bind fun (s13_ : OMaker) =>
  some s13_ : Option OMaker)).bind fun (s14_ : OMaker) =>
  some (([] : (List ((List (Ts × Ts × Ts × Int)) × Ts))), s14_)
end OW
namespace OW
open PySem L2 LI
end OW
namespace OW
open PySem L2 LI
end OW
namespace OW
open PySem L2 LI
end OW
namespace OW
open PySem L2 LI
end OW
namespace OW
open PySem L2 LI
end OW
namespace OW
open PySem L2 LI
end OW
namespace OW
open PySem L2 LI
def t_lw_mix_b (cell : Int) (k : Int) : Option Int :=
  if decide ((1000000000000000000 : Int) < cell) = true then
  let rest : Int := cell
  ((rngT k).bind fun v1_ => (foldT (fun (s2_ : Int) (turn : Int) =>
  let rest : Int := (s2_ / 1000000000)
  some rest) v1_ rest).bind fun (s2_ : Int) =>
  some (s2_ % 1000000000))
  else
  let number : Int := ((cell % 2147483647) + (7919 : Int))
  ((rngT (k + (2 : Int))).bind fun v3_ => (foldT (fun (s4_ : Int) (turn : Int) =>
  let number : Int := (((s4_ * 48271) + (104729 : Int)) % 2147483629)
  some number) v3_ number).bind fun (s4_ : Int) =>
  (((mulT s4_ s4_).bind fun v5_ => some (v5_ % 998244353)).bind fun v6_ => some (v6_ / 11)))
end OW
namespace OW
open PySem L2 LI
end OW
namespace OW
open PySem L2 LI
structure OShade where
  told_look : (List (Ts × Ts × Ts))
  inks : (List Ts)
  grounds : (List Ts)
def t_Shade_nodes_at (self : OShade) (at_ : Int) : Option (List (Int × (Ts × Ts))) :=
  let found : (List (Int × (Ts × Ts))) := ([] : (List (Int × (Ts × Ts))))
  (foldT (fun (s1_ : (List (Int × (Ts × Ts)))) (ink : Ts) =>
  (((compT (fun (ground : Ts) => (some true)) (fun (ground : Ts) => (some (at_, (ink, ground)))) self.grounds).bind fun r2_ => (catL s1_ r2_).bind fun z3_ => some (r2_, z3_))).bind fun (u4_ : ((List (Int × (Ts × Ts))) × (List (Int × (Ts × Ts))))) =>
  some u4_.2) self.inks found).bind fun (s1_ : (List (Int × (Ts × Ts)))) =>
  some s1_
end OW
namespace OW
open PySem L2 LI
end OW
namespace OW
open PySem L2 LI
end OW
namespace OW
open PySem L2 LI
end OW
namespace OW
open PySem L2 LI

def cols : Ts := ['a', 'b', 'c', 'd', 'e', 'f', 'g', 'h', '.']
def isCol (c : Char) : Bool := decide (c ∈ cols)
def isSg (c : Char) : Bool := decide (32 ≤ c.toNat) && decide (c.toNat ≤ 125)
def okC (c : Char) : Bool := isSg c || decide (c = '\n') || decide (c = '\t')
abbrev Im := Int × Ts × Ts
def kSign : Ts := ['s', 'i', 'g', 'n']
def kInk : Ts := ['i', 'n', 'k']
def kGround : Ts := ['g', 'r', 'o', 'u', 'n', 'd']
def kPlain : Ts := ['p', 'l', 'a', 'i', 'n']
def kEnd : Ts := ['e', 'n', 'd']
def kAnew : Ts := ['a', 'n', 'e', 'w']
def sgI (c : Char) : Ts × Ts := if c = '\n' then (kEnd, []) else if c = '\t' then (kAnew, []) else (kSign, [c])
def isColO : Option Char → Bool
  | some c => isCol c
  | none => false
def stp (s : Ts) : (Ts × Ts) × Nat :=
  if s[0]? = some '[' then
    if s[1]? = some ']' then ((kPlain, []), 2)
    else if s[1]? = some '[' then ((kSign, ['[']), 2)
    else if isColO s[1]? = true ∧ s[2]? = some ']' then ((kInk, [s[1]?.getD ' ']), 3)
    else if s[1]? = some '/' ∧ isColO s[2]? = true ∧ s[3]? = some ']' then ((kGround, [s[2]?.getD ' ']), 4)
    else ((kSign, ['[']), 1)
  else (sgI (s[0]?.getD ' '), 1)
theorem stp_pos (s : Ts) : 0 < (stp s).2 := by
  unfold stp
  repeat' split
  all_goals simp
def its (p : Int) (s : Ts) : List Im :=
  if h : s = [] then [] else (p, (stp s).1.1, (stp s).1.2) :: its (p + (stp s).2) (s.drop (stp s).2)
termination_by s.length
decreasing_by
  have := stp_pos s
  have : 0 < s.length := List.length_pos_iff.mpr h
  rw [List.length_drop]; omega
end OW
namespace OW
open PySem L2 LI

theorem lim_lt {n : Nat} (h : n ≤ 4000000) : n ≤ LIM := h
theorem cell_eq (ns : List Int) (k : Nat) : t_lw_cell ns (k : Int) = some (ns.getD k 0) := by
  unfold t_lw_cell
  by_cases h : k < ns.length
  · simp [h, atI_nat h]
  · simp [h]
theorem mix_ex (c : Int) (k : Int) (h0 : 0 ≤ k) (hk : k ≤ 1000000) : ∃ v, t_lw_mix c k = some v ∧ 0 ≤ v ∧ v < 1000000000 := by
  unfold t_lw_mix
  by_cases hc : (1000000000000000000 : Int) < c
  · rw [if_pos (by simpa using hc)]
    dsimp only
    rw [rngT_ok (by omega) (by omega), Option.bind_some]
    obtain ⟨s, h1, _⟩ := foldT_inv (g := fun (s1 : Int) (turn : Int) => some (s1 / 1000000000)) (fun _ => True) ((List.range k.toNat).map fun (k : Nat) => (k : Int)) c trivial fun s x _ _ => ⟨_, rfl, trivial⟩
    rw [h1]
    exact ⟨_, rfl, by omega, by omega⟩
  · rw [if_neg (by simpa using hc)]
    dsimp only
    rw [rngT_ok (by omega) (by omega), Option.bind_some]
    obtain ⟨s, h1, h2, h3⟩ := foldT_inv (g := fun (s1 : Int) (turn : Int) => some ((s1 * 48271 + 104729) % 2147483629)) (fun s => 0 ≤ s ∧ s < 4294967296) ((List.range (k + 2).toNat).map fun (k : Nat) => (k : Int)) (c % 2147483647 + 7919) ⟨by omega, by omega⟩ fun s x _ _ => ⟨_, rfl, by omega, by omega⟩
    rw [h1, Option.bind_some, mulT_ok (by omega) (by omega), Option.bind_some, Option.bind_some]
    refine ⟨_, rfl, ?_⟩
    generalize s * s = z
    exact ⟨by omega, by omega⟩
end OW
namespace OW
open PySem L2 LI
def gd (s : Ts) : Bool := s.all okC && decide (1 ≤ s.length) && decide (s.length ≤ 9)
theorem atI_all {α : Type} {xs : List α} {P : α → Prop} {i : Int} (h0 : 0 ≤ i) (h1 : i < (xs.length : Int)) (h : ∀ x ∈ xs, P x) : ∃ x, atI xs i = some x ∧ P x := by
  obtain ⟨x, h2, h3⟩ := atI_ok h0 h1
  exact ⟨x, h3, h x h2⟩
end OW
namespace OW
open PySem L2 LI
inductive GI : Ts → Ts → Prop
  | sign (c : Char) : isSg c = true → GI kSign [c]
  | ink (c : Char) : isCol c = true → GI kInk [c]
  | ground (c : Char) : isCol c = true → GI kGround [c]
  | plain : GI kPlain []
  | fin : GI kEnd []
  | anew : GI kAnew []
abbrev Lt := Ts × Ts × Ts × Int
abbrev Ls := List Lt
abbrev Pt := Ls × Ts
abbrev Ms := Ls × Bool × Ts × Ts
def dot : Ts := ['.']
def kMore : Ts := ['m', 'o', 'r', 'e']
def kWhole : Ts := ['w', 'h', 'o', 'l', 'e']
def mkS (most : Int) (s : Ms) (i : Im) : Ms × List Pt :=
  if i.2.1 = kAnew then ((s.1, true, dot, dot), [])
  else if i.2.1 = kEnd then (([], false, dot, dot), [(s.1, kWhole)])
  else
    let row : Ls := if s.2.1 = true then [] else s.1
    if i.2.1 = kSign then
      if (row.length : Int) = most then (([(i.2.2, s.2.2.1, s.2.2.2, i.1)], false, s.2.2.1, s.2.2.2), [(row, kMore)])
      else ((row ++ [(i.2.2, s.2.2.1, s.2.2.2, i.1)], false, s.2.2.1, s.2.2.2), [])
    else if i.2.1 = kInk then ((row, false, i.2.2, s.2.2.2), [])
    else if i.2.1 = kGround then ((row, false, s.2.2.1, i.2.2), [])
    else ((row, false, dot, dot), [])
def goS (g : Bool) (told : List Pt) : Bool := match told.getLast? with
  | some p => decide (p.2 = kMore)
  | none => g
def mkO (most : Int) (s : Ms) (g : Bool) : OMaker := ⟨most, s.1, s.2.2.1, s.2.2.2, s.2.1, g⟩
theorem put_eq {most : Int} {s : Ms} {g : Bool} {i : Im} (h : GI i.2.1 i.2.2) (hm : most ≤ 200) (hl : (s.1.length : Int) ≤ most) :
    t_Maker_put (mkO most s g) i = some ((mkS most s i).2, mkO most (mkS most s i).1 (goS g (mkS most s i).2)) := by
  obtain ⟨p, k, v⟩ := i
  obtain ⟨row, stale, ink, ground⟩ := s
  dsimp only at h hl
  have hL : ∀ r : Ls, (r.length : Int) ≤ most → r.length < LIM := fun r hr => by unfold LIM; omega
  unfold t_Maker_put t_Maker_make_plain t_Maker_put_sign t_Maker_tell_part mkO
  cases h with
  | sign c hc =>
    cases stale with
    | true =>
      by_cases hz : (0 : Int) = most
      · subst hz; simp [kSign, kEnd, kAnew, mkS, goS, kMore, dot, appT, LIM]
      · simp [kSign, kEnd, kAnew, mkS, goS, kMore, dot, appT, LIM, hz]
    | false =>
      by_cases hz : (row.length : Int) = most
      · simp [kSign, kEnd, kAnew, mkS, goS, kMore, dot, appT, LIM, hz]
      · simp [kSign, kEnd, kAnew, mkS, goS, kMore, dot, hz, appT_ok (hL row hl)]
  | ink c hc => cases stale <;> simp [kSign, kEnd, kAnew, kInk, mkS, goS, dot]
  | ground c hc => cases stale <;> simp [kSign, kEnd, kAnew, kInk, kGround, mkS, goS, dot]
  | plain => cases stale <;> simp [kSign, kEnd, kAnew, kInk, kGround, kPlain, mkS, goS, dot]
  | fin => simp [kEnd, kAnew, mkS, goS, dot, kWhole, kMore]
  | anew => simp [kEnd, kAnew, mkS, goS, dot]
end OW
namespace OW
open PySem L2 LI
end OW
namespace OW
open PySem L2 LI
abbrev Lt3 := Ts × Ts × Ts
abbrev Kv := Ts × Ts
def pln : Ts := ['.']
def kvI (i : Im) : Kv := (i.2.1, i.2.2)
def kvs (s : Ts) : List Kv := (its 0 s).map kvI
def rv : Ts → Ts
  | [] => []
  | c :: s => if c = '\n' ∨ c = '\t' then [c] else (stp (c :: s)).1.2
end OW
namespace OW
open PySem L2 LI
namespace TR
abbrev Mv (ν : Type) := Int × Ts × ν
abbrev Pr (ν : Type) := List (ν × Option Int)
def Le (a b : Option Int) : Prop := ∀ y, b = some y → ∃ x, a = some x ∧ x ≤ y
theorem Le.refl (a : Option Int) : Le a a := fun y h => ⟨y, h, Int.le_refl _⟩
theorem Le.trans {a b c : Option Int} (h : Le a b) (k : Le b c) : Le a c := fun z hz => by
  obtain ⟨y, hy, h1⟩ := k z hz
  obtain ⟨x, hx, h2⟩ := h y hy
  exact ⟨x, hx, Int.le_trans h2 h1⟩
theorem Le.anti {a b : Option Int} (h : Le a b) (k : Le b a) : a = b := by
  cases b with
  | none =>
    cases a with
    | none => rfl
    | some x => obtain ⟨y, hy, _⟩ := k x rfl; cases hy
  | some y =>
    obtain ⟨x, hx, h1⟩ := h y rfl
    subst hx
    obtain ⟨y', hy, h2⟩ := k x rfl
    cases hy
    rw [Int.le_antisymm h1 h2]
section
variable {ν : Type}
variable [DecidableEq ν]
def up (p : ν → Option Int) (n : ν) (v : Option Int) : ν → Option Int := fun m => if m = n then v else p m
variable (mv : ν → List (Mv ν))
variable (en : ν → Bool)
def Att (p : ν → Option Int) (n : ν) : Prop := ∀ d, p n = some d → (en n = true ∧ d = 0) ∨ ∃ m ∈ mv n, ∃ r, p m.2.2 = some r ∧ m.1 + r ≤ d
def NN (p : ν → Option Int) : Prop := ∀ n d, p n = some d → 0 ≤ d
end
end TR
end OW
namespace OW
open PySem L2 LI
namespace TR
section
variable {ν : Type} [DecidableEq ν]
def val (m : Pr ν) (n : ν) : Option Int := (getT m n).getD none
end
end TR
end OW
namespace OW
open PySem L2 LI
namespace TR
structure Tr (ν : Type) where
  last : Nat
  nds : Nat → List ν
  mvs : ν → List (Mv ν)
  en : ν → Bool
  at_ : ν → Nat
section
variable {ν : Type} [DecidableEq ν]
def In (T : Tr ν) (n : ν) : Prop := T.at_ n ≤ T.last ∧ n ∈ T.nds (T.at_ n)
structure Priced (T : Tr ν) (m : Pr ν) : Prop where
  keys : ∀ n, n ∈ m.map (·.1) ↔ In T n
  nn : NN (val m)
  att : ∀ n, Att T.mvs T.en (val m) n
  fair : ∀ n, In T n → ∀ x ∈ T.mvs n, ∀ r, val m x.2.2 = some r → Le (val m n) (some (x.1 + r))
  ends : ∀ n, In T n → T.en n = true → val m n = some 0
def tot (T : Tr ν) : Nat → Nat
  | 0 => 0
  | k + 1 => tot T k + (T.nds (T.last - k)).length
theorem exact {T : Tr ν} {m : Pr ν} (h : Priced T m) {n : ν} (hn : In T n) {d : Int} (hd : val m n = some d) (he : T.en n = false) : ∃ x ∈ T.mvs n, ∃ r, val m x.2.2 = some r ∧ d = x.1 + r := by
  rcases h.att n d hd with ⟨a, _⟩ | ⟨x, h1, r, h2, h3⟩
  · rw [he] at a; cases a
  · obtain ⟨d', h4, h5⟩ := h.fair n hn x h1 r h2 _ rfl
    rw [hd] at h4; cases h4
    exact ⟨x, h1, r, h2, by omega⟩
end
end TR
end OW
namespace OW
open PySem L2 LI TR
abbrev NdS := Int × (Ts × Ts)
def okK (l : Lt3) : Prop := ∃ c a b, isSg c = true ∧ isCol a = true ∧ isCol b = true ∧ l = ([c], [a], [b]) ∧ (c = ' ' → a = '.')
def okLk (L : List Lt3) : Prop := ∀ l ∈ L, okK l
def colsI (L : List Lt3) : List Ts := (nub (L.map (fun l => l.2.1) ++ [pln])).mergeSort leTs
def colsG (L : List Lt3) : List Ts := (nub (L.map (fun l => l.2.2) ++ [pln])).mergeSort leTs
def shO (L : List Lt3) : OShade := { told_look := L, inks := colsI L, grounds := colsG L }
theorem mem_sd {l : List Ts} {x : Ts} : x ∈ (nub l).mergeSort leTs ↔ x ∈ l := by rw [List.mem_mergeSort, nub_mem]
theorem nd_sd (l : List Ts) : ((nub l).mergeSort leTs).Nodup := (List.mergeSort_perm _ _).nodup_iff.mpr (nub_nd l)
theorem memI {L : List Lt3} {x : Ts} : x ∈ colsI L ↔ (∃ l ∈ L, l.2.1 = x) ∨ x = pln := by
  unfold colsI; rw [mem_sd, List.mem_append, List.mem_map, List.mem_singleton]
theorem memG {L : List Lt3} {x : Ts} : x ∈ colsG L ↔ (∃ l ∈ L, l.2.2 = x) ∨ x = pln := by
  unfold colsG; rw [mem_sd, List.mem_append, List.mem_map, List.mem_singleton]
theorem colI {L : List Lt3} (h : okLk L) {x : Ts} (hx : x ∈ colsI L) : ∃ c, isCol c = true ∧ x = [c] := by
  rcases memI.mp hx with ⟨l, h1, h2⟩ | h2
  · obtain ⟨c, a, b, _, ha, _, e, _⟩ := h l h1
    exact ⟨a, ha, by rw [← h2, e]⟩
  · exact ⟨'.', by decide, h2⟩
theorem colG {L : List Lt3} (h : okLk L) {x : Ts} (hx : x ∈ colsG L) : ∃ c, isCol c = true ∧ x = [c] := by
  rcases memG.mp hx with ⟨l, h1, h2⟩ | h2
  · obtain ⟨c, a, b, _, _, hb, e, _⟩ := h l h1
    exact ⟨b, hb, by rw [← h2, e]⟩
  · exact ⟨'.', by decide, h2⟩
theorem few_cols {l : List Ts} (nd : l.Nodup) (h : ∀ x ∈ l, ∃ c, isCol c = true ∧ x = [c]) : l.length ≤ 9 := by
  have := List.Nodup.length_le_of_subset nd (l₂ := cols.map fun c => [c]) (fun x hx => by
    obtain ⟨c, h1, h2⟩ := h x hx
    rw [h2]
    exact List.mem_map.mpr ⟨c, of_decide_eq_true h1, rfl⟩)
  rw [List.length_map] at this
  exact this
theorem lenI {L : List Lt3} (h : okLk L) : (colsI L).length ≤ 9 := few_cols (nd_sd _) fun _ hx => colI h hx
theorem lenG {L : List Lt3} (h : okLk L) : (colsG L).length ≤ 9 := few_cols (nd_sd _) fun _ hx => colG h hx
def wr1 (s : Ts) : Ts := if s = ['['] then ['[', '['] else s
def shw (l : Lt3) (st : Ts × Ts) : Bool := decide (l.2.2 = st.2) && (decide (l.1 = [' ']) || decide (l.2.1 = st.1))
def ndsS (L : List Lt3) (a : Nat) : List NdS := (colsI L).flatMap fun i => (colsG L).map fun g => ((a : Int), (i, g))
def mvsS (L : List Lt3) (n : NdS) : List (Mv NdS) :=
  ([(2, ['[', ']'], (n.1, (pln, pln)))] : List (Mv NdS)) ++ ((colsI L).map fun i => (((3 : Int), ['['] ++ i ++ [']'], (n.1, (i, n.2.2))) : Mv NdS)) ++ ((colsG L).map fun g => (((4 : Int), ['[', '/'] ++ g ++ [']'], (n.1, (n.2.1, g))) : Mv NdS)) ++
    (match L[n.1.toNat]? with | some l => if shw l n.2 = true then ([(0, wr1 l.1, (n.1 + 1, n.2))] : List (Mv NdS)) else [] | none => [])
def T (L : List Lt3) : Tr NdS := { last := L.length, nds := ndsS L, mvs := mvsS L, en := fun n => decide (n = ((L.length : Int), (pln, pln))), at_ := fun n => n.1.toNat }
theorem flat_fold {g : List NdS → Ts → Option (List NdS)} {f : Ts → List NdS} : ∀ (xs : List Ts) (acc : List NdS), (∀ acc x, x ∈ xs → acc.length ≤ 1000 → g acc x = some (acc ++ f x)) → (∀ x ∈ xs, (f x).length ≤ 9) → acc.length + 9 * xs.length ≤ 1000 → foldT g xs acc = some (acc ++ xs.flatMap f)
  | [], acc, _, _, _ => by simp [foldT]
  | x :: xs, acc, h, h2, hl => by
    rw [List.length_cons] at hl
    show (g acc x).bind (fun s => foldT g xs s) = _
    have := h2 x List.mem_cons_self
    rw [h acc x List.mem_cons_self (by omega), Option.bind_some, flat_fold xs _ (fun a y hy => h a y (List.mem_cons_of_mem _ hy)) (fun y hy => h2 y (List.mem_cons_of_mem _ hy)) (by rw [List.length_append]; omega)]
    rw [List.flatMap_cons, List.append_assoc]
theorem nodes_eq {L : List Lt3} (h : okLk L) (a : Nat) : t_Shade_nodes_at (shO L) (a : Int) = some (ndsS L a) := by
  have hI := lenI h
  have hG := lenG h
  unfold t_Shade_nodes_at
  dsimp only
  rw [flat_fold (f := fun i => (colsG L).map fun g => ((a : Int), (i, g))) (shO L).inks [] (by
    intro acc x hx ha
    rw [compT_map (f := fun g : Ts => ((a : Int), (x, g))) (xs := (shO L).grounds) (by show (colsG L).length ≤ _; unfold LIM; omega) (fun _ _ => rfl), Option.bind_some, catL_ok (by rw [List.length_map]; show _ + (colsG L).length ≤ _; unfold LIM; omega)]
    rfl) (fun x _ => by rw [List.length_map]; exact hG) (by show 0 + 9 * (colsI L).length ≤ _; omega)]
  rfl
end OW
namespace OW
open PySem L2 LI TR
end OW
namespace OW
open PySem L2 LI
end OW
namespace OW
open PySem L2 LI
section
variable {κ α : Type} [DecidableEq κ]
theorem getT_upd {k : κ} {y : α} : ∀ {m : List (κ × α)} {x : α}, getT m k = some x → getT (updT m k y) k = some y
  | [], x, h => by cases h
  | p :: m, x, h => by
    unfold getT at h
    unfold updT
    by_cases e : p.1 = k
    · rw [if_pos e]; unfold getT; rw [if_pos e]
    · rw [if_neg e] at h ⊢; unfold getT; rw [if_neg e]; exact getT_upd h
theorem getT_upd_ne {k k2 : κ} {y : α} (hn : k2 ≠ k) : ∀ (m : List (κ × α)), getT (updT m k y) k2 = getT m k2
  | [] => rfl
  | p :: m => by
    unfold updT
    by_cases e : p.1 = k
    · rw [if_pos e]; unfold getT; rw [if_neg (by rw [e]; exact fun q => hn q.symm), if_neg (by rw [e]; exact fun q => hn q.symm)]
    · rw [if_neg e]; unfold getT
      by_cases e2 : p.1 = k2
      · rw [if_pos e2, if_pos e2]
      · rw [if_neg e2, if_neg e2]; exact getT_upd_ne hn m
theorem updT_len {k : κ} {y : α} : ∀ (m : List (κ × α)), (updT m k y).length = m.length
  | [] => rfl
  | p :: m => by
    unfold updT
    by_cases e : p.1 = k
    · rw [if_pos e]; rfl
    · rw [if_neg e, List.length_cons, updT_len m, List.length_cons]
theorem getT_put {k : κ} {v : α} : ∀ {m : List (κ × α)}, getT (putT m k v) k = some v := by
  intro m
  unfold putT
  split
  · rename_i h
    induction m with
    | nil => cases h
    | cons p m ih =>
      rw [List.map_cons]
      by_cases e : p.1 = k
      · rw [if_pos e]; unfold getT; rw [if_pos e]
      · rw [if_neg e]; unfold getT; rw [if_neg e]
        rw [List.any_cons, decide_eq_false e, Bool.false_or] at h
        exact ih h
  · rename_i h
    induction m with
    | nil => simp [getT]
    | cons p m ih =>
      rw [List.any_cons, Bool.or_eq_true, not_or] at h
      rw [List.cons_append]
      unfold getT
      rw [if_neg (by simpa using h.1)]
      exact ih h.2
theorem getT_put_ne {k k2 : κ} {v : α} (hn : k2 ≠ k) : ∀ {m : List (κ × α)}, getT (putT m k v) k2 = getT m k2 := by
  intro m
  unfold putT
  split
  · rename_i h
    clear h
    induction m with
    | nil => rfl
    | cons p m ih =>
      rw [List.map_cons]
      by_cases e : p.1 = k
      · rw [if_pos e]; unfold getT; rw [if_neg (by rw [e]; exact fun q => hn q.symm), if_neg (by rw [e]; exact fun q => hn q.symm)]; exact ih
      · rw [if_neg e]; unfold getT; rw [ih]
  · rename_i h
    clear h
    induction m with
    | nil => simp [getT, hn.symm]
    | cons p m ih =>
      rw [List.cons_append]
      unfold getT
      rw [ih]
end
end OW
namespace OW
open PySem L2 LI
end OW
namespace OW
open PySem L2 LI
end OW
namespace OW
open PySem L2 LI
end OW
namespace OW
open PySem L2 LI
end OW
namespace OW
open PySem L2 LI
@[reducible] def grt : Ts := ['A', 'B', 'C', 'D', 'E', 'F', 'G', 'H', 'I', 'J', 'K', 'L', 'M', 'N', 'O', 'P', 'Q', 'R', 'S', 'T', 'U', 'V', 'W', 'X', 'Y', 'Z']
def wdC (s : Ts) : Int := match s with | [c] => if c ∈ grt then 2 else 1 | _ => 1
def okL (l : Lt) : Prop := ∃ c, l.1 = [c]
def tk : Int → List Lt → Nat
  | _, [] => 0
  | w, l :: ls => if wdC l.1 ≤ w then tk (w - wdC l.1) ls + 1 else 0
end OW
namespace OW
open PySem L2 LI
def sgnL (ls : List Lt) (i : Nat) : Ts := (ls[i]?.map fun l => l.1).getD []
def brkI (ls : List Lt) (x : Int) : Bool := decide (sgnL ls (x - 1).toNat = [' ']) && !decide (sgnL ls x.toNat = [' '])
def breaksL (ls : List Lt) : List Int := (((List.range (ls.length - 1)).map fun (j : Nat) => 1 + (j : Int)).filter (brkI ls)) ++ (if 0 < ls.length then [(ls.length : Int)] else [])
def bareN (ls : List Lt) (lo : Nat) : Nat → Nat
  | 0 => 0
  | h + 1 => if lo < h + 1 ∧ sgnL ls h = [' '] then bareN ls lo h else h + 1
def sumW (ls : List Lt) : Int := (ls.map fun l => wdC l.1).sum
def cel (ls : List Lt) (lo hi : Nat) : Int := sumW ((ls.take (bareN ls lo hi)).drop lo)
def rch (ls : List Lt) (lo : Nat) (w : Int) : List Int → List Int
  | [] => []
  | s :: ss => if (lo : Int) < s then (if cel ls lo s.toNat ≤ w then s :: rch ls lo w ss else []) else rch ls lo w ss
def lines1 (ls : List Lt) (lo : Nat) (w : Int) : List Int := if rch ls lo w (breaksL ls) = [] then [((lo + tk w (ls.drop lo) : Nat) : Int)] else rch ls lo w (breaksL ls)
end OW
namespace OW
open PySem L2 LI
section
variable {κ α : Type} [DecidableEq κ]
theorem getT_new {k : κ} {v : α} : ∀ {m : List (κ × α)}, (∀ p ∈ m, p.1 ≠ k) → getT (m ++ [(k, v)]) k = some v
  | [], _ => by simp [getT]
  | p :: m, h => by
    rw [List.cons_append, getT, if_neg (h p (by simp))]
    exact getT_new fun q hq => h q (by simp [hq])
theorem getT_old {k k' : κ} {v : α} (hn : k' ≠ k) : ∀ {m : List (κ × α)}, getT (m ++ [(k', v)]) k = getT m k
  | [] => by simp [getT, hn]
  | p :: m => by
    rw [List.cons_append, getT, getT]
    by_cases h : p.1 = k
    · rw [if_pos h, if_pos h]
    · rw [if_neg h, if_neg h]; exact getT_old hn
end
def costN (ls : List Lt) (w : Int) (lo hi : Nat) : Int := if hi = ls.length then 0 else (w - cel ls lo hi) * (w - cel ls lo hi)
def minL : List Int → Int
  | [] => 0
  | x :: xs => xs.foldl min x
def prF (ls : List Lt) (w : Int) : Nat → Nat → Int
  | 0, _ => 0
  | k + 1, a => if a < ls.length then minL ((lines1 ls a w).map fun s => costN ls w a s.toNat + prF ls w k s.toNat) else 0
def pr (ls : List Lt) (w : Int) (a : Nat) : Int := prF ls w ls.length a
def mv (ls : List Lt) (w : Int) (a : Nat) : List (Int × Ts × (Int × Int)) := (lines1 ls a w).map fun s => (costN ls w a s.toNat, (toString s).toList, (s, 0))
def pl (ls : List Lt) (w : Int) (b : Nat) : List ((Int × Int) × Option Int) := (List.range b).map fun (j : Nat) => (((((ls.length - j : Nat) : Int), (0 : Int))), some (pr ls w (ls.length - j)))
end OW
namespace OW
open PySem L2 LI
end OW
namespace OW
open PySem L2 LI
end OW
namespace OW
open PySem L2 LI
abbrev Cl := Ts × Ts × Ts
abbrev Wt := Int × Int × List Cl
def layR (row : List Cl) (c : Nat) (cs : List Cl) : List Cl := row.take c ++ cs ++ row.drop (c + cs.length)
def lay (p : List (List Cl)) (x : Wt) : List (List Cl) := p.set x.1.toNat (layR (p.getD x.1.toNat []) x.2.1.toNat x.2.2)
end OW
namespace OW
open PySem L2 LI
abbrev Rm := Ts × Int × Int × Int × Int × Ts
def lineAt (lines : List (List Lt)) (k : Int) : List Lt := lines.getD k.toNat []
structure RmOk (h w : Nat) (rm : Rm) : Prop where
  top : 0 ≤ rm.2.1
  tall : 1 ≤ rm.2.2.2.1
  low : rm.2.1 + rm.2.2.2.1 ≤ h
  left : 0 ≤ rm.2.2.1
  broad : 2 ≤ rm.2.2.2.2.1
  right : rm.2.2.1 + rm.2.2.2.2.1 ≤ w
structure LnOk (rm : Rm) (lines : List (List Lt)) : Prop where
  ok : ∀ ls ∈ lines, ∀ l ∈ ls, okL l
  wide : ∀ ls ∈ lines, sumW ls ≤ rm.2.2.2.2.1
theorem LnOk.at {rm : Rm} {lines : List (List Lt)} {h w : Nat} (R : RmOk h w rm) (L : LnOk rm lines) (k : Int) : (∀ l ∈ lineAt lines k, okL l) ∧ sumW (lineAt lines k) ≤ rm.2.2.2.2.1.toNat := by
  have hb := R.broad
  unfold lineAt
  rw [List.getD_eq_getElem?_getD]
  cases e : lines[k.toNat]? with
  | none => exact ⟨fun l hl => by simp at hl, by show (0 : Int) ≤ _; omega⟩
  | some ls =>
    have hm := List.mem_of_getElem? e
    have := L.wide ls hm
    exact ⟨L.ok ls hm, by show sumW ls ≤ _; omega⟩
end OW
namespace OW
open PySem L2 LI
abbrev Sp := List (Int × Int)
def kPass : Ts := ['p', 'a', 's', 's']
def kBegin : Ts := ['b', 'e', 'g', 'i', 'n']
def kOn : Ts := ['o', 'n']
def likeS (one other : List Cl) (x : Int × Int) : Bool := decide (cutL one (some x.1) (some (x.1 + x.2)) = cutL other (some x.1) (some (x.1 + x.2)))
def chM (one other : List Cl) (n : Int × Int) (x : Int × Int) : List (TR.Mv (Int × Int)) := (if likeS one other x = true then [((0 : Int), kPass, (n.1 + 1, (0 : Int)))] else []) ++ [if n.2 = 0 then ((4 : Int) + x.2, kBegin, (n.1 + 1, (1 : Int))) else (x.2, kOn, (n.1 + 1, (1 : Int)))]
section
variable {one other : List Cl} {sp : Sp} {w : Int}
end
end OW
namespace OW
open PySem L2 LI
section
variable {one other : List Cl} {r c b st : Int} {W : List Wt} {w : Nat}
end
section
variable {one other : List Cl} {r c b st : Int} {W : List Wt} {w : Nat}
end
end OW
namespace OW
open PySem L2 LI
end OW
namespace OW
open PySem L2 LI
theorem srch_none {α : Type} {c : α → Option Bool} : ∀ {xs : List α}, (∀ x ∈ xs, c x = some false) → srchT c xs = some none
  | [], _ => rfl
  | x :: xs, h => by
    rw [srchT, h x List.mem_cons_self, Option.bind_some, if_neg (by decide)]
    exact srch_none fun y hy => h y (List.mem_cons_of_mem _ hy)
end OW
namespace LW
open PySem L2 LI OW
structure OListed where
  sizes : (List Int)
  steps : (List ((Int × Int) × (List (Int × Ts × (Int × Int)))))
  shut : (List (Int × Int))
def t_Listed_init (sizes : (List Int)) (moves : (List ((Int × Int) × Int × Ts × (Int × Int)))) (ends : (List (Int × Int))) : Option OListed :=
  let u1_ : (List Int) := sizes
  let u2_ : (List ((Int × Int) × (List (Int × Ts × (Int × Int))))) := ([] : (List ((Int × Int) × (List (Int × Ts × (Int × Int))))))
  (foldT (fun (s3_ : ((List Int) × (List ((Int × Int) × (List (Int × Ts × (Int × Int))))))) (x4_ : ((Int × Int) × Int × Ts × (Int × Int))) =>
  ((sdaT s3_.2 x4_.1 (x4_.2.1, x4_.2.2.1, x4_.2.2.2))).bind fun (u5_ : (List ((Int × Int) × (List (Int × Ts × (Int × Int)))))) =>
  some (s3_.1, u5_)) moves (u1_, u2_)).bind fun (s3_ : ((List Int) × (List ((Int × Int) × (List (Int × Ts × (Int × Int))))))) =>
  let u6_ : (List (Int × Int)) := ends
  some ({ sizes := s3_.1, steps := s3_.2, shut := u6_ : OListed })
def t_Listed_first_node (self : OListed) : Option (Int × Int) :=
  some ((0 : Int), (0 : Int))
def t_Listed_last_at (self : OListed) : Option Int :=
  some ((List.length self.sizes : Int) - (1 : Int))
def t_Listed_nodes_at (self : OListed) (at_ : Int) : Option (List (Int × Int)) :=
  (((atI self.sizes at_).bind fun v1_ => (rngT v1_)).bind fun v2_ => (compT (fun (state : Int) => (some true)) (fun (state : Int) => (some (at_, state))) v2_))
def t_Listed_moves_from (self : OListed) (node : (Int × Int)) : Option (List (Int × Ts × (Int × Int))) :=
  some (Option.getD (getT self.steps node) ([] : (List (Int × Ts × (Int × Int)))))
def t_Listed_is_end (self : OListed) (node : (Int × Int)) : Option Bool :=
  some (memT node self.shut)
def t_walked (trail : OListed) (names : (List Ts)) : Option (Option Int) :=
  let total : Int := (0 : Int)
  ((t_Listed_first_node trail)).bind fun (node : (Int × Int)) =>
  (forT (τ := (Option Int)) (fun (s1_ : (Int × (Int × Int))) (name : Ts) =>
  ((((t_Listed_moves_from trail s1_.2).bind fun v2_ => some v2_).bind fun v3_ => (compT (fun (move : (Int × Ts × (Int × Int))) => (some (decide (move.2.1 = name)))) (fun (move : (Int × Ts × (Int × Int))) => (some move)) v3_))).bind fun (found : (List (Int × Ts × (Int × Int)))) =>
  if (decide (found = ([] : (List (Int × Ts × (Int × Int)))))) = true then
  some (.rt ((fun _ => none) ()) : (St (Int × (Int × Int)) (Option Int)))
  else
  ((((atI found (0 : Int)).bind fun v4_ => some v4_.1).bind fun v5_ => some (s1_.1 + v5_))).bind fun (total : Int) =>
  (((atI found (0 : Int)).bind fun v6_ => some v6_.2.2)).bind fun (node : (Int × Int)) =>
  some (.nx (total, node) : (St (Int × (Int × Int)) (Option Int)))) names (total, node)).bind fun u => seqT u fun (s1_ : (Int × (Int × Int))) => (((t_Listed_is_end trail s1_.2).bind fun v7_ => some (!v7_)).bind fun v8_ => if v8_ = true then
  some ((fun _ => none) ())
  else
  some (some s1_.1))
def t_lw_whole_c (thing : (Option Int)) : Option Bool :=
  some ((Option.isSome thing && true) && (!(Option.isSome thing && false)))
def t_lw_sizes (cell : Int) : Option (List Int) :=
  (((((t_lw_mix_b cell (8 : Int)).bind fun v1_ => some (v1_ % 5)).bind fun v2_ => some ((1 : Int) + v2_)).bind fun v3_ => (rngT v3_)).bind fun v4_ => (compT (fun (k : Int) => (some true)) (fun (k : Int) => (((t_lw_mix_b cell k).bind fun v5_ => some (v5_ % 3)).bind fun v6_ => some ((1 : Int) + v6_))) v4_))
def t_lw_nodes (sizes_here : (List Int)) : Option (List (Int × Int)) :=
  let nodes_here : (List (Int × Int)) := ([] : (List (Int × Int)))
  ((rngT (List.length sizes_here : Int)).bind fun v1_ => (foldT (fun (s2_ : (List (Int × Int))) (at_ : Int) =>
  (((atI sizes_here at_).bind fun v3_ => (rngT v3_)).bind fun v4_ => (foldT (fun (s5_ : (List (Int × Int))) (state : Int) =>
  ((appT s5_ (at_, state))).bind fun (u6_ : (List (Int × Int))) =>
  some u6_) v4_ s2_).bind fun (s5_ : (List (Int × Int))) =>
  some s5_)) v1_ nodes_here).bind fun (s2_ : (List (Int × Int))) =>
  some s2_)
def t_lw_moves (script : (List Int)) (nodes_here : (List (Int × Int))) : Option (List ((Int × Int) × Int × Ts × (Int × Int))) :=
  let moves_here : (List ((Int × Int) × Int × Ts × (Int × Int))) := ([] : (List ((Int × Int) × Int × Ts × (Int × Int))))
  let many : (List ((Int × Int) × Int)) := ([] : (List ((Int × Int) × Int)))
  (foldT (fun (s1_ : ((List ((Int × Int) × Int × Ts × (Int × Int))) × (List ((Int × Int) × Int)))) (cell : Int) =>
  ((((t_lw_mix_b cell (1 : Int)).bind fun v2_ => (modT v2_ (List.length nodes_here : Int))).bind fun v3_ => (atI nodes_here v3_))).bind fun (one : (Int × Int)) =>
  ((compT (fun (node : (Int × Int)) => (some (decide (one.1 ≤ node.1)))) (fun (node : (Int × Int)) => (some node)) nodes_here)).bind fun (beyond : (List (Int × Int))) =>
  ((((t_lw_mix_b cell (6 : Int)).bind fun v4_ => (modT v4_ (List.length beyond : Int))).bind fun v5_ => (atI beyond v5_))).bind fun (other : (Int × Int)) =>
  (((t_lw_mix_b cell (9 : Int)).bind fun v6_ => (((t_lw_mix_b cell (7 : Int)).bind fun v7_ => some (v7_ % 3)).bind fun v8_ => (atI ([(3 : Int), (40 : Int), (1000000000 : Int)] : (List Int)) v8_)).bind fun v9_ => (modT v6_ v9_))).bind fun (cost : Int) =>
  ((if ((decide (other.1 = one.1)) && (decide (cost = (0 : Int)))) = true then
  let cost_2 : Int := (1 : Int)
  some cost_2
  else
  some cost : Option Int)).bind fun (s10_ : Int) =>
  (((((t_lw_mix_b cell (10 : Int)).bind fun v11_ => some (v11_ % 4)).bind fun v12_ => (atI ([(1 : Int), (1 : Int), (1 : Int), (10000000000000000000000000000000000000000 : Int)] : (List Int)) v12_)).bind fun v13_ => (mulT s10_ v13_))).bind fun (cost : Int) =>
  (((((ixS (['a', 'b'] : Ts) (cell % 2)).bind fun v14_ => (repS v14_ (Option.getD (getT s1_.2 one) (0 : Int)))).bind fun v15_ => some (one, cost, v15_, other)).bind fun v16_ => (appT s1_.1 v16_))).bind fun (u17_ : (List ((Int × Int) × Int × Ts × (Int × Int)))) =>
  (some ((Option.getD (getT s1_.2 one) (0 : Int)) + (1 : Int))).bind fun u18_ => ((some one)).bind fun i19_ => (putC s1_.2 i19_ u18_).bind fun y20_ =>
  some (u17_, y20_)) (cutL script (some (3 : Int)) (some (43 : Int))) (moves_here, many)).bind fun (s1_ : ((List ((Int × Int) × Int × Ts × (Int × Int))) × (List ((Int × Int) × Int)))) =>
  some s1_.1
def t_lw_ends (cell : Int) (nodes_here : (List (Int × Int))) : Option (List (Int × Int)) :=
  let ends_here : (List (Int × Int)) := ([] : (List (Int × Int)))
  ((rngT (List.length nodes_here : Int)).bind fun v1_ => (foldT (fun (s2_ : (List (Int × Int))) (k : Int) =>
  ((((t_lw_mix_b cell ((11 : Int) + k)).bind fun v3_ => some (v3_ % 3)).bind fun v4_ => some (decide (v4_ = (0 : Int)))).bind fun v5_ => ((if v5_ = true then
  (((atI nodes_here k).bind fun v6_ => (appT s2_ v6_))).bind fun (u7_ : (List (Int × Int))) =>
  some u7_
  else
  some s2_ : Option (List (Int × Int)))).bind fun (s8_ : (List (Int × Int))) =>
  some s8_)) v1_ ends_here).bind fun (s2_ : (List (Int × Int))) =>
  ((if decide ((0 : Int) < (cell % 4)) = true then ((atI nodes_here (-1 : Int)).bind fun v9_ => some (!memT v9_ s2_)) else some false).bind fun v10_ => ((if v10_ = true then
  (((atI nodes_here (-1 : Int)).bind fun v11_ => (appT s2_ v11_))).bind fun (u12_ : (List (Int × Int))) =>
  some u12_
  else
  some s2_ : Option (List (Int × Int)))).bind fun (s13_ : (List (Int × Int))) =>
  some s13_))
def t_lw_walked (moves_here : (List ((Int × Int) × Int × Ts × (Int × Int)))) (ends_here : (List (Int × Int))) (names : (List Ts)) : Option (Option Int) :=
  let node : (Int × Int) := ((0 : Int), (0 : Int))
  let total : Int := (0 : Int)
  (forT (τ := (Option Int)) (fun (s1_ : ((Int × Int) × Int)) (name : Ts) =>
  ((compT (fun (move : ((Int × Int) × Int × Ts × (Int × Int))) => (some ((decide (move.1 = s1_.1)) && (decide (move.2.2.1 = name))))) (fun (move : ((Int × Int) × Int × Ts × (Int × Int))) => (some move)) moves_here)).bind fun (here : (List ((Int × Int) × Int × Ts × (Int × Int)))) =>
  if (decide (here = ([] : (List ((Int × Int) × Int × Ts × (Int × Int)))))) = true then
  some (.rt ((fun _ => none) ()) : (St ((Int × Int) × Int) (Option Int)))
  else
  ((((atI here (0 : Int)).bind fun v2_ => some v2_.2.1).bind fun v3_ => some (s1_.2 + v3_))).bind fun (total : Int) =>
  (((atI here (0 : Int)).bind fun v4_ => some v4_.2.2.2)).bind fun (node : (Int × Int)) =>
  some (.nx (node, total) : (St ((Int × Int) × Int) (Option Int)))) names (node, total)).bind fun u => seqT u fun (s1_ : ((Int × Int) × Int)) => if (!memT s1_.1 ends_here) = true then
  some ((fun _ => none) ())
  else
  some (some s1_.2)
def t_lw_row_b (script : (List Int)) (moves_here : (List ((Int × Int) × Int × Ts × (Int × Int)))) : Option (List Ts) :=
  let node : (Int × Int) := ((0 : Int), (0 : Int))
  let names : (List Ts) := ([] : (List Ts))
  (foldT (fun (s1_ : ((Int × Int) × (List Ts))) (cell : Int) =>
  ((compT (fun (move : ((Int × Int) × Int × Ts × (Int × Int))) => (some (decide (move.1 = s1_.1)))) (fun (move : ((Int × Int) × Int × Ts × (Int × Int))) => (some move)) moves_here)).bind fun (here : (List ((Int × Int) × Int × Ts × (Int × Int)))) =>
  ((if (!decide (here = ([] : (List ((Int × Int) × Int × Ts × (Int × Int)))))) = true then
  ((((t_lw_mix_b cell (1 : Int)).bind fun v2_ => (modT v2_ (List.length here : Int))).bind fun v3_ => (atI here v3_))).bind fun (move : ((Int × Int) × Int × Ts × (Int × Int))) =>
  ((appT s1_.2 move.2.2.1)).bind fun (u4_ : (List Ts)) =>
  let node : (Int × Int) := move.2.2.2
  some (node, u4_)
  else
  some (s1_.1, s1_.2) : Option ((Int × Int) × (List Ts)))).bind fun (s5_ : ((Int × Int) × (List Ts))) =>
  some (s5_.1, s5_.2)) (cutL script (some (43 : Int)) (some (61 : Int))) (node, names)).bind fun (s1_ : ((Int × Int) × (List Ts))) =>
  some s1_.2
def t_lw_spoilt (names : (List Ts)) (cell : Int) (k : Int) : Option (List Ts) :=
  (((t_lw_mix_b cell k).bind fun v1_ => (modT v1_ ((List.length names : Int) + (1 : Int))))).bind fun (at_ : Int) =>
  (((t_lw_mix_b cell (k + (1 : Int))).bind fun v2_ => some (v2_ % 4))).bind fun (way : Int) =>
  (((((t_lw_mix_b cell (k + (2 : Int))).bind fun v3_ => some (v3_ % 2)).bind fun v4_ => (ixS (['a', 'b'] : Ts) v4_)).bind fun v5_ => (((t_lw_mix_b cell (k + (3 : Int))).bind fun v6_ => some (v6_ % 3)).bind fun v7_ => some ((1 : Int) + v7_)).bind fun v8_ => (repS v5_ v8_))).bind fun (word : Ts) =>
  if (decide (way = (0 : Int))) = true then
  (catL (cutL names none (some at_)) (cutL names (some (at_ + (1 : Int))) none))
  else
  if (decide (way = (1 : Int))) = true then
  ((catL (cutL names none (some at_)) ([word] : (List Ts))).bind fun v9_ => (catL v9_ (cutL names (some at_) none)))
  else
  if (decide (way = (2 : Int))) = true then
  ((catL (cutL names none (some at_)) ([word] : (List Ts))).bind fun v10_ => (catL v10_ (cutL names (some (at_ + (1 : Int))) none)))
  else
  ((catL (cutL names none (some at_)) ([(['n', 'o', 't', 'h', 'i', 'n', 'g'] : Ts)] : (List Ts))).bind fun v11_ => (catL v11_ (cutL names (some at_) none)))
def t_lw_told_d (trail : OListed) (moves_here : (List ((Int × Int) × Int × Ts × (Int × Int)))) (ends_here : (List (Int × Int))) (names : (List Ts)) : Option Bool :=
  let handed : (List Ts) := names
  ((t_walked trail handed)).bind fun (found : (Option Int)) =>
  ((t_lw_walked moves_here ends_here names)).bind fun (due : (Option Int)) =>
  if (!decide (handed = names)) = true then
  some false
  else
  if (Option.isNone due) = true then
  some (Option.isNone found)
  else
  ((t_lw_whole_c found).bind fun v1_ => (if v1_ = true then (some (decide (found = due))) else some false))
def t_lw_truth (found : Bool) (due : Bool) : Option Bool :=
  some (true && (decide (found = due)))
def t_lw_methods (trail : OListed) (sizes_here : (List Int)) (moves_here : (List ((Int × Int) × Int × Ts × (Int × Int)))) (ends_here : (List (Int × Int))) : Option Bool :=
  ((((t_Listed_first_node trail).bind fun v1_ => some (!decide (v1_ = ((0 : Int), (0 : Int))))).bind fun v2_ => (if v2_ = true then some true else ((t_Listed_last_at trail).bind fun v3_ => some (!decide (v3_ = ((List.length sizes_here : Int) - (1 : Int))))))).bind fun v4_ => if v4_ = true then
  some false
  else
  ((rngT (List.length sizes_here : Int)).bind fun v5_ => (forT (τ := Bool) (fun (s6_ : Unit) (at_ : Int) =>
  ((t_Listed_nodes_at trail at_)).bind fun (told_here : (List (Int × Int))) =>
  ((if (!true) = true then some true else ((((atI sizes_here at_).bind fun v7_ => (rngT v7_)).bind fun v8_ => (compT (fun (state : Int) => (some true)) (fun (state : Int) => (some (at_, state))) v8_)).bind fun v9_ => some (!decide (told_here = v9_)))).bind fun v10_ => if v10_ = true then
  some (.rt false : (St Unit Bool))
  else
  (forT (τ := (St Unit Bool)) (fun (s11_ : Unit) (node : (Int × Int)) =>
  ((t_Listed_moves_from trail node)).bind fun (here : (List (Int × Ts × (Int × Int)))) =>
  ((if (!true) = true then some true else ((compT (fun (move : ((Int × Int) × Int × Ts × (Int × Int))) => (some (decide (move.1 = node)))) (fun (move : ((Int × Int) × Int × Ts × (Int × Int))) => (some (move.2.1, move.2.2.1, move.2.2.2))) moves_here).bind fun v12_ => some (!decide (here = v12_)))).bind fun v13_ => if v13_ = true then
  some (.rt (.rt false : (St Unit Bool)) : (St Unit (St Unit Bool)))
  else
  ((((t_Listed_is_end trail node).bind fun v14_ => (t_lw_truth v14_ (memT node ends_here))).bind fun v15_ => some (!v15_)).bind fun v16_ => if v16_ = true then
  some (.rt (.rt false : (St Unit Bool)) : (St Unit (St Unit Bool)))
  else
  ((appT here ((0 : Int), (['z'] : Ts), node))).bind fun (u17_ : (List (Int × Ts × (Int × Int)))) =>
  some (.nx () : (St Unit (St Unit Bool)))))) told_here ()).bind fun u => seqT u fun (s11_ : Unit) => ((appT told_here (at_, (9 : Int)))).bind fun (u18_ : (List (Int × Int))) =>
  some (.nx () : (St Unit Bool)))) v5_ ()).bind fun u => seqT u fun (s6_ : Unit) => some true))
def t_law_b1 (names : (List Ts)) (s1_ : (List (List Ts))) (k : Int) : Option (List (List Ts)) :=
  ((appT s1_ (cutL names none (some k)))).bind fun (u2_ : (List (List Ts))) =>
  some u2_
def t_law_b2 (script : (List Int)) (names : (List Ts)) (s1_ : (List (List Ts))) (k : Int) : Option (List (List Ts)) :=
  ((((t_lw_cell script (2 : Int)).bind fun v2_ => (t_lw_spoilt names v2_ (4 * k))).bind fun v3_ => (appT s1_ v3_))).bind fun (u4_ : (List (List Ts))) =>
  some u4_
def t_law (script : (List Int)) : Option Bool :=
  (((t_lw_cell script (0 : Int)).bind fun v1_ => (t_lw_sizes v1_))).bind fun (sizes_here : (List Int)) =>
  ((t_lw_nodes sizes_here)).bind fun (nodes_here : (List (Int × Int))) =>
  ((t_lw_moves script nodes_here)).bind fun (moves_here : (List ((Int × Int) × Int × Ts × (Int × Int)))) =>
  (((t_lw_cell script (1 : Int)).bind fun v2_ => (t_lw_ends v2_ nodes_here))).bind fun (ends_here : (List (Int × Int))) =>
  ((t_Listed_init sizes_here moves_here ends_here)).bind fun (trail : OListed) =>
  (((t_lw_methods trail sizes_here moves_here ends_here).bind fun v3_ => some (!v3_)).bind fun v4_ => if v4_ = true then
  some false
  else
  ((t_lw_row_b script moves_here)).bind fun (names : (List Ts)) =>
  let rows : (List (List Ts)) := ([names, ([] : (List Ts))] : (List (List Ts)))
  ((rngT (List.length names : Int)).bind fun v5_ => (foldT (fun (s6_ : (List (List Ts))) (k : Int) =>
  (t_law_b1 names s6_ k)) v5_ rows).bind fun (s6_ : (List (List Ts))) =>
  ((rngT (4 : Int)).bind fun v7_ => (foldT (fun (s8_ : (List (List Ts))) (k : Int) =>
  (t_law_b2 script names s8_ k)) v7_ s6_).bind fun (s8_ : (List (List Ts))) =>
  (srchT (fun (row_here : (List Ts)) => ((t_lw_told_d trail moves_here ends_here row_here).bind fun v9_ => some (!v9_))) s8_).bind fun u => srchK u ((t_lw_methods trail sizes_here moves_here ends_here)) (fun (row_here : (List Ts)) =>
  some false))))
end LW
namespace LW
open PySem L2 PyProof.Rows LI
def m_Listed_init : SM := (seqM (fldM 1 "sizes" (vL 0) (upF (mA listD (consM (vM 1) nilM))))
  (seqM (fldM 1 "steps" (vL 0) (upF newN))
  (seqM (forM (tupT (consT (nameT 4) (consT (nameT 5) (consT (nameT 6) (consT (nameT 7) nilT))))) (seqM (exprM (sdaM (fldL 1 "steps" (vL 0)) (vM 4) (tupM (consM (vM 5) (consM (vM 6) (consM (vM 7) nilM))))))
  skipM) [4, 5, 6, 7] (itM (vM 2)))
  (seqM (fldM 1 "shut" (vL 0) (upF (mA listD (consM (vM 3) nilM))))
  skipM))))
def F_Listed_init : FM := runM 8 [true, true, true, true] m_Listed_init
def m_Listed_first_node : SM := (seqM (retM (upF (tupM (consM (kM (.int 0)) (consM (kM (.int 0)) nilM))))) skipM)
def F_Listed_first_node : FM := runM 1 [true] m_Listed_first_node
def m_Listed_last_at : SM := (seqM (retM (upF (m2 subD (mA lenD (consM (fldL 1 "sizes" (vL 0)).get nilM)) (kM (.int 1))))) skipM)
def F_Listed_last_at : FM := runM 1 [true] m_Listed_last_at
def m_Listed_nodes_at : SM := (seqM (retM (upF (compM [2] (nameT 2) yesB (tupM (consM (vM 1) (consM (vM 2) nilM))) (rng1M (m2 ixD (fldL 1 "sizes" (vL 0)).get (vM 1)))))) skipM)
def F_Listed_nodes_at : FM := runM 3 [true, true] m_Listed_nodes_at
def m_Listed_moves_from : SM := (seqM (retM (upF (viewsM [0] (mA listD (consM (getN2M (fldL 1 "steps" (vL 0)).get (vM 1) (coldM (lstM nilM))) nilM))))) skipM)
def F_Listed_moves_from : FM := runM 2 [true, true] m_Listed_moves_from
def m_Listed_is_end : SM := (seqM (retM (upF (m2 inLD (vM 1) (fldL 1 "shut" (vL 0)).get))) skipM)
def F_Listed_is_end : FM := runM 2 [true, true] m_Listed_is_end
def m_walked : SM := (seqM (asgM (nameT 2) (upF (kM (.int 0))))
  (seqM (asgM (nameT 3) (upF (lookM 1 "first_node" (vL 0).get F_Listed_first_node nilM)))
  (seqM (forM (nameT 4) (seqM (iceM 5 (asgM (nameT 5) (upF (compM [6] (nameT 6) (bM (m2 eqD (m2 ixD (vM 6) (kM (.int 1))) (vM 4))) (vM 6) (itV (coldM (lookM 1 "moves_from" (vL 0).get F_Listed_moves_from (consM (vM 3) nilM))))))))
  (seqM (ifM (bM (m2 eqD (vM 5) (lstM nilM))) (seqM (retM (upF (kM .non))) skipM) skipM)
  (seqM (asgM (nameT 2) (upF (m2 addD (vM 2) (m2 ixD (m2 ixD (vM 5) (kM (.int 0))) (kM (.int 0))))))
  (seqM (asgM (nameT 3) (upR (m2 ixD (m2 ixD (vM 5) (kM (.int 0))) (kM (.int 2)))))
  skipM)))) [4, 5] (itM (vM 1)))
  (seqM (ifM (notB (truM (lookM 1 "is_end" (vL 0).get F_Listed_is_end (consM (vM 3) nilM)))) (seqM (retM (upF (kM .non))) skipM) skipM)
  (seqM (retM (upR (vM 2))) skipM)))))
def F_walked : FM := runM 7 [true, true] m_walked
def m_lw_cell_at : SM := (seqM (ifM (bM (m2 ltD (vM 1) (mA lenD (consM (vM 0) nilM)))) (seqM (retM (upR (m2 ixD (vM 0) (vM 1)))) skipM) skipM)
  (seqM (retM (upF (kM (.int 0)))) skipM))
def F_lw_cell_at : FM := runM 2 [true, true] m_lw_cell_at
def m_lw_mix : SM := (seqM (ifM (bM (m2 gtD (vM 0) (m2 powD (kM (.int 10)) (kM (.int 18))))) (seqM (asgM (nameT 2) (upR (vM 0)))
  (seqM (forM (nameT 3) (seqM (asgM (nameT 2) (upF (m2 fdivD (vM 2) (m2 powD (kM (.int 10)) (kM (.int 9))))))
  skipM) [3] (rng1M (vM 1)))
  (seqM (retM (upF (m2 modD (vM 2) (m2 powD (kM (.int 10)) (kM (.int 9)))))) skipM))) skipM)
  (seqM (asgM (nameT 4) (upF (m2 addD (m2 modD (vM 0) (kM (.int 2147483647))) (kM (.int 7919)))))
  (seqM (forM (nameT 3) (seqM (asgM (nameT 4) (upF (m2 modD (m2 addD (m2 mulD (vM 4) (kM (.int 48271))) (kM (.int 104729))) (kM (.int 2147483629)))))
  skipM) [3] (rng1M (m2 addD (vM 1) (kM (.int 2)))))
  (seqM (retM (upF (m2 fdivD (m2 modD (m2 mulD (vM 4) (vM 4)) (kM (.int 998244353))) (kM (.int 11))))) skipM))))
def F_lw_mix : FM := runM 5 [true, true] m_lw_mix
def m_lw_whole : SM := (seqM (retM (upF (andM (isiM "int" (vM 0)) (notD (isiM "bool" (vM 0)))))) skipM)
def F_lw_whole : FM := runM 1 [true] m_lw_whole
def m_lw_sizes : SM := (seqM (retM (upF (compM [1] (nameT 1) yesB (m2 addD (kM (.int 1)) (m2 modD (callM F_lw_mix (consM (vM 0) (consM (vM 1) nilM))) (kM (.int 3)))) (rng1M (m2 addD (kM (.int 1)) (m2 modD (callM F_lw_mix (consM (vM 0) (consM (kM (.int 8)) nilM))) (kM (.int 5)))))))) skipM)
def F_lw_sizes : FM := runM 2 [true] m_lw_sizes
def m_lw_nodes : SM := (seqM (asgM (nameT 1) (upF (lstM nilM)))
  (seqM (forM (nameT 2) (seqM (forM (nameT 3) (seqM (exprM (appL (vL 1) (tupM (consM (vM 2) (consM (vM 3) nilM)))))
  skipM) [3] (rng1M (m2 ixD (vM 0) (vM 2))))
  skipM) [2, 3] (rng1M (mA lenD (consM (vM 0) nilM))))
  (seqM (retM (mvM (vL 1))) skipM)))
def F_lw_nodes : FM := runM 4 [true] m_lw_nodes
def m_lw_moves : SM := (seqM (asgM (nameT 2) (upF (lstM nilM)))
  (seqM (asgM (nameT 3) (upF newN))
  (seqM (forM (nameT 4) (seqM (asgM (nameT 5) (upR (m2 ixD (vM 1) (m2 modD (callM F_lw_mix (consM (vM 4) (consM (kM (.int 1)) nilM))) (mA lenD (consM (vM 1) nilM))))))
  (seqM (iceM 6 (asgM (nameT 6) (upF (compM [9] (nameT 9) (bM (m2 geD (m2 ixD (vM 9) (kM (.int 0))) (m2 ixD (vM 5) (kM (.int 0))))) (vM 9) (itV (vM 1))))))
  (seqM (asgM (nameT 7) (upR (m2 ixD (vM 6) (m2 modD (callM F_lw_mix (consM (vM 4) (consM (kM (.int 6)) nilM))) (mA lenD (consM (vM 6) nilM))))))
  (seqM (asgM (nameT 8) (upF (m2 modD (callM F_lw_mix (consM (vM 4) (consM (kM (.int 9)) nilM))) (m2 ixD (lstM (consM (kM (.int 3)) (consM (kM (.int 40)) (consM (m2 powD (kM (.int 10)) (kM (.int 9))) nilM)))) (m2 modD (callM F_lw_mix (consM (vM 4) (consM (kM (.int 7)) nilM))) (kM (.int 3)))))))
  (seqM (ifM (andB (bM (m2 eqD (m2 ixD (vM 7) (kM (.int 0))) (m2 ixD (vM 5) (kM (.int 0))))) (bM (m2 eqD (vM 8) (kM (.int 0))))) (seqM (asgM (nameT 8) (upF (kM (.int 1))))
  skipM) skipM)
  (killM [] (seqM (asgM (nameT 8) (upF (m2 mulD (vM 8) (m2 ixD (lstM (consM (kM (.int 1)) (consM (kM (.int 1)) (consM (kM (.int 1)) (consM (m2 powD (kM (.int 10)) (kM (.int 40))) nilM))))) (m2 modD (callM F_lw_mix (consM (vM 4) (consM (kM (.int 10)) nilM))) (kM (.int 4)))))))
  (seqM (exprM (appL (vL 2) (tupM (consM (vM 5) (consM (vM 8) (consM (m2 mulD (m2 ixD (kM (.str [97, 98])) (m2 modD (vM 4) (kM (.int 2)))) (getN2M (vM 3) (vM 5) (kM (.int 0)))) (consM (vM 7) nilM)))))))
  (seqM (dputN (vL 3) (vM 5) (upF (m2 addD (getN2M (vM 3) (vM 5) (kM (.int 0))) (kM (.int 1)))))
  skipM))))))))) [4, 5, 6, 7, 8] (itM (coldM (slM (vM 0) (soM (kM (.int 3))) (soM (kM (.int 43)))))))
  (seqM (retM (mvM (vL 2))) skipM))))
def F_lw_moves : FM := runM 10 [true, true] m_lw_moves
def m_lw_ends : SM := (seqM (asgM (nameT 2) (upF (lstM nilM)))
  (seqM (forM (nameT 3) (seqM (ifM (bM (m2 eqD (m2 modD (callM F_lw_mix (consM (vM 0) (consM (m2 addD (kM (.int 11)) (vM 3)) nilM))) (kM (.int 3))) (kM (.int 0)))) (seqM (exprM (appL (vL 2) (frM (m2 ixD (vM 1) (vM 3)))))
  skipM) skipM)
  (killM [] skipM)) [3] (rng1M (mA lenD (consM (vM 1) nilM))))
  (seqM (ifM (andB (bM (m2 gtD (m2 modD (vM 0) (kM (.int 4))) (kM (.int 0)))) (bM (m2 ninLD (m2 ixD (vM 1) (m1 negD (kM (.int 1)))) (vM 2)))) (seqM (exprM (appL (vL 2) (frM (m2 ixD (vM 1) (m1 negD (kM (.int 1)))))))
  skipM) skipM)
  (killM [] (seqM (retM (mvM (vL 2))) skipM)))))
def F_lw_ends : FM := runM 4 [true, true] m_lw_ends
def m_lw_walked : SM := (seqM (asgM (nameT 3) (upF (tupM (consM (kM (.int 0)) (consM (kM (.int 0)) nilM)))))
  (seqM (asgM (nameT 4) (upF (kM (.int 0))))
  (seqM (forM (nameT 5) (seqM (iceM 6 (asgM (nameT 6) (upF (compM [7] (nameT 7) (andB (bM (m2 eqD (m2 ixD (vM 7) (kM (.int 0))) (vM 3))) (bM (m2 eqD (m2 ixD (vM 7) (kM (.int 2))) (vM 5)))) (vM 7) (itV (vM 0))))))
  (seqM (ifM (bM (m2 eqD (vM 6) (lstM nilM))) (seqM (retM (upF (kM .non))) skipM) skipM)
  (seqM (asgM (nameT 4) (upF (m2 addD (vM 4) (m2 ixD (m2 ixD (vM 6) (kM (.int 0))) (kM (.int 1))))))
  (seqM (asgM (nameT 3) (upR (m2 ixD (m2 ixD (vM 6) (kM (.int 0))) (kM (.int 3)))))
  skipM)))) [5, 6] (itM (vM 2)))
  (seqM (ifM (bM (m2 ninLD (vM 3) (vM 1))) (seqM (retM (upF (kM .non))) skipM) skipM)
  (seqM (retM (upR (vM 4))) skipM)))))
def F_lw_walked : FM := runM 8 [true, true, true] m_lw_walked
def m_lw_row : SM := (seqM (asgM (nameT 2) (upF (tupM (consM (kM (.int 0)) (consM (kM (.int 0)) nilM)))))
  (seqM (asgM (nameT 3) (upF (lstM nilM)))
  (seqM (forM (nameT 4) (seqM (iceM 5 (asgM (nameT 5) (upF (compM [6] (nameT 6) (bM (m2 eqD (m2 ixD (vM 6) (kM (.int 0))) (vM 2))) (vM 6) (itV (vM 1))))))
  (seqM (ifM (bM (m2 neD (vM 5) (lstM nilM))) (seqM (asgM (nameT 6) (upR (m2 ixD (vM 5) (m2 modD (callM F_lw_mix (consM (vM 4) (consM (kM (.int 1)) nilM))) (mA lenD (consM (vM 5) nilM))))))
  (seqM (exprM (appL (vL 3) (frM (m2 ixD (vM 6) (kM (.int 2))))))
  (seqM (asgM (nameT 2) (upR (m2 ixD (vM 6) (kM (.int 3)))))
  skipM))) skipM)
  (killM [6] skipM))) [4, 5, 6] (itM (coldM (slM (vM 0) (soM (kM (.int 43))) (soM (kM (.int 61)))))))
  (seqM (retM (mvM (vL 3))) skipM))))
def F_lw_row : FM := runM 7 [true, true] m_lw_row
def m_lw_spoilt : SM := (seqM (asgM (nameT 3) (upF (m2 modD (callM F_lw_mix (consM (vM 1) (consM (vM 2) nilM))) (m2 addD (mA lenD (consM (vM 0) nilM)) (kM (.int 1))))))
  (seqM (asgM (nameT 4) (upF (m2 modD (callM F_lw_mix (consM (vM 1) (consM (m2 addD (vM 2) (kM (.int 1))) nilM))) (kM (.int 4)))))
  (seqM (asgM (nameT 5) (upF (m2 mulD (m2 ixD (kM (.str [97, 98])) (m2 modD (callM F_lw_mix (consM (vM 1) (consM (m2 addD (vM 2) (kM (.int 2))) nilM))) (kM (.int 2)))) (m2 addD (kM (.int 1)) (m2 modD (callM F_lw_mix (consM (vM 1) (consM (m2 addD (vM 2) (kM (.int 3))) nilM))) (kM (.int 3)))))))
  (seqM (ifM (bM (m2 eqD (vM 4) (kM (.int 0)))) (seqM (retM (upF (m2 addD (slM (vM 0) noM (soM (vM 3))) (slM (vM 0) (soM (m2 addD (vM 3) (kM (.int 1)))) noM)))) skipM) skipM)
  (seqM (ifM (bM (m2 eqD (vM 4) (kM (.int 1)))) (seqM (retM (upF (m2 addD (m2 addD (slM (vM 0) noM (soM (vM 3))) (lstM (consM (vM 5) nilM))) (slM (vM 0) (soM (vM 3)) noM)))) skipM) skipM)
  (seqM (ifM (bM (m2 eqD (vM 4) (kM (.int 2)))) (seqM (retM (upF (m2 addD (m2 addD (slM (vM 0) noM (soM (vM 3))) (lstM (consM (vM 5) nilM))) (slM (vM 0) (soM (m2 addD (vM 3) (kM (.int 1)))) noM)))) skipM) skipM)
  (seqM (retM (upF (m2 addD (m2 addD (slM (vM 0) noM (soM (vM 3))) (lstM (consM (kM (.str [110, 111, 116, 104, 105, 110, 103])) nilM))) (slM (vM 0) (soM (vM 3)) noM)))) skipM)))))))
def F_lw_spoilt : FM := runM 6 [true, true, true] m_lw_spoilt
def m_lw_told : SM := (seqM (asgM (nameT 4) (upF (coldM (mA listD (consM (vM 3) nilM)))))
  (seqM (asgM (nameT 5) (upF (callM F_walked (consM (vM 0) (consM (vM 4) nilM)))))
  (seqM (asgM (nameT 6) (upF (callM F_lw_walked (consM (vM 1) (consM (vM 2) (consM (vM 3) nilM))))))
  (seqM (ifM (bM (m2 neD (vM 4) (vM 3))) (seqM (retM (upF (kM (.bl false)))) skipM) skipM)
  (seqM (ifM (bM (m2 isD (vM 6) (kM .non))) (seqM (retM (upF (m2 isD (vM 5) (kM .non)))) skipM) skipM)
  (seqM (retM (upF (andM (callM F_lw_whole (consM (vM 5) nilM)) (m2 eqD (vM 5) (vM 6))))) skipM))))))
def F_lw_told : FM := runM 7 [true, true, true, true] m_lw_told
def m_lw_truth : SM := (seqM (retM (upF (andM (isiM "bool" (vM 0)) (m2 eqD (vM 0) (vM 1))))) skipM)
def F_lw_truth : FM := runM 2 [true, true] m_lw_truth
def m_lw_methods : SM := (seqM (ifM (orB (bM (m2 neD (lookM 1 "first_node" (vL 0).get F_Listed_first_node nilM) (tupM (consM (kM (.int 0)) (consM (kM (.int 0)) nilM))))) (bM (m2 neD (lookM 1 "last_at" (vL 0).get F_Listed_last_at nilM) (m2 subD (mA lenD (consM (vM 1) nilM)) (kM (.int 1)))))) (seqM (retM (upF (kM (.bl false)))) skipM) skipM)
  (seqM (forM (nameT 4) (seqM (asgM (nameT 5) (upF (lookM 1 "nodes_at" (vL 0).get F_Listed_nodes_at (consM (vM 4) nilM))))
  (seqM (ifM (orB (notB (truM (isiM "list" (vM 5)))) (bM (m2 neD (vM 5) (compM [8] (nameT 8) yesB (tupM (consM (vM 4) (consM (vM 8) nilM))) (rng1M (m2 ixD (vM 1) (vM 4))))))) (seqM (retM (upF (kM (.bl false)))) skipM) skipM)
  (seqM (forM (nameT 6) (seqM (asgM (nameT 7) (upF (lookM 1 "moves_from" (vL 0).get F_Listed_moves_from (consM (vM 6) nilM))))
  (seqM (ifM (orB (notB (truM (isiM "list" (vM 7)))) (bM (m2 neD (vM 7) (compM [9] (nameT 9) (bM (m2 eqD (m2 ixD (vM 9) (kM (.int 0))) (vM 6))) (slM (vM 9) (soM (kM (.int 1))) noM) (itV (vM 2)))))) (seqM (retM (upF (kM (.bl false)))) skipM) skipM)
  (seqM (ifM (notB (truM (callM F_lw_truth (consM (lookM 1 "is_end" (vL 0).get F_Listed_is_end (consM (vM 6) nilM)) (consM (m2 inLD (vM 6) (vM 3)) nilM))))) (seqM (retM (upF (kM (.bl false)))) skipM) skipM)
  (seqM (exprM (appL (vL 7) (tupM (consM (kM (.int 0)) (consM (kM (.str [122])) (consM (vM 6) nilM))))))
  skipM)))) [6, 7] (itM (coldM (mA listD (consM (vM 5) nilM)))))
  (seqM (exprM (appL (vL 5) (tupM (consM (vM 4) (consM (kM (.int 9)) nilM)))))
  skipM)))) [4, 5, 6, 7] (rng1M (mA lenD (consM (vM 1) nilM))))
  (seqM (retM (upF (kM (.bl true)))) skipM)))
def F_lw_methods : FM := runM 10 [true, true, true, true] m_lw_methods
def m_law_b1 : SM := (seqM (exprM (appL (vL 7) (coldM (slM (vM 6) noM (soM (vM 8))))))
  skipM)
def m_law_b2 : SM := (seqM (exprM (appL (vL 7) (coldM (callM F_lw_spoilt (consM (vM 6) (consM (callM F_lw_cell_at (consM (vM 0) (consM (kM (.int 2)) nilM))) (consM (m2 mulD (kM (.int 4)) (vM 8)) nilM)))))))
  skipM)
def m_law : SM := (seqM (asgM (nameT 1) (upF (coldM (callM F_lw_sizes (consM (callM F_lw_cell_at (consM (vM 0) (consM (kM (.int 0)) nilM))) nilM)))))
  (seqM (asgM (nameT 2) (upF (coldM (callM F_lw_nodes (consM (vM 1) nilM)))))
  (seqM (asgM (nameT 3) (upF (coldM (callM F_lw_moves (consM (vM 0) (consM (vM 2) nilM))))))
  (seqM (asgM (nameT 4) (upF (coldM (callM F_lw_ends (consM (callM F_lw_cell_at (consM (vM 0) (consM (kM (.int 1)) nilM))) (consM (vM 2) nilM))))))
  (seqM (asgM (nameT 5) (upF (coldM (mkM 1 F_Listed_init (consM (coldM (mA listD (consM (vM 1) nilM))) (consM (coldM (mA listD (consM (vM 3) nilM))) (consM (coldM (mA listD (consM (vM 4) nilM))) nilM)))))))
  (seqM (ifM (notB (truM (callM F_lw_methods (consM (vM 5) (consM (vM 1) (consM (vM 3) (consM (vM 4) nilM))))))) (seqM (retM (upF (kM (.bl false)))) skipM) skipM)
  (seqM (asgM (nameT 6) (upF (coldM (callM F_lw_row (consM (vM 0) (consM (vM 3) nilM))))))
  (seqM (asgM (nameT 7) (upF (lstM (consM (vM 6) (consM (coldM (lstM nilM)) nilM)))))
  (seqM (forM (nameT 8) m_law_b1 [8] (rng1M (mA lenD (consM (vM 6) nilM))))
  (seqM (forM (nameT 8) m_law_b2 [8] (rng1M (kM (.int 4))))
  (seqM (forFM (vL 7) (nameT 9) (notB (truM (callM F_lw_told (consM (vM 5) (consM (vM 3) (consM (vM 4) (consM (vM 9) nilM))))))) (seqM (retM (upF (kM (.bl false)))) skipM) [9])
  (seqM (retM (upF (callM F_lw_methods (consM (vM 5) (consM (vM 1) (consM (vM 3) (consM (vM 4) nilM))))))) skipM))))))))))))
def F_law : FM := runM 10 [true] m_law
end LW
namespace LW
open PySem L2 LI OW
def e_Listed (o : Bool) (x : OListed) : D := .obj o 1 ["sizes", "steps", "shut"] [(eL o eI) x.sizes, (eDN o (n2 nI nI) (eL o (e3 eI eS (e2 eI eI)))) x.steps, (eL o (e2 eI eI)) x.shut]
instance {o : Bool} : Ng (e_Listed o) := ⟨fun _ => rfl⟩
instance {o : Bool} : No (e_Listed o) := ⟨fun _ => rfl⟩
instance {o : Bool} : Ic (e_Listed o) (e_Listed false) := ⟨fun x => by simp [e_Listed, Ic.ic (e := (eL o eI)), Ic.ic (e := (eDN o (n2 nI nI) (eL o (e3 eI eS (e2 eI eI))))), Ic.ic (e := (eL o (e2 eI eI)))]⟩
instance : Fz (e_Listed false) := ⟨fun x => by simp [e_Listed, Fz.fz, fzL]⟩
theorem L_Listed_init  (sizes : (List Int)) (moves : (List ((Int × Int) × Int × Ts × (Int × Int)))) (ends : (List (Int × Int))) {r : OListed} (h : t_Listed_init sizes moves ends = some r) : F_Listed_init [.obj true 1 [] [], (eL false eI) sizes, (eL false (e4 (e2 eI eI) eI eS (e2 eI eI))) moves, (eL false (e2 eI eI)) ends] = some ((fun _ => .non) r, (fun r : OListed => e_Listed true r :: [(eL false eI) sizes, (eL false (e4 (e2 eI eI) eI eS (e2 eI eI))) moves, (eL false (e2 eI eI)) ends]) r) := by
  have hb : Bk (Qf (fun _ => .non) [true, true, true, true] (fun r : OListed => e_Listed true r :: [(eL false eI) sizes, (eL false (e4 (e2 eI eI) eI eS (e2 eI eI))) moves, (eL false (e2 eI eI)) ends])) m_Listed_init [(fun p_ : Unit => .obj true 1 [] []) (), (eL false eI) sizes, (eL false (e4 (e2 eI eI) eI eS (e2 eI eI))) moves, (eL false (e2 eI eI)) ends, .gone, .gone, .gone, .gone] _ := (b_fld (fun (u1_ : (List Int)) => [(fun p_ : (List Int) => .obj true 1 ["sizes"] [(eL true eI) p_]) u1_, (eL false eI) sizes, (eL false (e4 (e2 eI eI) eI eS (e2 eI eI))) moves, (eL false (e2 eI eI)) ends, .gone, .gone, .gone, .gone]) (eg_f (x_a1 o1_listL (x_v (eL false eI) sizes rfl))) (fun _ => rfl) (fun (u1_ : (List Int)) => (b_fld (fun (u2_ : (List ((Int × Int) × (List (Int × Ts × (Int × Int)))))) => [(fun p_ : ((List Int) × (List ((Int × Int) × (List (Int × Ts × (Int × Int)))))) => .obj true 1 ["sizes", "steps"] [(eL true eI) p_.1, (eDN true (n2 nI nI) (eL true (e3 eI eS (e2 eI eI)))) p_.2]) (u1_, u2_), (eL false eI) sizes, (eL false (e4 (e2 eI eI) eI eS (e2 eI eI))) moves, (eL false (e2 eI eI)) ends, .gone, .gone, .gone, .gone]) (eg_f (x_newN (nk := (n2 nI nI)) (a := (eL true (e3 eI eS (e2 eI eI)))))) (fun _ => rfl) (fun (u2_ : (List ((Int × Int) × (List (Int × Ts × (Int × Int)))))) => (b_for (fun (s3_ : ((List Int) × (List ((Int × Int) × (List (Int × Ts × (Int × Int))))))) => [(fun p_ : ((List Int) × (List ((Int × Int) × (List (Int × Ts × (Int × Int)))))) => .obj true 1 ["sizes", "steps"] [(eL true eI) p_.1, (eDN true (n2 nI nI) (eL true (e3 eI eS (e2 eI eI)))) p_.2]) s3_, (eL false eI) sizes, (eL false (e4 (e2 eI eI) eI eS (e2 eI eI))) moves, (eL false (e2 eI eI)) ends, .gone, .gone, .gone, .gone]) (u1_, u2_) (fun (s3_ : ((List Int) × (List ((Int × Int) × (List (Int × Ts × (Int × Int))))))) (x4_ : ((Int × Int) × Int × Ts × (Int × Int))) => [(fun p_ : ((List Int) × (List ((Int × Int) × (List (Int × Ts × (Int × Int)))))) => .obj true 1 ["sizes", "steps"] [(eL true eI) p_.1, (eDN true (n2 nI nI) (eL true (e3 eI eS (e2 eI eI)))) p_.2]) s3_, (eL false eI) sizes, (eL false (e4 (e2 eI eI) eI eS (e2 eI eI))) moves, (eL false (e2 eI eI)) ends, (e2 eI eI) x4_.1, eI x4_.2.1, eS x4_.2.2.1, (e2 eI eI) x4_.2.2.2]) (ei_it (x_v (eL false (e4 (e2 eI eI) eI eS (e2 eI eI))) moves rfl)) rfl (fun _ _ => rfl) (fun (s3_ : ((List Int) × (List ((Int × Int) × (List (Int × Ts × (Int × Int))))))) (x4_ : ((Int × Int) × Int × Ts × (Int × Int))) => (b_expr (eg_sda (e := (e3 eI eS (e2 eI eI))) (m := s3_.2) (env := fun r_ => [(fun p_ : ((List Int) × (List ((Int × Int) × (List (Int × Ts × (Int × Int)))))) => .obj true 1 ["sizes", "steps"] [(eL true eI) p_.1, (eDN true (n2 nI nI) (eL true (e3 eI eS (e2 eI eI)))) p_.2]) (s3_.1, r_), (eL false eI) sizes, (eL false (e4 (e2 eI eI) eI eS (e2 eI eI))) moves, (eL false (e2 eI eI)) ends, (e2 eI eI) x4_.1, eI x4_.2.1, eS x4_.2.2.1, (e2 eI eI) x4_.2.2.2]) rfl (fun _ => rfl) (x_v (e2 eI eI) x4_.1 rfl) (x_tup (f := (e3 eI eS (e2 eI eI))) (fun t : Int × Ts × (Int × Int) × Unit => (t.1, t.2.1, t.2.2.1)) (ea_cons (x_v eI x4_.2.1 rfl) (ea_cons (x_v eS x4_.2.2.1 rfl) (ea_cons (x_v (e2 eI eI) x4_.2.2.2 rfl) ea_nil))) (fun _ => rfl) (fun _ => (by decide : 3 ≤ LIM)))) (fun (u5_ : (List ((Int × Int) × (List (Int × Ts × (Int × Int)))))) => (b_nil (t := (s3_.1, u5_)) ⟨rfl, rfl⟩)))) (fun (s3_ : ((List Int) × (List ((Int × Int) × (List (Int × Ts × (Int × Int))))))) => (b_fld (fun (u6_ : (List (Int × Int))) => [e_Listed true ({ sizes := s3_.1, steps := s3_.2, shut := u6_ : OListed }), (eL false eI) sizes, (eL false (e4 (e2 eI eI) eI eS (e2 eI eI))) moves, (eL false (e2 eI eI)) ends, .gone, .gone, .gone, .gone]) (eg_f (x_a1 o1_listL (x_v (eL false (e2 eI eI)) ends rfl))) (fun _ => rfl) (fun (u6_ : (List (Int × Int))) => (b_nil (t := ({ sizes := s3_.1, steps := s3_.2, shut := u6_ : OListed })) ⟨.inr ⟨rfl, rfl⟩, rfl⟩)))))))))
  refine run_T (n := 8) (kp := [true, true, true, true]) (m := m_Listed_init) (ds := [.obj true 1 [] [], (eL false eI) sizes, (eL false (e4 (e2 eI eI) eI eS (e2 eI eI))) moves, (eL false (e2 eI eI)) ends]) rfl hb ?_
  first
    | (simp -implicitDefEqProofs only [t_Listed_init, Option.bind_assoc, Option.bind_some, bind_same] at h ⊢; exact h)
    | (simp -implicitDefEqProofs only [t_Listed_init, Option.bind_assoc, Option.bind_some, bind_same] at h; exact h)
    | exact h
    | (simp [t_Listed_init] at h ⊢; exact h)
theorem T_Listed_init : Tn (τ := (List Int) × (List ((Int × Int) × Int × Ts × (Int × Int))) × (List (Int × Int)) × Unit) 1 (fun t => [(eL false eI) t.1, (eL false (e4 (e2 eI eI) eI eS (e2 eI eI))) t.2.1, (eL false (e2 eI eI)) t.2.2.1]) (e_Listed true) F_Listed_init (fun t => t_Listed_init t.1 t.2.1 t.2.2.1) := fun t r h => ⟨_, L_Listed_init t.1 t.2.1 t.2.2.1 h⟩
theorem L_Listed_first_node (o_ : Bool) (self : OListed) {r : (Int × Int)} (h : t_Listed_first_node self = some r) : F_Listed_first_node [(e_Listed o_) self] = some ((e2 eI eI) r, (fun _ => [(e_Listed o_) self]) r) := by
  have hb : Bk (Qf (e2 eI eI) [true] (fun _ => [(e_Listed o_) self])) m_Listed_first_node [(e_Listed o_) self] _ := (b_ret (k := fun (u1_ : (Int × Int)) => u1_) (eg_f (x_tup (f := (e2 eI eI)) (fun t : Int × Int × Unit => (t.1, t.2.1)) (ea_cons (x_k eI (0) rfl) (ea_cons (x_k eI (0) rfl) ea_nil)) (fun _ => rfl) (fun _ => (by decide : 2 ≤ LIM)))) (fun u1_ => ⟨.inl rfl, rfl⟩))
  refine run_T (n := 1) (kp := [true]) (m := m_Listed_first_node) (ds := [(e_Listed o_) self]) rfl hb ?_
  first
    | (simp -implicitDefEqProofs only [t_Listed_first_node, Option.bind_assoc, Option.bind_some, bind_same] at h ⊢; exact h)
    | (simp -implicitDefEqProofs only [t_Listed_first_node, Option.bind_assoc, Option.bind_some, bind_same] at h; exact h)
    | exact h
    | (simp [t_Listed_first_node] at h ⊢; exact h)
theorem T_Listed_first_node {o_ : Bool} : To (τ := Unit) (e_Listed o_) (fun t => []) (e2 eI eI) F_Listed_first_node (fun x t => t_Listed_first_node x ) := fun x t r h => ⟨_, L_Listed_first_node o_ x  h⟩
theorem L_Listed_last_at (o_ : Bool) (self : OListed) {r : Int} (h : t_Listed_last_at self = some r) : F_Listed_last_at [(e_Listed o_) self] = some (eI r, (fun _ => [(e_Listed o_) self]) r) := by
  have hb : Bk (Qf eI [true] (fun _ => [(e_Listed o_) self])) m_Listed_last_at [(e_Listed o_) self] _ := (b_ret (k := fun (u1_ : Int) => u1_) (eg_f (x_m2 o2_subI (x_a1 o1_lenL (ev_get (e := (eL o_ eI)) (x := self.sizes) rfl)) (x_k eI (1) rfl))) (fun u1_ => ⟨.inl rfl, rfl⟩))
  refine run_T (n := 1) (kp := [true]) (m := m_Listed_last_at) (ds := [(e_Listed o_) self]) rfl hb ?_
  first
    | (simp -implicitDefEqProofs only [t_Listed_last_at, Option.bind_assoc, Option.bind_some, bind_same] at h ⊢; exact h)
    | (simp -implicitDefEqProofs only [t_Listed_last_at, Option.bind_assoc, Option.bind_some, bind_same] at h; exact h)
    | exact h
    | (simp [t_Listed_last_at] at h ⊢; exact h)
theorem T_Listed_last_at {o_ : Bool} : To (τ := Unit) (e_Listed o_) (fun t => []) eI F_Listed_last_at (fun x t => t_Listed_last_at x ) := fun x t r h => ⟨_, L_Listed_last_at o_ x  h⟩
theorem L_Listed_nodes_at (o_ : Bool) (self : OListed) (at_ : Int) {r : (List (Int × Int))} (h : t_Listed_nodes_at self at_ = some r) : F_Listed_nodes_at [(e_Listed o_) self, eI at_] = some ((eL true (e2 eI eI)) r, (fun _ => [(e_Listed o_) self, eI at_]) r) := by
  have hb : Bk (Qf (eL true (e2 eI eI)) [true, true] (fun _ => [(e_Listed o_) self, eI at_])) m_Listed_nodes_at [(e_Listed o_) self, eI at_, .gone] _ := (b_retI (eg_f (x_comp (fun (state : Int) => [(e_Listed o_) self, eI at_, eI state]) (ei_rng1 (x_m2 o2_ixL (ev_get (e := (eL o_ eI)) (x := self.sizes) rfl) (x_v eI at_ rfl))) (fun _ => rfl) (fun (state : Int) => et_yes) (fun (state : Int) => (x_tup (f := (e2 eI eI)) (fun t : Int × Int × Unit => (t.1, t.2.1)) (ea_cons (x_v eI at_ rfl) (ea_cons (x_v eI state rfl) ea_nil)) (fun _ => rfl) (fun _ => (by decide : 2 ≤ LIM)))))) (fun u4_ => ⟨.inl rfl, rfl⟩))
  refine run_T (n := 3) (kp := [true, true]) (m := m_Listed_nodes_at) (ds := [(e_Listed o_) self, eI at_]) rfl hb ?_
  first
    | (simp -implicitDefEqProofs only [t_Listed_nodes_at, Option.bind_assoc, Option.bind_some, bind_same] at h ⊢; exact h)
    | (simp -implicitDefEqProofs only [t_Listed_nodes_at, Option.bind_assoc, Option.bind_some, bind_same] at h; exact h)
    | exact h
    | (simp [t_Listed_nodes_at] at h ⊢; exact h)
theorem T_Listed_nodes_at {o_ : Bool} : To (τ := Int × Unit) (e_Listed o_) (fun t => [eI t.1]) (eL true (e2 eI eI)) F_Listed_nodes_at (fun x t => t_Listed_nodes_at x t.1) := fun x t r h => ⟨_, L_Listed_nodes_at o_ x t.1 h⟩
theorem L_Listed_moves_from (o_ : Bool) (self : OListed) (node : (Int × Int)) {r : (List (Int × Ts × (Int × Int)))} (h : t_Listed_moves_from self node = some r) : F_Listed_moves_from [(e_Listed o_) self, (e2 eI eI) node] = some ((eL true (e3 eI eS (e2 eI eI))) r, (fun _ => [(e_Listed o_) self, (e2 eI eI) node]) r) := by
  have hb : Bk (Qf (eL true (e3 eI eS (e2 eI eI))) [true, true] (fun _ => [(e_Listed o_) self, (e2 eI eI) node])) m_Listed_moves_from [(e_Listed o_) self, (e2 eI eI) node] _ := (b_ret (k := fun (u1_ : (List (Int × Ts × (Int × Int)))) => u1_) (eg_f (x_view (e0 := (e_Listed o_)) (e' := (e_Listed false)) (x := self) rfl (x_a1 o1_listL (x_getN2 (ev_get (e := (eDN false (n2 nI nI) (eL false (e3 eI eS (e2 eI eI))))) (x := self.steps) rfl) (x_v (e2 eI eI) node rfl) (x_cold (x_lst (f := (eL true (e3 eI eS (e2 eI eI)))) (fun t : Unit => ([] : (List (Int × Ts × (Int × Int))))) ea_nil (fun _ => rfl) (fun _ => (by decide : 0 ≤ LIM)))))))) (fun u1_ => ⟨.inl rfl, rfl⟩))
  refine run_T (n := 2) (kp := [true, true]) (m := m_Listed_moves_from) (ds := [(e_Listed o_) self, (e2 eI eI) node]) rfl hb ?_
  first
    | (simp -implicitDefEqProofs only [t_Listed_moves_from, Option.bind_assoc, Option.bind_some, bind_same] at h ⊢; exact h)
    | (simp -implicitDefEqProofs only [t_Listed_moves_from, Option.bind_assoc, Option.bind_some, bind_same] at h; exact h)
    | exact h
    | (simp [t_Listed_moves_from] at h ⊢; exact h)
theorem T_Listed_moves_from {o_ : Bool} : To (τ := (Int × Int) × Unit) (e_Listed o_) (fun t => [(e2 eI eI) t.1]) (eL true (e3 eI eS (e2 eI eI))) F_Listed_moves_from (fun x t => t_Listed_moves_from x t.1) := fun x t r h => ⟨_, L_Listed_moves_from o_ x t.1 h⟩
theorem L_Listed_is_end (o_ : Bool) (self : OListed) (node : (Int × Int)) {r : Bool} (h : t_Listed_is_end self node = some r) : F_Listed_is_end [(e_Listed o_) self, (e2 eI eI) node] = some (eB r, (fun _ => [(e_Listed o_) self, (e2 eI eI) node]) r) := by
  have hb : Bk (Qf eB [true, true] (fun _ => [(e_Listed o_) self, (e2 eI eI) node])) m_Listed_is_end [(e_Listed o_) self, (e2 eI eI) node] _ := (b_ret (k := fun (u1_ : Bool) => u1_) (eg_f (x_m2 (o2_inL (e := (e2 eI eI)) (by decide)) (x_v (e2 eI eI) node rfl) (ev_get (e := (eL o_ (e2 eI eI))) (x := self.shut) rfl))) (fun u1_ => ⟨.inl rfl, rfl⟩))
  refine run_T (n := 2) (kp := [true, true]) (m := m_Listed_is_end) (ds := [(e_Listed o_) self, (e2 eI eI) node]) rfl hb ?_
  first
    | (simp -implicitDefEqProofs only [t_Listed_is_end, Option.bind_assoc, Option.bind_some, bind_same] at h ⊢; exact h)
    | (simp -implicitDefEqProofs only [t_Listed_is_end, Option.bind_assoc, Option.bind_some, bind_same] at h; exact h)
    | exact h
    | (simp [t_Listed_is_end] at h ⊢; exact h)
theorem T_Listed_is_end {o_ : Bool} : To (τ := (Int × Int) × Unit) (e_Listed o_) (fun t => [(e2 eI eI) t.1]) eB F_Listed_is_end (fun x t => t_Listed_is_end x t.1) := fun x t r h => ⟨_, L_Listed_is_end o_ x t.1 h⟩
theorem L_walked  (trail : OListed) (names : (List Ts)) {r : (Option Int)} (h : t_walked trail names = some r) : F_walked [(e_Listed false) trail, (eL false eS) names] = some ((eO eI) r, (fun _ => [(e_Listed false) trail, (eL false eS) names]) r) := by
  have hb : Bk (Qf (eO eI) [true, true] (fun _ => [(e_Listed false) trail, (eL false eS) names])) m_walked [(e_Listed false) trail, (eL false eS) names, .gone, .gone, .gone, .gone, .gone] _ := (b_asg (fun (total : Int) => [(e_Listed false) trail, (eL false eS) names, eI total, .gone, .gone, .gone, .gone]) (eg_f (x_k eI (0) rfl)) (fun _ => rfl) (fun (total : Int) => (b_asg (fun (node : (Int × Int)) => [(e_Listed false) trail, (eL false eS) names, eI total, (e2 eI eI) node, .gone, .gone, .gone]) (eg_f (x_look (fun x => rfl) T_Listed_first_node (ev_get (e := (e_Listed false)) (x := trail) rfl) ea_nil)) (fun _ => rfl) (fun (node : (Int × Int)) => (b_forR (fun (s1_ : (Int × (Int × Int))) => [(e_Listed false) trail, (eL false eS) names, eI s1_.1, (e2 eI eI) s1_.2, .gone, .gone, .gone]) (total, node) (fun (s1_ : (Int × (Int × Int))) (name : Ts) => [(e_Listed false) trail, (eL false eS) names, eI s1_.1, (e2 eI eI) s1_.2, eS name, .gone, .gone]) (ei_it (x_v (eL false eS) names rfl)) rfl (fun _ _ => rfl) (fun (s1_ : (Int × (Int × Int))) (name : Ts) => (b_asgC (fun (found : (List (Int × Ts × (Int × Int)))) => [(e_Listed false) trail, (eL false eS) names, eI s1_.1, (e2 eI eI) s1_.2, eS name, (eL false (e3 eI eS (e2 eI eI))) found, .gone]) (eg_f (x_comp (fun (move : (Int × Ts × (Int × Int))) => [(e_Listed false) trail, (eL false eS) names, eI s1_.1, (e2 eI eI) s1_.2, eS name, .gone, (e3 eI eS (e2 eI eI)) move]) (ei_itV (x_cold (x_look (fun x => rfl) T_Listed_moves_from (ev_get (e := (e_Listed false)) (x := trail) rfl) (ea_cons (x_v (e2 eI eI) s1_.2 rfl) ea_nil)))) (fun _ => rfl) (fun (move : (Int × Ts × (Int × Int))) => (et_b (x_m2 (o2_eq (e' := eS) (by decide)) (x_pr (f := eS) 1 (fun t : (Int × Ts × (Int × Int)) => t.2.1) (fun _ => rfl) (x_v (e3 eI eS (e2 eI eI)) move rfl)) (x_v eS name rfl)))) (fun (move : (Int × Ts × (Int × Int))) => (x_v (e3 eI eS (e2 eI eI)) move rfl)))) (fun _ => rfl) (fun _ => rfl) (fun (found : (List (Int × Ts × (Int × Int)))) => (b_ifT (et_b (x_m2 (o2_eq (e' := (eL false (e3 eI eS (e2 eI eI)))) (by decide)) (x_v (eL false (e3 eI eS (e2 eI eI))) found rfl) (x_lst (f := (eL true (e3 eI eS (e2 eI eI)))) (fun t : Unit => ([] : (List (Int × Ts × (Int × Int))))) ea_nil (fun _ => rfl) (fun _ => (by decide : 0 ≤ LIM))))) (b_ret (k := fun (u5_ : (Option Int)) => (.rt u5_ : (St (Int × (Int × Int)) (Option Int)))) (eg_f (x_map (e := eU) (f := (eO eI)) (fun _ => none) (fun _ => rfl) (x_k eU () rfl))) (fun u5_ => ⟨rfl, ⟨rfl, ⟨.inl rfl, rfl⟩⟩⟩)) (b_asg (fun (total : Int) => [(e_Listed false) trail, (eL false eS) names, eI total, (e2 eI eI) s1_.2, eS name, (eL false (e3 eI eS (e2 eI eI))) found, .gone]) (eg_f (x_m2 o2_addI (x_v eI s1_.1 rfl) (x_pr (f := eI) 0 (fun t : (Int × Ts × (Int × Int)) => t.1) (fun _ => rfl) (x_m2 o2_ixL (x_v (eL false (e3 eI eS (e2 eI eI))) found rfl) (x_k eI (0) rfl))))) (fun _ => rfl) (fun (total : Int) => (b_asg (fun (node : (Int × Int)) => [(e_Listed false) trail, (eL false eS) names, eI total, (e2 eI eI) node, eS name, (eL false (e3 eI eS (e2 eI eI))) found, .gone]) (eg_r (x_pr (f := (e2 eI eI)) 2 (fun t : (Int × Ts × (Int × Int)) => t.2.2) (fun _ => rfl) (x_m2 o2_ixL (x_v (eL false (e3 eI eS (e2 eI eI))) found rfl) (x_k eI (0) rfl)))) (fun _ => rfl) (fun (node : (Int × Int)) => (b_nil (t := (.nx (total, node) : (St (Int × (Int × Int)) (Option Int)))) ⟨rfl, rfl⟩))))))))) (fun (s1_ : (Int × (Int × Int))) => (b_ifT (et_not (et_tru (x_lookF (fun x => rfl) T_Listed_is_end (ev_get (e := (e_Listed false)) (x := trail) rfl) (ea_cons (x_v (e2 eI eI) s1_.2 rfl) ea_nil)))) (b_ret (k := fun (u10_ : (Option Int)) => u10_) (eg_f (x_map (e := eU) (f := (eO eI)) (fun _ => none) (fun _ => rfl) (x_k eU () rfl))) (fun u10_ => ⟨rfl, ⟨.inl rfl, rfl⟩⟩)) (b_ret (k := fun (u11_ : (Option Int)) => u11_) (eg_r (x_map (e := eI) (f := (eO eI)) some (fun _ => rfl) (x_v eI s1_.1 rfl))) (fun u11_ => ⟨.inl rfl, rfl⟩)))))))))
  refine run_T (n := 7) (kp := [true, true]) (m := m_walked) (ds := [(e_Listed false) trail, (eL false eS) names]) rfl hb ?_
  first
    | (simp -implicitDefEqProofs only [t_walked, Option.bind_assoc, Option.bind_some, bind_same] at h ⊢; exact h)
    | (simp -implicitDefEqProofs only [t_walked, Option.bind_assoc, Option.bind_some, bind_same] at h; exact h)
    | exact h
    | (simp [t_walked] at h ⊢; exact h)
theorem T_walked : Tf (τ := OListed × (List Ts) × Unit) (fun t => [(e_Listed false) t.1, (eL false eS) t.2.1]) (eO eI) F_walked (fun t => t_walked t.1 t.2.1) := fun t r h => ⟨_, L_walked t.1 t.2.1 h⟩
theorem L_lw_cell_at  (script : (List Int)) (k : Int) {r : Int} (h : t_lw_cell script k = some r) : F_lw_cell_at [eC script, eI k] = some (eI r, (fun _ => [eC script, eI k]) r) := by
  have hb : Bk (Qf eI [true, true] (fun _ => [eC script, eI k])) m_lw_cell_at [eC script, eI k] _ := (b_ifT (et_b (x_m2 o2_ltI (x_v eI k rfl) (x_a1 o1_lenC (x_v eC script rfl)))) (b_retI (eg_r (x_m2 o2_ixC (x_v eC script rfl) (x_v eI k rfl))) (fun u1_ => ⟨rfl, ⟨.inl rfl, rfl⟩⟩)) (b_ret (k := fun (u2_ : Int) => u2_) (eg_f (x_k eI (0) rfl)) (fun u2_ => ⟨.inl rfl, rfl⟩)))
  refine run_T (n := 2) (kp := [true, true]) (m := m_lw_cell_at) (ds := [eC script, eI k]) rfl hb ?_
  first
    | (simp -implicitDefEqProofs only [t_lw_cell, Option.bind_assoc, Option.bind_some, bind_same] at h ⊢; exact h)
    | (simp -implicitDefEqProofs only [t_lw_cell, Option.bind_assoc, Option.bind_some, bind_same] at h; exact h)
    | exact h
    | (simp [t_lw_cell] at h ⊢; exact h)
theorem T_lw_cell_at : Tf (τ := (List Int) × Int × Unit) (fun t => [eC t.1, eI t.2.1]) eI F_lw_cell_at (fun t => t_lw_cell t.1 t.2.1) := fun t r h => ⟨_, L_lw_cell_at t.1 t.2.1 h⟩
theorem L_lw_mix  (cell : Int) (k : Int) {r : Int} (h : t_lw_mix_b cell k = some r) : F_lw_mix [eI cell, eI k] = some (eI r, (fun _ => [eI cell, eI k]) r) := by
  have hb : Bk (Qf eI [true, true] (fun _ => [eI cell, eI k])) m_lw_mix [eI cell, eI k, .gone, .gone, .gone] _ := (b_ifT (et_b (x_m2 o2_gtI (x_v eI cell rfl) (x_pow 10 18 1000000000000000000 (by decide)))) (b_asg (fun (rest : Int) => [eI cell, eI k, eI rest, .gone, .gone]) (eg_r (x_v eI cell rfl)) (fun _ => rfl) (fun (rest : Int) => (b_for (fun (s1_ : Int) => [eI cell, eI k, eI s1_, .gone, .gone]) rest (fun (s1_ : Int) (turn : Int) => [eI cell, eI k, eI s1_, eI turn, .gone]) (ei_rng1 (x_v eI k rfl)) rfl (fun _ _ => rfl) (fun (s1_ : Int) (turn : Int) => (b_asg (fun (rest : Int) => [eI cell, eI k, eI rest, eI turn, .gone]) (eg_f (x_fdivP 1000000000 (by decide) (x_v eI s1_ rfl) (x_pow 10 9 1000000000 (by decide)))) (fun _ => rfl) (fun (rest : Int) => (b_nil (t := rest) ⟨rfl, rfl⟩)))) (fun (s1_ : Int) => (b_ret (k := fun (u2_ : Int) => u2_) (eg_f (x_modP 1000000000 (by decide) (x_v eI s1_ rfl) (x_pow 10 9 1000000000 (by decide)))) (fun u2_ => ⟨rfl, ⟨.inl rfl, rfl⟩⟩)))))) (b_asg (fun (number : Int) => [eI cell, eI k, .gone, .gone, eI number]) (eg_f (x_m2 o2_addI (x_modP 2147483647 (by decide) (x_v eI cell rfl) (x_k eI (2147483647) rfl)) (x_k eI (7919) rfl))) (fun _ => rfl) (fun (number : Int) => (b_for (fun (s4_ : Int) => [eI cell, eI k, .gone, .gone, eI s4_]) number (fun (s4_ : Int) (turn : Int) => [eI cell, eI k, .gone, eI turn, eI s4_]) (ei_rng1 (x_m2 o2_addI (x_v eI k rfl) (x_k eI (2) rfl))) rfl (fun _ _ => rfl) (fun (s4_ : Int) (turn : Int) => (b_asg (fun (number : Int) => [eI cell, eI k, .gone, eI turn, eI number]) (eg_f (x_modP 2147483629 (by decide) (x_m2 o2_addI (x_mulR 48271 (by decide) (x_v eI s4_ rfl)) (x_k eI (104729) rfl)) (x_k eI (2147483629) rfl))) (fun _ => rfl) (fun (number : Int) => (b_nil (t := number) ⟨rfl, rfl⟩)))) (fun (s4_ : Int) => (b_retI (eg_f (x_fdivP 11 (by decide) (x_modP 998244353 (by decide) (x_m2 o2_mul (x_v eI s4_ rfl) (x_v eI s4_ rfl)) (x_k eI (998244353) rfl)) (x_k eI (11) rfl))) (fun u7_ => ⟨.inl rfl, rfl⟩)))))))
  refine run_T (n := 5) (kp := [true, true]) (m := m_lw_mix) (ds := [eI cell, eI k]) rfl hb ?_
  first
    | (simp -implicitDefEqProofs only [t_lw_mix_b, Option.bind_assoc, Option.bind_some, bind_same] at h ⊢; exact h)
    | (simp -implicitDefEqProofs only [t_lw_mix_b, Option.bind_assoc, Option.bind_some, bind_same] at h; exact h)
    | exact h
    | (simp [t_lw_mix_b] at h ⊢; exact h)
theorem T_lw_mix : Tf (τ := Int × Int × Unit) (fun t => [eI t.1, eI t.2.1]) eI F_lw_mix (fun t => t_lw_mix_b t.1 t.2.1) := fun t r h => ⟨_, L_lw_mix t.1 t.2.1 h⟩
theorem L_lw_whole  (thing : (Option Int)) {r : Bool} (h : t_lw_whole_c thing = some r) : F_lw_whole [(eO eI) thing] = some (eB r, (fun _ => [(eO eI) thing]) r) := by
  have hb : Bk (Qf eB [true] (fun _ => [(eO eI) thing])) m_lw_whole [(eO eI) thing] _ := (b_ret (k := fun (u1_ : Bool) => u1_) (eg_f (x_andT (x_isO kit_int_int kit_NoneType_int (x_v (eO eI) thing rfl)) (x_not (x_isO kit_int_bool kit_NoneType_bool (x_v (eO eI) thing rfl))))) (fun u1_ => ⟨.inl rfl, rfl⟩))
  refine run_T (n := 1) (kp := [true]) (m := m_lw_whole) (ds := [(eO eI) thing]) rfl hb ?_
  first
    | (simp -implicitDefEqProofs only [t_lw_whole_c, Option.bind_assoc, Option.bind_some, bind_same] at h ⊢; exact h)
    | (simp -implicitDefEqProofs only [t_lw_whole_c, Option.bind_assoc, Option.bind_some, bind_same] at h; exact h)
    | exact h
    | (simp [t_lw_whole_c] at h ⊢; exact h)
theorem T_lw_whole : Tf (τ := (Option Int) × Unit) (fun t => [(eO eI) t.1]) eB F_lw_whole (fun t => t_lw_whole_c t.1) := fun t r h => ⟨_, L_lw_whole t.1 h⟩
theorem L_lw_sizes  (cell : Int) {r : (List Int)} (h : t_lw_sizes cell = some r) : F_lw_sizes [eI cell] = some ((eL true eI) r, (fun _ => [eI cell]) r) := by
  have hb : Bk (Qf (eL true eI) [true] (fun _ => [eI cell])) m_lw_sizes [eI cell, .gone] _ := (b_retI (eg_f (x_comp (fun (k : Int) => [eI cell, eI k]) (ei_rng1 (x_m2 o2_addI (x_k eI (1) rfl) (x_modP 5 (by decide) (x_call T_lw_mix (ea_cons (x_v eI cell rfl) (ea_cons (x_k eI (8) rfl) ea_nil))) (x_k eI (5) rfl)))) (fun _ => rfl) (fun (k : Int) => et_yes) (fun (k : Int) => (x_m2 o2_addI (x_k eI (1) rfl) (x_modP 3 (by decide) (x_call T_lw_mix (ea_cons (x_v eI cell rfl) (ea_cons (x_v eI k rfl) ea_nil))) (x_k eI (3) rfl)))))) (fun u8_ => ⟨.inl rfl, rfl⟩))
  refine run_T (n := 2) (kp := [true]) (m := m_lw_sizes) (ds := [eI cell]) rfl hb ?_
  first
    | (simp -implicitDefEqProofs only [t_lw_sizes, Option.bind_assoc, Option.bind_some, bind_same] at h ⊢; exact h)
    | (simp -implicitDefEqProofs only [t_lw_sizes, Option.bind_assoc, Option.bind_some, bind_same] at h; exact h)
    | exact h
    | (simp [t_lw_sizes] at h ⊢; exact h)
theorem T_lw_sizes : Tf (τ := Int × Unit) (fun t => [eI t.1]) (eL true eI) F_lw_sizes (fun t => t_lw_sizes t.1) := fun t r h => ⟨_, L_lw_sizes t.1 h⟩
theorem L_lw_nodes  (sizes_here : (List Int)) {r : (List (Int × Int))} (h : t_lw_nodes sizes_here = some r) : F_lw_nodes [(eL false eI) sizes_here] = some ((eL true (e2 eI eI)) r, (fun _ => [(eL false eI) sizes_here]) r) := by
  have hb : Bk (Qf (eL true (e2 eI eI)) [true] (fun _ => [(eL false eI) sizes_here])) m_lw_nodes [(eL false eI) sizes_here, .gone, .gone, .gone] _ := (b_asg (fun (nodes_here : (List (Int × Int))) => [(eL false eI) sizes_here, (eL true (e2 eI eI)) nodes_here, .gone, .gone]) (eg_f (x_lst (f := (eL true (e2 eI eI))) (fun t : Unit => ([] : (List (Int × Int)))) ea_nil (fun _ => rfl) (fun _ => (by decide : 0 ≤ LIM)))) (fun _ => rfl) (fun (nodes_here : (List (Int × Int))) => (b_for (fun (s1_ : (List (Int × Int))) => [(eL false eI) sizes_here, (eL true (e2 eI eI)) s1_, .gone, .gone]) nodes_here (fun (s1_ : (List (Int × Int))) (at_ : Int) => [(eL false eI) sizes_here, (eL true (e2 eI eI)) s1_, eI at_, .gone]) (ei_rng1 (x_a1 o1_lenL (x_v (eL false eI) sizes_here rfl))) rfl (fun _ _ => rfl) (fun (s1_ : (List (Int × Int))) (at_ : Int) => (b_for (fun (s3_ : (List (Int × Int))) => [(eL false eI) sizes_here, (eL true (e2 eI eI)) s3_, eI at_, .gone]) s1_ (fun (s3_ : (List (Int × Int))) (state : Int) => [(eL false eI) sizes_here, (eL true (e2 eI eI)) s3_, eI at_, eI state]) (ei_rng1 (x_m2 o2_ixL (x_v (eL false eI) sizes_here rfl) (x_v eI at_ rfl))) rfl (fun _ _ => rfl) (fun (s3_ : (List (Int × Int))) (state : Int) => (b_expr (eg_app (a := (e2 eI eI)) (xs := s3_) (env := fun r_ => [(eL false eI) sizes_here, (eL true (e2 eI eI)) r_, eI at_, eI state]) rfl (x_tup (f := (e2 eI eI)) (fun t : Int × Int × Unit => (t.1, t.2.1)) (ea_cons (x_v eI at_ rfl) (ea_cons (x_v eI state rfl) ea_nil)) (fun _ => rfl) (fun _ => (by decide : 2 ≤ LIM))) (fun _ => rfl)) (fun (u4_ : (List (Int × Int))) => (b_nil (t := u4_) ⟨rfl, rfl⟩)))) (fun (s3_ : (List (Int × Int))) => (b_nil (t := s3_) ⟨rfl, rfl⟩)))) (fun (s1_ : (List (Int × Int))) => (b_ret (k := fun (u6_ : (List (Int × Int))) => u6_) (eg_mv (eL true (e2 eI eI)) s1_ [(eL false eI) sizes_here, .gone, .gone, .gone] rfl rfl) (fun u6_ => ⟨.inl rfl, rfl⟩))))))
  refine run_T (n := 4) (kp := [true]) (m := m_lw_nodes) (ds := [(eL false eI) sizes_here]) rfl hb ?_
  first
    | (simp -implicitDefEqProofs only [t_lw_nodes, Option.bind_assoc, Option.bind_some, bind_same] at h ⊢; exact h)
    | (simp -implicitDefEqProofs only [t_lw_nodes, Option.bind_assoc, Option.bind_some, bind_same] at h; exact h)
    | exact h
    | (simp [t_lw_nodes] at h ⊢; exact h)
theorem T_lw_nodes : Tf (τ := (List Int) × Unit) (fun t => [(eL false eI) t.1]) (eL true (e2 eI eI)) F_lw_nodes (fun t => t_lw_nodes t.1) := fun t r h => ⟨_, L_lw_nodes t.1 h⟩
theorem L_lw_moves  (script : (List Int)) (nodes_here : (List (Int × Int))) {r : (List ((Int × Int) × Int × Ts × (Int × Int)))} (h : t_lw_moves script nodes_here = some r) : F_lw_moves [eC script, (eL false (e2 eI eI)) nodes_here] = some ((eL true (e4 (e2 eI eI) eI eS (e2 eI eI))) r, (fun _ => [eC script, (eL false (e2 eI eI)) nodes_here]) r) := by
  have hb : Bk (Qf (eL true (e4 (e2 eI eI) eI eS (e2 eI eI))) [true, true] (fun _ => [eC script, (eL false (e2 eI eI)) nodes_here])) m_lw_moves [eC script, (eL false (e2 eI eI)) nodes_here, .gone, .gone, .gone, .gone, .gone, .gone, .gone, .gone] _ := (b_asg (fun (moves_here : (List ((Int × Int) × Int × Ts × (Int × Int)))) => [eC script, (eL false (e2 eI eI)) nodes_here, (eL true (e4 (e2 eI eI) eI eS (e2 eI eI))) moves_here, .gone, .gone, .gone, .gone, .gone, .gone, .gone]) (eg_f (x_lst (f := (eL true (e4 (e2 eI eI) eI eS (e2 eI eI)))) (fun t : Unit => ([] : (List ((Int × Int) × Int × Ts × (Int × Int))))) ea_nil (fun _ => rfl) (fun _ => (by decide : 0 ≤ LIM)))) (fun _ => rfl) (fun (moves_here : (List ((Int × Int) × Int × Ts × (Int × Int)))) => (b_asg (fun (many : (List ((Int × Int) × Int))) => [eC script, (eL false (e2 eI eI)) nodes_here, (eL true (e4 (e2 eI eI) eI eS (e2 eI eI))) moves_here, (eDN true (n2 nI nI) eI) many, .gone, .gone, .gone, .gone, .gone, .gone]) (eg_f (x_newN (nk := (n2 nI nI)) (a := eI))) (fun _ => rfl) (fun (many : (List ((Int × Int) × Int))) => (b_for (fun (s1_ : ((List ((Int × Int) × Int × Ts × (Int × Int))) × (List ((Int × Int) × Int)))) => [eC script, (eL false (e2 eI eI)) nodes_here, (eL true (e4 (e2 eI eI) eI eS (e2 eI eI))) s1_.1, (eDN true (n2 nI nI) eI) s1_.2, .gone, .gone, .gone, .gone, .gone, .gone]) (moves_here, many) (fun (s1_ : ((List ((Int × Int) × Int × Ts × (Int × Int))) × (List ((Int × Int) × Int)))) (cell : Int) => [eC script, (eL false (e2 eI eI)) nodes_here, (eL true (e4 (e2 eI eI) eI eS (e2 eI eI))) s1_.1, (eDN true (n2 nI nI) eI) s1_.2, eI cell, .gone, .gone, .gone, .gone, .gone]) (ei_it (x_cold (x_sl (x_v eC script rfl) (eo_so (x_k eI (3) rfl)) (eo_so (x_k eI (43) rfl))))) rfl (fun _ _ => rfl) (fun (s1_ : ((List ((Int × Int) × Int × Ts × (Int × Int))) × (List ((Int × Int) × Int)))) (cell : Int) => (b_asg (fun (one : (Int × Int)) => [eC script, (eL false (e2 eI eI)) nodes_here, (eL true (e4 (e2 eI eI) eI eS (e2 eI eI))) s1_.1, (eDN true (n2 nI nI) eI) s1_.2, eI cell, (e2 eI eI) one, .gone, .gone, .gone, .gone]) (eg_r (x_m2 o2_ixL (x_v (eL false (e2 eI eI)) nodes_here rfl) (x_m2 o2_mod (x_call T_lw_mix (ea_cons (x_v eI cell rfl) (ea_cons (x_k eI (1) rfl) ea_nil))) (x_a1 o1_lenL (x_v (eL false (e2 eI eI)) nodes_here rfl))))) (fun _ => rfl) (fun (one : (Int × Int)) => (b_asgC (fun (beyond : (List (Int × Int))) => [eC script, (eL false (e2 eI eI)) nodes_here, (eL true (e4 (e2 eI eI) eI eS (e2 eI eI))) s1_.1, (eDN true (n2 nI nI) eI) s1_.2, eI cell, (e2 eI eI) one, (eL false (e2 eI eI)) beyond, .gone, .gone, .gone]) (eg_f (x_comp (fun (node : (Int × Int)) => [eC script, (eL false (e2 eI eI)) nodes_here, (eL true (e4 (e2 eI eI) eI eS (e2 eI eI))) s1_.1, (eDN true (n2 nI nI) eI) s1_.2, eI cell, (e2 eI eI) one, .gone, .gone, .gone, (e2 eI eI) node]) (ei_itV (x_v (eL false (e2 eI eI)) nodes_here rfl)) (fun _ => rfl) (fun (node : (Int × Int)) => (et_b (x_m2 o2_geI (x_pr (f := eI) 0 (fun t : (Int × Int) => t.1) (fun _ => rfl) (x_v (e2 eI eI) node rfl)) (x_pr (f := eI) 0 (fun t : (Int × Int) => t.1) (fun _ => rfl) (x_v (e2 eI eI) one rfl))))) (fun (node : (Int × Int)) => (x_v (e2 eI eI) node rfl)))) (fun _ => rfl) (fun _ => rfl) (fun (beyond : (List (Int × Int))) => (b_asg (fun (other : (Int × Int)) => [eC script, (eL false (e2 eI eI)) nodes_here, (eL true (e4 (e2 eI eI) eI eS (e2 eI eI))) s1_.1, (eDN true (n2 nI nI) eI) s1_.2, eI cell, (e2 eI eI) one, (eL false (e2 eI eI)) beyond, (e2 eI eI) other, .gone, .gone]) (eg_r (x_m2 o2_ixL (x_v (eL false (e2 eI eI)) beyond rfl) (x_m2 o2_mod (x_call T_lw_mix (ea_cons (x_v eI cell rfl) (ea_cons (x_k eI (6) rfl) ea_nil))) (x_a1 o1_lenL (x_v (eL false (e2 eI eI)) beyond rfl))))) (fun _ => rfl) (fun (other : (Int × Int)) => (b_asg (fun (cost : Int) => [eC script, (eL false (e2 eI eI)) nodes_here, (eL true (e4 (e2 eI eI) eI eS (e2 eI eI))) s1_.1, (eDN true (n2 nI nI) eI) s1_.2, eI cell, (e2 eI eI) one, (eL false (e2 eI eI)) beyond, (e2 eI eI) other, eI cost, .gone]) (eg_f (x_m2 o2_mod (x_call T_lw_mix (ea_cons (x_v eI cell rfl) (ea_cons (x_k eI (9) rfl) ea_nil))) (x_m2 o2_ixL (x_lst (f := (eL true eI)) (fun t : Int × Int × Int × Unit => ([t.1, t.2.1, t.2.2.1] : (List Int))) (ea_cons (x_k eI (3) rfl) (ea_cons (x_k eI (40) rfl) (ea_cons (x_pow 10 9 1000000000 (by decide)) ea_nil))) (fun _ => rfl) (fun _ => (by decide : 3 ≤ LIM))) (x_modP 3 (by decide) (x_call T_lw_mix (ea_cons (x_v eI cell rfl) (ea_cons (x_k eI (7) rfl) ea_nil))) (x_k eI (3) rfl))))) (fun _ => rfl) (fun (cost : Int) => (b_join (fun (s11_ : Int) => [eC script, (eL false (e2 eI eI)) nodes_here, (eL true (e4 (e2 eI eI) eI eS (e2 eI eI))) s1_.1, (eDN true (n2 nI nI) eI) s1_.2, eI cell, (e2 eI eI) one, (eL false (e2 eI eI)) beyond, (e2 eI eI) other, eI s11_, .gone]) (et_andT (et_b (x_m2 (o2_eq (e' := eI) (by decide)) (x_pr (f := eI) 0 (fun t : (Int × Int) => t.1) (fun _ => rfl) (x_v (e2 eI eI) other rfl)) (x_pr (f := eI) 0 (fun t : (Int × Int) => t.1) (fun _ => rfl) (x_v (e2 eI eI) one rfl)))) (et_b (x_m2 (o2_eq (e' := eI) (by decide)) (x_v eI cost rfl) (x_k eI (0) rfl)))) (b_asg (fun (cost_2 : Int) => [eC script, (eL false (e2 eI eI)) nodes_here, (eL true (e4 (e2 eI eI) eI eS (e2 eI eI))) s1_.1, (eDN true (n2 nI nI) eI) s1_.2, eI cell, (e2 eI eI) one, (eL false (e2 eI eI)) beyond, (e2 eI eI) other, eI cost_2, .gone]) (eg_f (x_k eI (1) rfl)) (fun _ => rfl) (fun (cost_2 : Int) => (b_nil (t := cost_2) ⟨rfl, rfl⟩))) (b_nil (t := cost) ⟨rfl, rfl⟩) (fun (s11_ : Int) => (b_asg (fun (cost : Int) => [eC script, (eL false (e2 eI eI)) nodes_here, (eL true (e4 (e2 eI eI) eI eS (e2 eI eI))) s1_.1, (eDN true (n2 nI nI) eI) s1_.2, eI cell, (e2 eI eI) one, (eL false (e2 eI eI)) beyond, (e2 eI eI) other, eI cost, .gone]) (eg_f (x_m2 o2_mul (x_v eI s11_ rfl) (x_m2 o2_ixL (x_lst (f := (eL true eI)) (fun t : Int × Int × Int × Int × Unit => ([t.1, t.2.1, t.2.2.1, t.2.2.2.1] : (List Int))) (ea_cons (x_k eI (1) rfl) (ea_cons (x_k eI (1) rfl) (ea_cons (x_k eI (1) rfl) (ea_cons (x_pow 10 40 10000000000000000000000000000000000000000 (by decide)) ea_nil)))) (fun _ => rfl) (fun _ => (by decide : 4 ≤ LIM))) (x_modP 4 (by decide) (x_call T_lw_mix (ea_cons (x_v eI cell rfl) (ea_cons (x_k eI (10) rfl) ea_nil))) (x_k eI (4) rfl))))) (fun _ => rfl) (fun (cost : Int) => (b_expr (eg_app (a := (e4 (e2 eI eI) eI eS (e2 eI eI))) (xs := s1_.1) (env := fun r_ => [eC script, (eL false (e2 eI eI)) nodes_here, (eL true (e4 (e2 eI eI) eI eS (e2 eI eI))) r_, (eDN true (n2 nI nI) eI) s1_.2, eI cell, (e2 eI eI) one, (eL false (e2 eI eI)) beyond, (e2 eI eI) other, eI cost, .gone]) rfl (x_tup (f := (e4 (e2 eI eI) eI eS (e2 eI eI))) (fun t : (Int × Int) × Int × Ts × (Int × Int) × Unit => (t.1, t.2.1, t.2.2.1, t.2.2.2.1)) (ea_cons (x_v (e2 eI eI) one rfl) (ea_cons (x_v eI cost rfl) (ea_cons (x_m2 o2_repS (x_m2 o2_ixS (x_k eS ['a', 'b'] rfl) (x_modP 2 (by decide) (x_v eI cell rfl) (x_k eI (2) rfl))) (x_getN2 (x_v (eDN true (n2 nI nI) eI) s1_.2 rfl) (x_v (e2 eI eI) one rfl) (x_k eI (0) rfl))) (ea_cons (x_v (e2 eI eI) other rfl) ea_nil)))) (fun _ => rfl) (fun _ => (by decide : 4 ≤ LIM))) (fun _ => rfl)) (fun (u20_ : (List ((Int × Int) × Int × Ts × (Int × Int)))) => (b_dputN (av := eI) (v := fun u21_ => u21_) (xs := fun u21_ => s1_.2) (fun p23_ => [eC script, (eL false (e2 eI eI)) nodes_here, (eL true (e4 (e2 eI eI) eI eS (e2 eI eI))) u20_, (eDN true (n2 nI nI) eI) p23_.2, eI cell, (e2 eI eI) one, (eL false (e2 eI eI)) beyond, (e2 eI eI) other, eI cost, .gone]) (eg_f (x_m2 o2_addI (x_getN2 (x_v (eDN true (n2 nI nI) eI) s1_.2 rfl) (x_v (e2 eI eI) one rfl) (x_k eI (0) rfl)) (x_k eI (1) rfl))) (fun _ => rfl) (fun _ => rfl) (fun u21_ => (x_v (e2 eI eI) one rfl)) (fun _ => rfl) (fun p23_ => (b_nil (t := (u20_, p23_.2)) ⟨rfl, rfl⟩)))))))))))))))))) (fun (s1_ : ((List ((Int × Int) × Int × Ts × (Int × Int))) × (List ((Int × Int) × Int)))) => (b_ret (k := fun (u25_ : (List ((Int × Int) × Int × Ts × (Int × Int)))) => u25_) (eg_mv (eL true (e4 (e2 eI eI) eI eS (e2 eI eI))) s1_.1 [eC script, (eL false (e2 eI eI)) nodes_here, .gone, (eDN true (n2 nI nI) eI) s1_.2, .gone, .gone, .gone, .gone, .gone, .gone] rfl rfl) (fun u25_ => ⟨.inl rfl, rfl⟩))))))))
  refine run_T (n := 10) (kp := [true, true]) (m := m_lw_moves) (ds := [eC script, (eL false (e2 eI eI)) nodes_here]) rfl hb ?_
  first
    | (simp -implicitDefEqProofs only [t_lw_moves, Option.bind_assoc, Option.bind_some, bind_same] at h ⊢; exact h)
    | (simp -implicitDefEqProofs only [t_lw_moves, Option.bind_assoc, Option.bind_some, bind_same] at h; exact h)
    | exact h
    | (simp [t_lw_moves] at h ⊢; exact h)
theorem T_lw_moves : Tf (τ := (List Int) × (List (Int × Int)) × Unit) (fun t => [eC t.1, (eL false (e2 eI eI)) t.2.1]) (eL true (e4 (e2 eI eI) eI eS (e2 eI eI))) F_lw_moves (fun t => t_lw_moves t.1 t.2.1) := fun t r h => ⟨_, L_lw_moves t.1 t.2.1 h⟩
theorem L_lw_ends  (cell : Int) (nodes_here : (List (Int × Int))) {r : (List (Int × Int))} (h : t_lw_ends cell nodes_here = some r) : F_lw_ends [eI cell, (eL false (e2 eI eI)) nodes_here] = some ((eL true (e2 eI eI)) r, (fun _ => [eI cell, (eL false (e2 eI eI)) nodes_here]) r) := by
  have hb : Bk (Qf (eL true (e2 eI eI)) [true, true] (fun _ => [eI cell, (eL false (e2 eI eI)) nodes_here])) m_lw_ends [eI cell, (eL false (e2 eI eI)) nodes_here, .gone, .gone] _ := (b_asg (fun (ends_here : (List (Int × Int))) => [eI cell, (eL false (e2 eI eI)) nodes_here, (eL true (e2 eI eI)) ends_here, .gone]) (eg_f (x_lst (f := (eL true (e2 eI eI))) (fun t : Unit => ([] : (List (Int × Int)))) ea_nil (fun _ => rfl) (fun _ => (by decide : 0 ≤ LIM)))) (fun _ => rfl) (fun (ends_here : (List (Int × Int))) => (b_for (fun (s1_ : (List (Int × Int))) => [eI cell, (eL false (e2 eI eI)) nodes_here, (eL true (e2 eI eI)) s1_, .gone]) ends_here (fun (s1_ : (List (Int × Int))) (k : Int) => [eI cell, (eL false (e2 eI eI)) nodes_here, (eL true (e2 eI eI)) s1_, eI k]) (ei_rng1 (x_a1 o1_lenL (x_v (eL false (e2 eI eI)) nodes_here rfl))) rfl (fun _ _ => rfl) (fun (s1_ : (List (Int × Int))) (k : Int) => (b_join (fun (s4_ : (List (Int × Int))) => [eI cell, (eL false (e2 eI eI)) nodes_here, (eL true (e2 eI eI)) s4_, eI k]) (et_b (x_m2 (o2_eq (e' := eI) (by decide)) (x_modP 3 (by decide) (x_call T_lw_mix (ea_cons (x_v eI cell rfl) (ea_cons (x_m2 o2_addI (x_k eI (11) rfl) (x_v eI k rfl)) ea_nil))) (x_k eI (3) rfl)) (x_k eI (0) rfl))) (b_expr (eg_app (a := (e2 eI eI)) (xs := s1_) (env := fun r_ => [eI cell, (eL false (e2 eI eI)) nodes_here, (eL true (e2 eI eI)) r_, eI k]) rfl (x_fr (x_m2 o2_ixL (x_v (eL false (e2 eI eI)) nodes_here rfl) (x_v eI k rfl))) (fun _ => rfl)) (fun (u6_ : (List (Int × Int))) => (b_nil (t := u6_) ⟨rfl, rfl⟩))) (b_nil (t := s1_) ⟨rfl, rfl⟩) (fun (s4_ : (List (Int × Int))) => (b_nil (t := s4_) ⟨rfl, rfl⟩)))) (fun (s1_ : (List (Int × Int))) => (b_join (fun (s9_ : (List (Int × Int))) => [eI cell, (eL false (e2 eI eI)) nodes_here, (eL true (e2 eI eI)) s9_, .gone]) (et_and (et_b (x_m2 o2_gtI (x_modP 4 (by decide) (x_v eI cell rfl) (x_k eI (4) rfl)) (x_k eI (0) rfl))) (et_b (x_m2 (o2_ninL (e := (e2 eI eI)) (by decide)) (x_m2 o2_ixL (x_v (eL false (e2 eI eI)) nodes_here rfl) (x_m1 o1_neg (x_k eI (1) rfl))) (x_v (eL true (e2 eI eI)) s1_ rfl)))) (b_expr (eg_app (a := (e2 eI eI)) (xs := s1_) (env := fun r_ => [eI cell, (eL false (e2 eI eI)) nodes_here, (eL true (e2 eI eI)) r_, .gone]) rfl (x_fr (x_m2 o2_ixL (x_v (eL false (e2 eI eI)) nodes_here rfl) (x_m1 o1_neg (x_k eI (1) rfl)))) (fun _ => rfl)) (fun (u11_ : (List (Int × Int))) => (b_nil (t := u11_) ⟨rfl, rfl⟩))) (b_nil (t := s1_) ⟨rfl, rfl⟩) (fun (s9_ : (List (Int × Int))) => (b_ret (k := fun (u12_ : (List (Int × Int))) => u12_) (eg_mv (eL true (e2 eI eI)) s9_ [eI cell, (eL false (e2 eI eI)) nodes_here, .gone, .gone] rfl rfl) (fun u12_ => ⟨.inl rfl, rfl⟩))))))))
  refine run_T (n := 4) (kp := [true, true]) (m := m_lw_ends) (ds := [eI cell, (eL false (e2 eI eI)) nodes_here]) rfl hb ?_
  first
    | (simp -implicitDefEqProofs only [t_lw_ends, Option.bind_assoc, Option.bind_some, bind_same] at h ⊢; exact h)
    | (simp -implicitDefEqProofs only [t_lw_ends, Option.bind_assoc, Option.bind_some, bind_same] at h; exact h)
    | exact h
    | (simp [t_lw_ends] at h ⊢; exact h)
theorem T_lw_ends : Tf (τ := Int × (List (Int × Int)) × Unit) (fun t => [eI t.1, (eL false (e2 eI eI)) t.2.1]) (eL true (e2 eI eI)) F_lw_ends (fun t => t_lw_ends t.1 t.2.1) := fun t r h => ⟨_, L_lw_ends t.1 t.2.1 h⟩
theorem L_lw_walked  (moves_here : (List ((Int × Int) × Int × Ts × (Int × Int)))) (ends_here : (List (Int × Int))) (names : (List Ts)) {r : (Option Int)} (h : t_lw_walked moves_here ends_here names = some r) : F_lw_walked [(eL false (e4 (e2 eI eI) eI eS (e2 eI eI))) moves_here, (eL false (e2 eI eI)) ends_here, (eL false eS) names] = some ((eO eI) r, (fun _ => [(eL false (e4 (e2 eI eI) eI eS (e2 eI eI))) moves_here, (eL false (e2 eI eI)) ends_here, (eL false eS) names]) r) := by
  have hb : Bk (Qf (eO eI) [true, true, true] (fun _ => [(eL false (e4 (e2 eI eI) eI eS (e2 eI eI))) moves_here, (eL false (e2 eI eI)) ends_here, (eL false eS) names])) m_lw_walked [(eL false (e4 (e2 eI eI) eI eS (e2 eI eI))) moves_here, (eL false (e2 eI eI)) ends_here, (eL false eS) names, .gone, .gone, .gone, .gone, .gone] _ := (b_asg (fun (node : (Int × Int)) => [(eL false (e4 (e2 eI eI) eI eS (e2 eI eI))) moves_here, (eL false (e2 eI eI)) ends_here, (eL false eS) names, (e2 eI eI) node, .gone, .gone, .gone, .gone]) (eg_f (x_tup (f := (e2 eI eI)) (fun t : Int × Int × Unit => (t.1, t.2.1)) (ea_cons (x_k eI (0) rfl) (ea_cons (x_k eI (0) rfl) ea_nil)) (fun _ => rfl) (fun _ => (by decide : 2 ≤ LIM)))) (fun _ => rfl) (fun (node : (Int × Int)) => (b_asg (fun (total : Int) => [(eL false (e4 (e2 eI eI) eI eS (e2 eI eI))) moves_here, (eL false (e2 eI eI)) ends_here, (eL false eS) names, (e2 eI eI) node, eI total, .gone, .gone, .gone]) (eg_f (x_k eI (0) rfl)) (fun _ => rfl) (fun (total : Int) => (b_forR (fun (s1_ : ((Int × Int) × Int)) => [(eL false (e4 (e2 eI eI) eI eS (e2 eI eI))) moves_here, (eL false (e2 eI eI)) ends_here, (eL false eS) names, (e2 eI eI) s1_.1, eI s1_.2, .gone, .gone, .gone]) (node, total) (fun (s1_ : ((Int × Int) × Int)) (name : Ts) => [(eL false (e4 (e2 eI eI) eI eS (e2 eI eI))) moves_here, (eL false (e2 eI eI)) ends_here, (eL false eS) names, (e2 eI eI) s1_.1, eI s1_.2, eS name, .gone, .gone]) (ei_it (x_v (eL false eS) names rfl)) rfl (fun _ _ => rfl) (fun (s1_ : ((Int × Int) × Int)) (name : Ts) => (b_asgC (fun (here : (List ((Int × Int) × Int × Ts × (Int × Int)))) => [(eL false (e4 (e2 eI eI) eI eS (e2 eI eI))) moves_here, (eL false (e2 eI eI)) ends_here, (eL false eS) names, (e2 eI eI) s1_.1, eI s1_.2, eS name, (eL false (e4 (e2 eI eI) eI eS (e2 eI eI))) here, .gone]) (eg_f (x_comp (fun (move : ((Int × Int) × Int × Ts × (Int × Int))) => [(eL false (e4 (e2 eI eI) eI eS (e2 eI eI))) moves_here, (eL false (e2 eI eI)) ends_here, (eL false eS) names, (e2 eI eI) s1_.1, eI s1_.2, eS name, .gone, (e4 (e2 eI eI) eI eS (e2 eI eI)) move]) (ei_itV (x_v (eL false (e4 (e2 eI eI) eI eS (e2 eI eI))) moves_here rfl)) (fun _ => rfl) (fun (move : ((Int × Int) × Int × Ts × (Int × Int))) => (et_andT (et_b (x_m2 (o2_eq (e' := (e2 eI eI)) (by decide)) (x_pr (f := (e2 eI eI)) 0 (fun t : ((Int × Int) × Int × Ts × (Int × Int)) => t.1) (fun _ => rfl) (x_v (e4 (e2 eI eI) eI eS (e2 eI eI)) move rfl)) (x_v (e2 eI eI) s1_.1 rfl))) (et_b (x_m2 (o2_eq (e' := eS) (by decide)) (x_pr (f := eS) 2 (fun t : ((Int × Int) × Int × Ts × (Int × Int)) => t.2.2.1) (fun _ => rfl) (x_v (e4 (e2 eI eI) eI eS (e2 eI eI)) move rfl)) (x_v eS name rfl))))) (fun (move : ((Int × Int) × Int × Ts × (Int × Int))) => (x_v (e4 (e2 eI eI) eI eS (e2 eI eI)) move rfl)))) (fun _ => rfl) (fun _ => rfl) (fun (here : (List ((Int × Int) × Int × Ts × (Int × Int)))) => (b_ifT (et_b (x_m2 (o2_eq (e' := (eL false (e4 (e2 eI eI) eI eS (e2 eI eI)))) (by decide)) (x_v (eL false (e4 (e2 eI eI) eI eS (e2 eI eI))) here rfl) (x_lst (f := (eL true (e4 (e2 eI eI) eI eS (e2 eI eI)))) (fun t : Unit => ([] : (List ((Int × Int) × Int × Ts × (Int × Int))))) ea_nil (fun _ => rfl) (fun _ => (by decide : 0 ≤ LIM))))) (b_ret (k := fun (u3_ : (Option Int)) => (.rt u3_ : (St ((Int × Int) × Int) (Option Int)))) (eg_f (x_map (e := eU) (f := (eO eI)) (fun _ => none) (fun _ => rfl) (x_k eU () rfl))) (fun u3_ => ⟨rfl, ⟨rfl, ⟨.inl rfl, rfl⟩⟩⟩)) (b_asg (fun (total : Int) => [(eL false (e4 (e2 eI eI) eI eS (e2 eI eI))) moves_here, (eL false (e2 eI eI)) ends_here, (eL false eS) names, (e2 eI eI) s1_.1, eI total, eS name, (eL false (e4 (e2 eI eI) eI eS (e2 eI eI))) here, .gone]) (eg_f (x_m2 o2_addI (x_v eI s1_.2 rfl) (x_pr (f := eI) 1 (fun t : ((Int × Int) × Int × Ts × (Int × Int)) => t.2.1) (fun _ => rfl) (x_m2 o2_ixL (x_v (eL false (e4 (e2 eI eI) eI eS (e2 eI eI))) here rfl) (x_k eI (0) rfl))))) (fun _ => rfl) (fun (total : Int) => (b_asg (fun (node : (Int × Int)) => [(eL false (e4 (e2 eI eI) eI eS (e2 eI eI))) moves_here, (eL false (e2 eI eI)) ends_here, (eL false eS) names, (e2 eI eI) node, eI total, eS name, (eL false (e4 (e2 eI eI) eI eS (e2 eI eI))) here, .gone]) (eg_r (x_pr (f := (e2 eI eI)) 3 (fun t : ((Int × Int) × Int × Ts × (Int × Int)) => t.2.2.2) (fun _ => rfl) (x_m2 o2_ixL (x_v (eL false (e4 (e2 eI eI) eI eS (e2 eI eI))) here rfl) (x_k eI (0) rfl)))) (fun _ => rfl) (fun (node : (Int × Int)) => (b_nil (t := (.nx (node, total) : (St ((Int × Int) × Int) (Option Int)))) ⟨rfl, rfl⟩))))))))) (fun (s1_ : ((Int × Int) × Int)) => (b_ifT (et_b (x_m2 (o2_ninL (e := (e2 eI eI)) (by decide)) (x_v (e2 eI eI) s1_.1 rfl) (x_v (eL false (e2 eI eI)) ends_here rfl))) (b_ret (k := fun (u7_ : (Option Int)) => u7_) (eg_f (x_map (e := eU) (f := (eO eI)) (fun _ => none) (fun _ => rfl) (x_k eU () rfl))) (fun u7_ => ⟨rfl, ⟨.inl rfl, rfl⟩⟩)) (b_ret (k := fun (u8_ : (Option Int)) => u8_) (eg_r (x_map (e := eI) (f := (eO eI)) some (fun _ => rfl) (x_v eI s1_.2 rfl))) (fun u8_ => ⟨.inl rfl, rfl⟩)))))))))
  refine run_T (n := 8) (kp := [true, true, true]) (m := m_lw_walked) (ds := [(eL false (e4 (e2 eI eI) eI eS (e2 eI eI))) moves_here, (eL false (e2 eI eI)) ends_here, (eL false eS) names]) rfl hb ?_
  first
    | (simp -implicitDefEqProofs only [t_lw_walked, Option.bind_assoc, Option.bind_some, bind_same] at h ⊢; exact h)
    | (simp -implicitDefEqProofs only [t_lw_walked, Option.bind_assoc, Option.bind_some, bind_same] at h; exact h)
    | exact h
    | (simp [t_lw_walked] at h ⊢; exact h)
theorem T_lw_walked : Tf (τ := (List ((Int × Int) × Int × Ts × (Int × Int))) × (List (Int × Int)) × (List Ts) × Unit) (fun t => [(eL false (e4 (e2 eI eI) eI eS (e2 eI eI))) t.1, (eL false (e2 eI eI)) t.2.1, (eL false eS) t.2.2.1]) (eO eI) F_lw_walked (fun t => t_lw_walked t.1 t.2.1 t.2.2.1) := fun t r h => ⟨_, L_lw_walked t.1 t.2.1 t.2.2.1 h⟩
theorem L_lw_row  (script : (List Int)) (moves_here : (List ((Int × Int) × Int × Ts × (Int × Int)))) {r : (List Ts)} (h : t_lw_row_b script moves_here = some r) : F_lw_row [eC script, (eL false (e4 (e2 eI eI) eI eS (e2 eI eI))) moves_here] = some ((eL true eS) r, (fun _ => [eC script, (eL false (e4 (e2 eI eI) eI eS (e2 eI eI))) moves_here]) r) := by
  have hb : Bk (Qf (eL true eS) [true, true] (fun _ => [eC script, (eL false (e4 (e2 eI eI) eI eS (e2 eI eI))) moves_here])) m_lw_row [eC script, (eL false (e4 (e2 eI eI) eI eS (e2 eI eI))) moves_here, .gone, .gone, .gone, .gone, .gone] _ := (b_asg (fun (node : (Int × Int)) => [eC script, (eL false (e4 (e2 eI eI) eI eS (e2 eI eI))) moves_here, (e2 eI eI) node, .gone, .gone, .gone, .gone]) (eg_f (x_tup (f := (e2 eI eI)) (fun t : Int × Int × Unit => (t.1, t.2.1)) (ea_cons (x_k eI (0) rfl) (ea_cons (x_k eI (0) rfl) ea_nil)) (fun _ => rfl) (fun _ => (by decide : 2 ≤ LIM)))) (fun _ => rfl) (fun (node : (Int × Int)) => (b_asg (fun (names : (List Ts)) => [eC script, (eL false (e4 (e2 eI eI) eI eS (e2 eI eI))) moves_here, (e2 eI eI) node, (eL true eS) names, .gone, .gone, .gone]) (eg_f (x_lst (f := (eL true eS)) (fun t : Unit => ([] : (List Ts))) ea_nil (fun _ => rfl) (fun _ => (by decide : 0 ≤ LIM)))) (fun _ => rfl) (fun (names : (List Ts)) => (b_for (fun (s1_ : ((Int × Int) × (List Ts))) => [eC script, (eL false (e4 (e2 eI eI) eI eS (e2 eI eI))) moves_here, (e2 eI eI) s1_.1, (eL true eS) s1_.2, .gone, .gone, .gone]) (node, names) (fun (s1_ : ((Int × Int) × (List Ts))) (cell : Int) => [eC script, (eL false (e4 (e2 eI eI) eI eS (e2 eI eI))) moves_here, (e2 eI eI) s1_.1, (eL true eS) s1_.2, eI cell, .gone, .gone]) (ei_it (x_cold (x_sl (x_v eC script rfl) (eo_so (x_k eI (43) rfl)) (eo_so (x_k eI (61) rfl))))) rfl (fun _ _ => rfl) (fun (s1_ : ((Int × Int) × (List Ts))) (cell : Int) => (b_asgC (fun (here : (List ((Int × Int) × Int × Ts × (Int × Int)))) => [eC script, (eL false (e4 (e2 eI eI) eI eS (e2 eI eI))) moves_here, (e2 eI eI) s1_.1, (eL true eS) s1_.2, eI cell, (eL false (e4 (e2 eI eI) eI eS (e2 eI eI))) here, .gone]) (eg_f (x_comp (fun (move : ((Int × Int) × Int × Ts × (Int × Int))) => [eC script, (eL false (e4 (e2 eI eI) eI eS (e2 eI eI))) moves_here, (e2 eI eI) s1_.1, (eL true eS) s1_.2, eI cell, .gone, (e4 (e2 eI eI) eI eS (e2 eI eI)) move]) (ei_itV (x_v (eL false (e4 (e2 eI eI) eI eS (e2 eI eI))) moves_here rfl)) (fun _ => rfl) (fun (move : ((Int × Int) × Int × Ts × (Int × Int))) => (et_b (x_m2 (o2_eq (e' := (e2 eI eI)) (by decide)) (x_pr (f := (e2 eI eI)) 0 (fun t : ((Int × Int) × Int × Ts × (Int × Int)) => t.1) (fun _ => rfl) (x_v (e4 (e2 eI eI) eI eS (e2 eI eI)) move rfl)) (x_v (e2 eI eI) s1_.1 rfl)))) (fun (move : ((Int × Int) × Int × Ts × (Int × Int))) => (x_v (e4 (e2 eI eI) eI eS (e2 eI eI)) move rfl)))) (fun _ => rfl) (fun _ => rfl) (fun (here : (List ((Int × Int) × Int × Ts × (Int × Int)))) => (b_join (fun (s3_ : ((Int × Int) × (List Ts))) => [eC script, (eL false (e4 (e2 eI eI) eI eS (e2 eI eI))) moves_here, (e2 eI eI) s3_.1, (eL true eS) s3_.2, eI cell, (eL false (e4 (e2 eI eI) eI eS (e2 eI eI))) here, .gone]) (et_b (x_m2 (o2_ne (e' := (eL false (e4 (e2 eI eI) eI eS (e2 eI eI)))) (by decide)) (x_v (eL false (e4 (e2 eI eI) eI eS (e2 eI eI))) here rfl) (x_lst (f := (eL true (e4 (e2 eI eI) eI eS (e2 eI eI)))) (fun t : Unit => ([] : (List ((Int × Int) × Int × Ts × (Int × Int))))) ea_nil (fun _ => rfl) (fun _ => (by decide : 0 ≤ LIM))))) (b_asg (fun (move : ((Int × Int) × Int × Ts × (Int × Int))) => [eC script, (eL false (e4 (e2 eI eI) eI eS (e2 eI eI))) moves_here, (e2 eI eI) s1_.1, (eL true eS) s1_.2, eI cell, (eL false (e4 (e2 eI eI) eI eS (e2 eI eI))) here, (e4 (e2 eI eI) eI eS (e2 eI eI)) move]) (eg_r (x_m2 o2_ixL (x_v (eL false (e4 (e2 eI eI) eI eS (e2 eI eI))) here rfl) (x_m2 o2_mod (x_call T_lw_mix (ea_cons (x_v eI cell rfl) (ea_cons (x_k eI (1) rfl) ea_nil))) (x_a1 o1_lenL (x_v (eL false (e4 (e2 eI eI) eI eS (e2 eI eI))) here rfl))))) (fun _ => rfl) (fun (move : ((Int × Int) × Int × Ts × (Int × Int))) => (b_expr (eg_app (a := eS) (xs := s1_.2) (env := fun r_ => [eC script, (eL false (e4 (e2 eI eI) eI eS (e2 eI eI))) moves_here, (e2 eI eI) s1_.1, (eL true eS) r_, eI cell, (eL false (e4 (e2 eI eI) eI eS (e2 eI eI))) here, (e4 (e2 eI eI) eI eS (e2 eI eI)) move]) rfl (x_fr (x_pr (f := eS) 2 (fun t : ((Int × Int) × Int × Ts × (Int × Int)) => t.2.2.1) (fun _ => rfl) (x_v (e4 (e2 eI eI) eI eS (e2 eI eI)) move rfl))) (fun _ => rfl)) (fun (u6_ : (List Ts)) => (b_asg (fun (node : (Int × Int)) => [eC script, (eL false (e4 (e2 eI eI) eI eS (e2 eI eI))) moves_here, (e2 eI eI) node, (eL true eS) u6_, eI cell, (eL false (e4 (e2 eI eI) eI eS (e2 eI eI))) here, (e4 (e2 eI eI) eI eS (e2 eI eI)) move]) (eg_r (x_pr (f := (e2 eI eI)) 3 (fun t : ((Int × Int) × Int × Ts × (Int × Int)) => t.2.2.2) (fun _ => rfl) (x_v (e4 (e2 eI eI) eI eS (e2 eI eI)) move rfl))) (fun _ => rfl) (fun (node : (Int × Int)) => (b_nil (t := (node, u6_)) ⟨rfl, rfl⟩))))))) (b_nil (t := (s1_.1, s1_.2)) ⟨rfl, rfl⟩) (fun (s3_ : ((Int × Int) × (List Ts))) => (b_nil (t := (s3_.1, s3_.2)) ⟨rfl, rfl⟩)))))) (fun (s1_ : ((Int × Int) × (List Ts))) => (b_ret (k := fun (u7_ : (List Ts)) => u7_) (eg_mv (eL true eS) s1_.2 [eC script, (eL false (e4 (e2 eI eI) eI eS (e2 eI eI))) moves_here, (e2 eI eI) s1_.1, .gone, .gone, .gone, .gone] rfl rfl) (fun u7_ => ⟨.inl rfl, rfl⟩))))))))
  refine run_T (n := 7) (kp := [true, true]) (m := m_lw_row) (ds := [eC script, (eL false (e4 (e2 eI eI) eI eS (e2 eI eI))) moves_here]) rfl hb ?_
  first
    | (simp -implicitDefEqProofs only [t_lw_row_b, Option.bind_assoc, Option.bind_some, bind_same] at h ⊢; exact h)
    | (simp -implicitDefEqProofs only [t_lw_row_b, Option.bind_assoc, Option.bind_some, bind_same] at h; exact h)
    | exact h
    | (simp [t_lw_row_b] at h ⊢; exact h)
theorem T_lw_row : Tf (τ := (List Int) × (List ((Int × Int) × Int × Ts × (Int × Int))) × Unit) (fun t => [eC t.1, (eL false (e4 (e2 eI eI) eI eS (e2 eI eI))) t.2.1]) (eL true eS) F_lw_row (fun t => t_lw_row_b t.1 t.2.1) := fun t r h => ⟨_, L_lw_row t.1 t.2.1 h⟩
theorem L_lw_spoilt  (names : (List Ts)) (cell : Int) (k : Int) {r : (List Ts)} (h : t_lw_spoilt names cell k = some r) : F_lw_spoilt [(eL false eS) names, eI cell, eI k] = some ((eL true eS) r, (fun _ => [(eL false eS) names, eI cell, eI k]) r) := by
  have hb : Bk (Qf (eL true eS) [true, true, true] (fun _ => [(eL false eS) names, eI cell, eI k])) m_lw_spoilt [(eL false eS) names, eI cell, eI k, .gone, .gone, .gone] _ := (b_asg (fun (at_ : Int) => [(eL false eS) names, eI cell, eI k, eI at_, .gone, .gone]) (eg_f (x_m2 o2_mod (x_call T_lw_mix (ea_cons (x_v eI cell rfl) (ea_cons (x_v eI k rfl) ea_nil))) (x_m2 o2_addI (x_a1 o1_lenL (x_v (eL false eS) names rfl)) (x_k eI (1) rfl)))) (fun _ => rfl) (fun (at_ : Int) => (b_asg (fun (way : Int) => [(eL false eS) names, eI cell, eI k, eI at_, eI way, .gone]) (eg_f (x_modP 4 (by decide) (x_call T_lw_mix (ea_cons (x_v eI cell rfl) (ea_cons (x_m2 o2_addI (x_v eI k rfl) (x_k eI (1) rfl)) ea_nil))) (x_k eI (4) rfl))) (fun _ => rfl) (fun (way : Int) => (b_asg (fun (word : Ts) => [(eL false eS) names, eI cell, eI k, eI at_, eI way, eS word]) (eg_f (x_m2 o2_repS (x_m2 o2_ixS (x_k eS ['a', 'b'] rfl) (x_modP 2 (by decide) (x_call T_lw_mix (ea_cons (x_v eI cell rfl) (ea_cons (x_m2 o2_addI (x_v eI k rfl) (x_k eI (2) rfl)) ea_nil))) (x_k eI (2) rfl))) (x_m2 o2_addI (x_k eI (1) rfl) (x_modP 3 (by decide) (x_call T_lw_mix (ea_cons (x_v eI cell rfl) (ea_cons (x_m2 o2_addI (x_v eI k rfl) (x_k eI (3) rfl)) ea_nil))) (x_k eI (3) rfl))))) (fun _ => rfl) (fun (word : Ts) => (b_ifT (et_b (x_m2 (o2_eq (e' := eI) (by decide)) (x_v eI way rfl) (x_k eI (0) rfl))) (b_retI (eg_f (x_m2 o2_catL (x_sl (x_v (eL false eS) names rfl) eo_no (eo_so (x_v eI at_ rfl))) (x_sl (x_v (eL false eS) names rfl) (eo_so (x_m2 o2_addI (x_v eI at_ rfl) (x_k eI (1) rfl))) eo_no))) (fun u9_ => ⟨rfl, ⟨.inl rfl, rfl⟩⟩)) (b_ifT (et_b (x_m2 (o2_eq (e' := eI) (by decide)) (x_v eI way rfl) (x_k eI (1) rfl))) (b_retI (eg_f (x_m2 o2_catL (x_m2 o2_catL (x_sl (x_v (eL false eS) names rfl) eo_no (eo_so (x_v eI at_ rfl))) (x_lst (f := (eL true eS)) (fun t : Ts × Unit => ([t.1] : (List Ts))) (ea_cons (x_v eS word rfl) ea_nil) (fun _ => rfl) (fun _ => (by decide : 1 ≤ LIM)))) (x_sl (x_v (eL false eS) names rfl) (eo_so (x_v eI at_ rfl)) eo_no))) (fun u11_ => ⟨rfl, ⟨.inl rfl, rfl⟩⟩)) (b_ifT (et_b (x_m2 (o2_eq (e' := eI) (by decide)) (x_v eI way rfl) (x_k eI (2) rfl))) (b_retI (eg_f (x_m2 o2_catL (x_m2 o2_catL (x_sl (x_v (eL false eS) names rfl) eo_no (eo_so (x_v eI at_ rfl))) (x_lst (f := (eL true eS)) (fun t : Ts × Unit => ([t.1] : (List Ts))) (ea_cons (x_v eS word rfl) ea_nil) (fun _ => rfl) (fun _ => (by decide : 1 ≤ LIM)))) (x_sl (x_v (eL false eS) names rfl) (eo_so (x_m2 o2_addI (x_v eI at_ rfl) (x_k eI (1) rfl))) eo_no))) (fun u13_ => ⟨rfl, ⟨.inl rfl, rfl⟩⟩)) (b_retI (eg_f (x_m2 o2_catL (x_m2 o2_catL (x_sl (x_v (eL false eS) names rfl) eo_no (eo_so (x_v eI at_ rfl))) (x_lst (f := (eL true eS)) (fun t : Ts × Unit => ([t.1] : (List Ts))) (ea_cons (x_k eS ['n', 'o', 't', 'h', 'i', 'n', 'g'] rfl) ea_nil) (fun _ => rfl) (fun _ => (by decide : 1 ≤ LIM)))) (x_sl (x_v (eL false eS) names rfl) (eo_so (x_v eI at_ rfl)) eo_no))) (fun u15_ => ⟨.inl rfl, rfl⟩)))))))))))
  refine run_T (n := 6) (kp := [true, true, true]) (m := m_lw_spoilt) (ds := [(eL false eS) names, eI cell, eI k]) rfl hb ?_
  first
    | (simp -implicitDefEqProofs only [t_lw_spoilt, Option.bind_assoc, Option.bind_some, bind_same] at h ⊢; exact h)
    | (simp -implicitDefEqProofs only [t_lw_spoilt, Option.bind_assoc, Option.bind_some, bind_same] at h; exact h)
    | exact h
    | (simp [t_lw_spoilt] at h ⊢; exact h)
theorem T_lw_spoilt : Tf (τ := (List Ts) × Int × Int × Unit) (fun t => [(eL false eS) t.1, eI t.2.1, eI t.2.2.1]) (eL true eS) F_lw_spoilt (fun t => t_lw_spoilt t.1 t.2.1 t.2.2.1) := fun t r h => ⟨_, L_lw_spoilt t.1 t.2.1 t.2.2.1 h⟩
theorem L_lw_told  (trail : OListed) (moves_here : (List ((Int × Int) × Int × Ts × (Int × Int)))) (ends_here : (List (Int × Int))) (names : (List Ts)) {r : Bool} (h : t_lw_told_d trail moves_here ends_here names = some r) : F_lw_told [(e_Listed false) trail, (eL false (e4 (e2 eI eI) eI eS (e2 eI eI))) moves_here, (eL false (e2 eI eI)) ends_here, (eL false eS) names] = some (eB r, (fun _ => [(e_Listed false) trail, (eL false (e4 (e2 eI eI) eI eS (e2 eI eI))) moves_here, (eL false (e2 eI eI)) ends_here, (eL false eS) names]) r) := by
  have hb : Bk (Qf eB [true, true, true, true] (fun _ => [(e_Listed false) trail, (eL false (e4 (e2 eI eI) eI eS (e2 eI eI))) moves_here, (eL false (e2 eI eI)) ends_here, (eL false eS) names])) m_lw_told [(e_Listed false) trail, (eL false (e4 (e2 eI eI) eI eS (e2 eI eI))) moves_here, (eL false (e2 eI eI)) ends_here, (eL false eS) names, .gone, .gone, .gone] _ := (b_asg (fun (handed : (List Ts)) => [(e_Listed false) trail, (eL false (e4 (e2 eI eI) eI eS (e2 eI eI))) moves_here, (eL false (e2 eI eI)) ends_here, (eL false eS) names, (eL false eS) handed, .gone, .gone]) (eg_f (x_cold (x_a1 o1_listL (x_v (eL false eS) names rfl)))) (fun _ => rfl) (fun (handed : (List Ts)) => (b_asg (fun (found : (Option Int)) => [(e_Listed false) trail, (eL false (e4 (e2 eI eI) eI eS (e2 eI eI))) moves_here, (eL false (e2 eI eI)) ends_here, (eL false eS) names, (eL false eS) handed, (eO eI) found, .gone]) (eg_f (x_call T_walked (ea_cons (x_v (e_Listed false) trail rfl) (ea_cons (x_v (eL false eS) handed rfl) ea_nil)))) (fun _ => rfl) (fun (found : (Option Int)) => (b_asg (fun (due : (Option Int)) => [(e_Listed false) trail, (eL false (e4 (e2 eI eI) eI eS (e2 eI eI))) moves_here, (eL false (e2 eI eI)) ends_here, (eL false eS) names, (eL false eS) handed, (eO eI) found, (eO eI) due]) (eg_f (x_call T_lw_walked (ea_cons (x_v (eL false (e4 (e2 eI eI) eI eS (e2 eI eI))) moves_here rfl) (ea_cons (x_v (eL false (e2 eI eI)) ends_here rfl) (ea_cons (x_v (eL false eS) names rfl) ea_nil))))) (fun _ => rfl) (fun (due : (Option Int)) => (b_ifT (et_b (x_m2 (o2_ne (e' := (eL false eS)) (by decide)) (x_v (eL false eS) handed rfl) (x_v (eL false eS) names rfl))) (b_ret (k := fun (u1_ : Bool) => u1_) (eg_f (x_k eB false rfl)) (fun u1_ => ⟨rfl, ⟨.inl rfl, rfl⟩⟩)) (b_ifT (et_b (x_m2 o2_isN (x_v (eO eI) due rfl) (x_k eU () rfl))) (b_ret (k := fun (u2_ : Bool) => u2_) (eg_f (x_m2 o2_isN (x_v (eO eI) found rfl) (x_k eU () rfl))) (fun u2_ => ⟨rfl, ⟨.inl rfl, rfl⟩⟩)) (b_retI (eg_f (x_and (x_call T_lw_whole (ea_cons (x_v (eO eI) found rfl) ea_nil)) (x_m2 (o2_eq (e' := (eO eI)) (by decide)) (x_v (eO eI) found rfl) (x_v (eO eI) due rfl)))) (fun u4_ => ⟨.inl rfl, rfl⟩))))))))))
  refine run_T (n := 7) (kp := [true, true, true, true]) (m := m_lw_told) (ds := [(e_Listed false) trail, (eL false (e4 (e2 eI eI) eI eS (e2 eI eI))) moves_here, (eL false (e2 eI eI)) ends_here, (eL false eS) names]) rfl hb ?_
  first
    | (simp -implicitDefEqProofs only [t_lw_told_d, Option.bind_assoc, Option.bind_some, bind_same] at h ⊢; exact h)
    | (simp -implicitDefEqProofs only [t_lw_told_d, Option.bind_assoc, Option.bind_some, bind_same] at h; exact h)
    | exact h
    | (simp [t_lw_told_d] at h ⊢; exact h)
theorem T_lw_told : Tf (τ := OListed × (List ((Int × Int) × Int × Ts × (Int × Int))) × (List (Int × Int)) × (List Ts) × Unit) (fun t => [(e_Listed false) t.1, (eL false (e4 (e2 eI eI) eI eS (e2 eI eI))) t.2.1, (eL false (e2 eI eI)) t.2.2.1, (eL false eS) t.2.2.2.1]) eB F_lw_told (fun t => t_lw_told_d t.1 t.2.1 t.2.2.1 t.2.2.2.1) := fun t r h => ⟨_, L_lw_told t.1 t.2.1 t.2.2.1 t.2.2.2.1 h⟩
theorem L_lw_truth  (found : Bool) (due : Bool) {r : Bool} (h : t_lw_truth found due = some r) : F_lw_truth [eB found, eB due] = some (eB r, (fun _ => [eB found, eB due]) r) := by
  have hb : Bk (Qf eB [true, true] (fun _ => [eB found, eB due])) m_lw_truth [eB found, eB due] _ := (b_ret (k := fun (u1_ : Bool) => u1_) (eg_f (x_andT (x_isK kit_bool_bool (x_v eB found rfl)) (x_m2 (o2_eq (e' := eB) (by decide)) (x_v eB found rfl) (x_v eB due rfl)))) (fun u1_ => ⟨.inl rfl, rfl⟩))
  refine run_T (n := 2) (kp := [true, true]) (m := m_lw_truth) (ds := [eB found, eB due]) rfl hb ?_
  first
    | (simp -implicitDefEqProofs only [t_lw_truth, Option.bind_assoc, Option.bind_some, bind_same] at h ⊢; exact h)
    | (simp -implicitDefEqProofs only [t_lw_truth, Option.bind_assoc, Option.bind_some, bind_same] at h; exact h)
    | exact h
    | (simp [t_lw_truth] at h ⊢; exact h)
theorem T_lw_truth : Tf (τ := Bool × Bool × Unit) (fun t => [eB t.1, eB t.2.1]) eB F_lw_truth (fun t => t_lw_truth t.1 t.2.1) := fun t r h => ⟨_, L_lw_truth t.1 t.2.1 h⟩
theorem L_lw_methods  (trail : OListed) (sizes_here : (List Int)) (moves_here : (List ((Int × Int) × Int × Ts × (Int × Int)))) (ends_here : (List (Int × Int))) {r : Bool} (h : t_lw_methods trail sizes_here moves_here ends_here = some r) : F_lw_methods [(e_Listed false) trail, (eL false eI) sizes_here, (eL false (e4 (e2 eI eI) eI eS (e2 eI eI))) moves_here, (eL false (e2 eI eI)) ends_here] = some (eB r, (fun _ => [(e_Listed false) trail, (eL false eI) sizes_here, (eL false (e4 (e2 eI eI) eI eS (e2 eI eI))) moves_here, (eL false (e2 eI eI)) ends_here]) r) := by
  have hb : Bk (Qf eB [true, true, true, true] (fun _ => [(e_Listed false) trail, (eL false eI) sizes_here, (eL false (e4 (e2 eI eI) eI eS (e2 eI eI))) moves_here, (eL false (e2 eI eI)) ends_here])) m_lw_methods [(e_Listed false) trail, (eL false eI) sizes_here, (eL false (e4 (e2 eI eI) eI eS (e2 eI eI))) moves_here, (eL false (e2 eI eI)) ends_here, .gone, .gone, .gone, .gone, .gone, .gone] _ := (b_ifT (et_or (et_b (x_m2 (o2_ne (e' := (e2 eI eI)) (by decide)) (x_look (fun x => rfl) T_Listed_first_node (ev_get (e := (e_Listed false)) (x := trail) rfl) ea_nil) (x_tup (f := (e2 eI eI)) (fun t : Int × Int × Unit => (t.1, t.2.1)) (ea_cons (x_k eI (0) rfl) (ea_cons (x_k eI (0) rfl) ea_nil)) (fun _ => rfl) (fun _ => (by decide : 2 ≤ LIM))))) (et_b (x_m2 (o2_ne (e' := eI) (by decide)) (x_lookF (fun x => rfl) T_Listed_last_at (ev_get (e := (e_Listed false)) (x := trail) rfl) ea_nil) (x_m2 o2_subI (x_a1 o1_lenL (x_v (eL false eI) sizes_here rfl)) (x_k eI (1) rfl))))) (b_ret (k := fun (u4_ : Bool) => u4_) (eg_f (x_k eB false rfl)) (fun u4_ => ⟨rfl, ⟨.inl rfl, rfl⟩⟩)) (b_forR (fun (s5_ : Unit) => [(e_Listed false) trail, (eL false eI) sizes_here, (eL false (e4 (e2 eI eI) eI eS (e2 eI eI))) moves_here, (eL false (e2 eI eI)) ends_here, .gone, .gone, .gone, .gone, .gone, .gone]) () (fun (s5_ : Unit) (at_ : Int) => [(e_Listed false) trail, (eL false eI) sizes_here, (eL false (e4 (e2 eI eI) eI eS (e2 eI eI))) moves_here, (eL false (e2 eI eI)) ends_here, eI at_, .gone, .gone, .gone, .gone, .gone]) (ei_rng1 (x_a1 o1_lenL (x_v (eL false eI) sizes_here rfl))) rfl (fun _ _ => rfl) (fun (s5_ : Unit) (at_ : Int) => (b_asg (fun (told_here : (List (Int × Int))) => [(e_Listed false) trail, (eL false eI) sizes_here, (eL false (e4 (e2 eI eI) eI eS (e2 eI eI))) moves_here, (eL false (e2 eI eI)) ends_here, eI at_, (eL true (e2 eI eI)) told_here, .gone, .gone, .gone, .gone]) (eg_f (x_look (fun x => rfl) T_Listed_nodes_at (ev_get (e := (e_Listed false)) (x := trail) rfl) (ea_cons (x_v eI at_ rfl) ea_nil))) (fun _ => rfl) (fun (told_here : (List (Int × Int))) => (b_ifT (et_or (et_not (et_tru (x_isK kit_list_list (x_v (eL true (e2 eI eI)) told_here rfl)))) (et_b (x_m2 (o2_ne (e' := (eL false (e2 eI eI))) (by decide)) (x_v (eL true (e2 eI eI)) told_here rfl) (x_comp (fun (state : Int) => [(e_Listed false) trail, (eL false eI) sizes_here, (eL false (e4 (e2 eI eI) eI eS (e2 eI eI))) moves_here, (eL false (e2 eI eI)) ends_here, eI at_, (eL true (e2 eI eI)) told_here, .gone, .gone, eI state, .gone]) (ei_rng1 (x_m2 o2_ixL (x_v (eL false eI) sizes_here rfl) (x_v eI at_ rfl))) (fun _ => rfl) (fun (state : Int) => et_yes) (fun (state : Int) => (x_tup (f := (e2 eI eI)) (fun t : Int × Int × Unit => (t.1, t.2.1)) (ea_cons (x_v eI at_ rfl) (ea_cons (x_v eI state rfl) ea_nil)) (fun _ => rfl) (fun _ => (by decide : 2 ≤ LIM)))))))) (b_ret (k := fun (u10_ : Bool) => (.rt u10_ : (St Unit Bool))) (eg_f (x_k eB false rfl)) (fun u10_ => ⟨rfl, ⟨rfl, ⟨.inl rfl, rfl⟩⟩⟩)) (b_forR (fun (s11_ : Unit) => [(e_Listed false) trail, (eL false eI) sizes_here, (eL false (e4 (e2 eI eI) eI eS (e2 eI eI))) moves_here, (eL false (e2 eI eI)) ends_here, eI at_, (eL true (e2 eI eI)) told_here, .gone, .gone, .gone, .gone]) () (fun (s11_ : Unit) (node : (Int × Int)) => [(e_Listed false) trail, (eL false eI) sizes_here, (eL false (e4 (e2 eI eI) eI eS (e2 eI eI))) moves_here, (eL false (e2 eI eI)) ends_here, eI at_, (eL true (e2 eI eI)) told_here, (e2 eI eI) node, .gone, .gone, .gone]) (ei_it (x_cold (x_a1 o1_listL (x_v (eL true (e2 eI eI)) told_here rfl)))) rfl (fun _ _ => rfl) (fun (s11_ : Unit) (node : (Int × Int)) => (b_asg (fun (here : (List (Int × Ts × (Int × Int)))) => [(e_Listed false) trail, (eL false eI) sizes_here, (eL false (e4 (e2 eI eI) eI eS (e2 eI eI))) moves_here, (eL false (e2 eI eI)) ends_here, eI at_, (eL true (e2 eI eI)) told_here, (e2 eI eI) node, (eL true (e3 eI eS (e2 eI eI))) here, .gone, .gone]) (eg_f (x_look (fun x => rfl) T_Listed_moves_from (ev_get (e := (e_Listed false)) (x := trail) rfl) (ea_cons (x_v (e2 eI eI) node rfl) ea_nil))) (fun _ => rfl) (fun (here : (List (Int × Ts × (Int × Int)))) => (b_ifT (et_or (et_not (et_tru (x_isK kit_list_list (x_v (eL true (e3 eI eS (e2 eI eI))) here rfl)))) (et_b (x_m2 (o2_ne (e' := (eL false (e3 eI eS (e2 eI eI)))) (by decide)) (x_v (eL true (e3 eI eS (e2 eI eI))) here rfl) (x_comp (fun (move : ((Int × Int) × Int × Ts × (Int × Int))) => [(e_Listed false) trail, (eL false eI) sizes_here, (eL false (e4 (e2 eI eI) eI eS (e2 eI eI))) moves_here, (eL false (e2 eI eI)) ends_here, eI at_, (eL true (e2 eI eI)) told_here, (e2 eI eI) node, (eL true (e3 eI eS (e2 eI eI))) here, .gone, (e4 (e2 eI eI) eI eS (e2 eI eI)) move]) (ei_itV (x_v (eL false (e4 (e2 eI eI) eI eS (e2 eI eI))) moves_here rfl)) (fun _ => rfl) (fun (move : ((Int × Int) × Int × Ts × (Int × Int))) => (et_b (x_m2 (o2_eq (e' := (e2 eI eI)) (by decide)) (x_pr (f := (e2 eI eI)) 0 (fun t : ((Int × Int) × Int × Ts × (Int × Int)) => t.1) (fun _ => rfl) (x_v (e4 (e2 eI eI) eI eS (e2 eI eI)) move rfl)) (x_v (e2 eI eI) node rfl)))) (fun (move : ((Int × Int) × Int × Ts × (Int × Int))) => (x_slK (f := (e3 eI eS (e2 eI eI))) (some (1)) none (fun t : ((Int × Int) × Int × Ts × (Int × Int)) => (t.2.1, t.2.2.1, t.2.2.2)) (fun _ => rfl) (fun _ => rfl) (x_v (e4 (e2 eI eI) eI eS (e2 eI eI)) move rfl) rfl rfl)))))) (b_ret (k := fun (u14_ : Bool) => (.rt (.rt u14_ : (St Unit Bool)) : (St Unit (St Unit Bool)))) (eg_f (x_k eB false rfl)) (fun u14_ => ⟨rfl, ⟨rfl, ⟨rfl, ⟨.inl rfl, rfl⟩⟩⟩⟩)) (b_ifT (et_not (et_tru (x_call T_lw_truth (ea_cons (x_lookF (fun x => rfl) T_Listed_is_end (ev_get (e := (e_Listed false)) (x := trail) rfl) (ea_cons (x_v (e2 eI eI) node rfl) ea_nil)) (ea_cons (x_m2 (o2_inL (e := (e2 eI eI)) (by decide)) (x_v (e2 eI eI) node rfl) (x_v (eL false (e2 eI eI)) ends_here rfl)) ea_nil))))) (b_ret (k := fun (u17_ : Bool) => (.rt (.rt u17_ : (St Unit Bool)) : (St Unit (St Unit Bool)))) (eg_f (x_k eB false rfl)) (fun u17_ => ⟨rfl, ⟨rfl, ⟨rfl, ⟨.inl rfl, rfl⟩⟩⟩⟩)) (b_expr (eg_app (a := (e3 eI eS (e2 eI eI))) (xs := here) (env := fun r_ => [(e_Listed false) trail, (eL false eI) sizes_here, (eL false (e4 (e2 eI eI) eI eS (e2 eI eI))) moves_here, (eL false (e2 eI eI)) ends_here, eI at_, (eL true (e2 eI eI)) told_here, (e2 eI eI) node, (eL true (e3 eI eS (e2 eI eI))) r_, .gone, .gone]) rfl (x_tup (f := (e3 eI eS (e2 eI eI))) (fun t : Int × Ts × (Int × Int) × Unit => (t.1, t.2.1, t.2.2.1)) (ea_cons (x_k eI (0) rfl) (ea_cons (x_k eS ['z'] rfl) (ea_cons (x_v (e2 eI eI) node rfl) ea_nil))) (fun _ => rfl) (fun _ => (by decide : 3 ≤ LIM))) (fun _ => rfl)) (fun (u18_ : (List (Int × Ts × (Int × Int)))) => (b_nil (t := (.nx () : (St Unit (St Unit Bool)))) ⟨rfl, rfl⟩)))))))) (fun (s11_ : Unit) => (b_expr (eg_app (a := (e2 eI eI)) (xs := told_here) (env := fun r_ => [(e_Listed false) trail, (eL false eI) sizes_here, (eL false (e4 (e2 eI eI) eI eS (e2 eI eI))) moves_here, (eL false (e2 eI eI)) ends_here, eI at_, (eL true (e2 eI eI)) r_, .gone, .gone, .gone, .gone]) rfl (x_tup (f := (e2 eI eI)) (fun t : Int × Int × Unit => (t.1, t.2.1)) (ea_cons (x_v eI at_ rfl) (ea_cons (x_k eI (9) rfl) ea_nil)) (fun _ => rfl) (fun _ => (by decide : 2 ≤ LIM))) (fun _ => rfl)) (fun (u21_ : (List (Int × Int))) => (b_nil (t := (.nx () : (St Unit Bool))) ⟨rfl, rfl⟩))))))))) (fun (s5_ : Unit) => (b_ret (k := fun (u23_ : Bool) => u23_) (eg_f (x_k eB true rfl)) (fun u23_ => ⟨.inl rfl, rfl⟩)))))
  refine run_T (n := 10) (kp := [true, true, true, true]) (m := m_lw_methods) (ds := [(e_Listed false) trail, (eL false eI) sizes_here, (eL false (e4 (e2 eI eI) eI eS (e2 eI eI))) moves_here, (eL false (e2 eI eI)) ends_here]) rfl hb ?_
  first
    | (simp -implicitDefEqProofs only [t_lw_methods, Option.bind_assoc, Option.bind_some, bind_same] at h ⊢; exact h)
    | (simp -implicitDefEqProofs only [t_lw_methods, Option.bind_assoc, Option.bind_some, bind_same] at h; exact h)
    | exact h
    | (simp [t_lw_methods] at h ⊢; exact h)
theorem T_lw_methods : Tf (τ := OListed × (List Int) × (List ((Int × Int) × Int × Ts × (Int × Int))) × (List (Int × Int)) × Unit) (fun t => [(e_Listed false) t.1, (eL false eI) t.2.1, (eL false (e4 (e2 eI eI) eI eS (e2 eI eI))) t.2.2.1, (eL false (e2 eI eI)) t.2.2.2.1]) eB F_lw_methods (fun t => t_lw_methods t.1 t.2.1 t.2.2.1 t.2.2.2.1) := fun t r h => ⟨_, L_lw_methods t.1 t.2.1 t.2.2.1 t.2.2.2.1 h⟩
theorem B_law_b1 (script : (List Int)) (sizes_here : (List Int)) (nodes_here : (List (Int × Int))) (moves_here : (List ((Int × Int) × Int × Ts × (Int × Int)))) (ends_here : (List (Int × Int))) (trail : OListed) (names : (List Ts)) (s5_ : (List (List Ts))) (k : Int) : Bk (Ql [8] (fun (s5_ : (List (List Ts))) => [eC script, (eL false eI) sizes_here, (eL false (e2 eI eI)) nodes_here, (eL false (e4 (e2 eI eI) eI eS (e2 eI eI))) moves_here, (eL false (e2 eI eI)) ends_here, (e_Listed false) trail, (eL false eS) names, (eL true (eL false eS)) s5_, .gone, .gone])) m_law_b1 [eC script, (eL false eI) sizes_here, (eL false (e2 eI eI)) nodes_here, (eL false (e4 (e2 eI eI) eI eS (e2 eI eI))) moves_here, (eL false (e2 eI eI)) ends_here, (e_Listed false) trail, (eL false eS) names, (eL true (eL false eS)) s5_, eI k, .gone] (t_law_b1 names s5_ k) := by
  have hb : Bk (Ql [8] (fun (s5_ : (List (List Ts))) => [eC script, (eL false eI) sizes_here, (eL false (e2 eI eI)) nodes_here, (eL false (e4 (e2 eI eI) eI eS (e2 eI eI))) moves_here, (eL false (e2 eI eI)) ends_here, (e_Listed false) trail, (eL false eS) names, (eL true (eL false eS)) s5_, .gone, .gone])) m_law_b1 [eC script, (eL false eI) sizes_here, (eL false (e2 eI eI)) nodes_here, (eL false (e4 (e2 eI eI) eI eS (e2 eI eI))) moves_here, (eL false (e2 eI eI)) ends_here, (e_Listed false) trail, (eL false eS) names, (eL true (eL false eS)) s5_, eI k, .gone] _ := (b_expr (eg_app (a := (eL false eS)) (xs := s5_) (env := fun r_ => [eC script, (eL false eI) sizes_here, (eL false (e2 eI eI)) nodes_here, (eL false (e4 (e2 eI eI) eI eS (e2 eI eI))) moves_here, (eL false (e2 eI eI)) ends_here, (e_Listed false) trail, (eL false eS) names, (eL true (eL false eS)) r_, eI k, .gone]) rfl (x_cold (x_sl (x_v (eL false eS) names rfl) eo_no (eo_so (x_v eI k rfl)))) (fun _ => rfl)) (fun (u6_ : (List (List Ts))) => (b_nil (t := u6_) ⟨rfl, rfl⟩)))
  refine bk_of hb fun t h => ?_
  first
    | (simp -implicitDefEqProofs only [t_law_b1, Option.bind_assoc, Option.bind_some, bind_same] at h ⊢; exact h)
    | (simp -implicitDefEqProofs only [t_law_b1, Option.bind_assoc, Option.bind_some, bind_same] at h; exact h)
    | exact h
    | (simp [t_law_b1] at h ⊢; exact h)
theorem B_law_b2 (script : (List Int)) (sizes_here : (List Int)) (nodes_here : (List (Int × Int))) (moves_here : (List ((Int × Int) × Int × Ts × (Int × Int)))) (ends_here : (List (Int × Int))) (trail : OListed) (names : (List Ts)) (s7_ : (List (List Ts))) (k : Int) : Bk (Ql [8] (fun (s7_ : (List (List Ts))) => [eC script, (eL false eI) sizes_here, (eL false (e2 eI eI)) nodes_here, (eL false (e4 (e2 eI eI) eI eS (e2 eI eI))) moves_here, (eL false (e2 eI eI)) ends_here, (e_Listed false) trail, (eL false eS) names, (eL true (eL false eS)) s7_, .gone, .gone])) m_law_b2 [eC script, (eL false eI) sizes_here, (eL false (e2 eI eI)) nodes_here, (eL false (e4 (e2 eI eI) eI eS (e2 eI eI))) moves_here, (eL false (e2 eI eI)) ends_here, (e_Listed false) trail, (eL false eS) names, (eL true (eL false eS)) s7_, eI k, .gone] (t_law_b2 script names s7_ k) := by
  have hb : Bk (Ql [8] (fun (s7_ : (List (List Ts))) => [eC script, (eL false eI) sizes_here, (eL false (e2 eI eI)) nodes_here, (eL false (e4 (e2 eI eI) eI eS (e2 eI eI))) moves_here, (eL false (e2 eI eI)) ends_here, (e_Listed false) trail, (eL false eS) names, (eL true (eL false eS)) s7_, .gone, .gone])) m_law_b2 [eC script, (eL false eI) sizes_here, (eL false (e2 eI eI)) nodes_here, (eL false (e4 (e2 eI eI) eI eS (e2 eI eI))) moves_here, (eL false (e2 eI eI)) ends_here, (e_Listed false) trail, (eL false eS) names, (eL true (eL false eS)) s7_, eI k, .gone] _ := (b_expr (eg_app (a := (eL false eS)) (xs := s7_) (env := fun r_ => [eC script, (eL false eI) sizes_here, (eL false (e2 eI eI)) nodes_here, (eL false (e4 (e2 eI eI) eI eS (e2 eI eI))) moves_here, (eL false (e2 eI eI)) ends_here, (e_Listed false) trail, (eL false eS) names, (eL true (eL false eS)) r_, eI k, .gone]) rfl (x_cold (x_call T_lw_spoilt (ea_cons (x_v (eL false eS) names rfl) (ea_cons (x_call T_lw_cell_at (ea_cons (x_v eC script rfl) (ea_cons (x_k eI (2) rfl) ea_nil))) (ea_cons (x_mulK 4 (by decide) (x_v eI k rfl)) ea_nil))))) (fun _ => rfl)) (fun (u11_ : (List (List Ts))) => (b_nil (t := u11_) ⟨rfl, rfl⟩)))
  refine bk_of hb fun t h => ?_
  first
    | (simp -implicitDefEqProofs only [t_law_b2, Option.bind_assoc, Option.bind_some, bind_same] at h ⊢; exact h)
    | (simp -implicitDefEqProofs only [t_law_b2, Option.bind_assoc, Option.bind_some, bind_same] at h; exact h)
    | exact h
    | (simp [t_law_b2] at h ⊢; exact h)
theorem L_law  (script : (List Int)) {r : Bool} (h : t_law script = some r) : F_law [eC script] = some (eB r, (fun _ => [eC script]) r) := by
  have hb : Bk (Qf eB [true] (fun _ => [eC script])) m_law [eC script, .gone, .gone, .gone, .gone, .gone, .gone, .gone, .gone, .gone] _ := (b_asg (fun (sizes_here : (List Int)) => [eC script, (eL false eI) sizes_here, .gone, .gone, .gone, .gone, .gone, .gone, .gone, .gone]) (eg_f (x_cold (x_call T_lw_sizes (ea_cons (x_call T_lw_cell_at (ea_cons (x_v eC script rfl) (ea_cons (x_k eI (0) rfl) ea_nil))) ea_nil)))) (fun _ => rfl) (fun (sizes_here : (List Int)) => (b_asg (fun (nodes_here : (List (Int × Int))) => [eC script, (eL false eI) sizes_here, (eL false (e2 eI eI)) nodes_here, .gone, .gone, .gone, .gone, .gone, .gone, .gone]) (eg_f (x_cold (x_call T_lw_nodes (ea_cons (x_v (eL false eI) sizes_here rfl) ea_nil)))) (fun _ => rfl) (fun (nodes_here : (List (Int × Int))) => (b_asg (fun (moves_here : (List ((Int × Int) × Int × Ts × (Int × Int)))) => [eC script, (eL false eI) sizes_here, (eL false (e2 eI eI)) nodes_here, (eL false (e4 (e2 eI eI) eI eS (e2 eI eI))) moves_here, .gone, .gone, .gone, .gone, .gone, .gone]) (eg_f (x_cold (x_call T_lw_moves (ea_cons (x_v eC script rfl) (ea_cons (x_v (eL false (e2 eI eI)) nodes_here rfl) ea_nil))))) (fun _ => rfl) (fun (moves_here : (List ((Int × Int) × Int × Ts × (Int × Int)))) => (b_asg (fun (ends_here : (List (Int × Int))) => [eC script, (eL false eI) sizes_here, (eL false (e2 eI eI)) nodes_here, (eL false (e4 (e2 eI eI) eI eS (e2 eI eI))) moves_here, (eL false (e2 eI eI)) ends_here, .gone, .gone, .gone, .gone, .gone]) (eg_f (x_cold (x_call T_lw_ends (ea_cons (x_call T_lw_cell_at (ea_cons (x_v eC script rfl) (ea_cons (x_k eI (1) rfl) ea_nil))) (ea_cons (x_v (eL false (e2 eI eI)) nodes_here rfl) ea_nil))))) (fun _ => rfl) (fun (ends_here : (List (Int × Int))) => (b_asg (fun (trail : OListed) => [eC script, (eL false eI) sizes_here, (eL false (e2 eI eI)) nodes_here, (eL false (e4 (e2 eI eI) eI eS (e2 eI eI))) moves_here, (eL false (e2 eI eI)) ends_here, (e_Listed false) trail, .gone, .gone, .gone, .gone]) (eg_f (x_cold (x_mk T_Listed_init (ea_cons (x_cold (x_a1 o1_listL (x_v (eL false eI) sizes_here rfl))) (ea_cons (x_cold (x_a1 o1_listL (x_v (eL false (e4 (e2 eI eI) eI eS (e2 eI eI))) moves_here rfl))) (ea_cons (x_cold (x_a1 o1_listL (x_v (eL false (e2 eI eI)) ends_here rfl))) ea_nil)))))) (fun _ => rfl) (fun (trail : OListed) => (b_ifT (et_not (et_tru (x_call T_lw_methods (ea_cons (x_v (e_Listed false) trail rfl) (ea_cons (x_v (eL false eI) sizes_here rfl) (ea_cons (x_v (eL false (e4 (e2 eI eI) eI eS (e2 eI eI))) moves_here rfl) (ea_cons (x_v (eL false (e2 eI eI)) ends_here rfl) ea_nil))))))) (b_ret (k := fun (u4_ : Bool) => u4_) (eg_f (x_k eB false rfl)) (fun u4_ => ⟨rfl, ⟨.inl rfl, rfl⟩⟩)) (b_asg (fun (names : (List Ts)) => [eC script, (eL false eI) sizes_here, (eL false (e2 eI eI)) nodes_here, (eL false (e4 (e2 eI eI) eI eS (e2 eI eI))) moves_here, (eL false (e2 eI eI)) ends_here, (e_Listed false) trail, (eL false eS) names, .gone, .gone, .gone]) (eg_f (x_cold (x_call T_lw_row (ea_cons (x_v eC script rfl) (ea_cons (x_v (eL false (e4 (e2 eI eI) eI eS (e2 eI eI))) moves_here rfl) ea_nil))))) (fun _ => rfl) (fun (names : (List Ts)) => (b_asg (fun (rows : (List (List Ts))) => [eC script, (eL false eI) sizes_here, (eL false (e2 eI eI)) nodes_here, (eL false (e4 (e2 eI eI) eI eS (e2 eI eI))) moves_here, (eL false (e2 eI eI)) ends_here, (e_Listed false) trail, (eL false eS) names, (eL true (eL false eS)) rows, .gone, .gone]) (eg_f (x_lst (f := (eL true (eL false eS))) (fun t : (List Ts) × (List Ts) × Unit => ([t.1, t.2.1] : (List (List Ts)))) (ea_cons (x_v (eL false eS) names rfl) (ea_cons (x_cold (x_lst (f := (eL true eS)) (fun t : Unit => ([] : (List Ts))) ea_nil (fun _ => rfl) (fun _ => (by decide : 0 ≤ LIM)))) ea_nil)) (fun _ => rfl) (fun _ => (by decide : 2 ≤ LIM)))) (fun _ => rfl) (fun (rows : (List (List Ts))) => (b_for (fun (s5_ : (List (List Ts))) => [eC script, (eL false eI) sizes_here, (eL false (e2 eI eI)) nodes_here, (eL false (e4 (e2 eI eI) eI eS (e2 eI eI))) moves_here, (eL false (e2 eI eI)) ends_here, (e_Listed false) trail, (eL false eS) names, (eL true (eL false eS)) s5_, .gone, .gone]) rows (fun (s5_ : (List (List Ts))) (k : Int) => [eC script, (eL false eI) sizes_here, (eL false (e2 eI eI)) nodes_here, (eL false (e4 (e2 eI eI) eI eS (e2 eI eI))) moves_here, (eL false (e2 eI eI)) ends_here, (e_Listed false) trail, (eL false eS) names, (eL true (eL false eS)) s5_, eI k, .gone]) (ei_rng1 (x_a1 o1_lenL (x_v (eL false eS) names rfl))) rfl (fun _ _ => rfl) (fun (s5_ : (List (List Ts))) (k : Int) => (B_law_b1 script sizes_here nodes_here moves_here ends_here trail names s5_ k)) (fun (s5_ : (List (List Ts))) => (b_for (fun (s7_ : (List (List Ts))) => [eC script, (eL false eI) sizes_here, (eL false (e2 eI eI)) nodes_here, (eL false (e4 (e2 eI eI) eI eS (e2 eI eI))) moves_here, (eL false (e2 eI eI)) ends_here, (e_Listed false) trail, (eL false eS) names, (eL true (eL false eS)) s7_, .gone, .gone]) s5_ (fun (s7_ : (List (List Ts))) (k : Int) => [eC script, (eL false eI) sizes_here, (eL false (e2 eI eI)) nodes_here, (eL false (e4 (e2 eI eI) eI eS (e2 eI eI))) moves_here, (eL false (e2 eI eI)) ends_here, (e_Listed false) trail, (eL false eS) names, (eL true (eL false eS)) s7_, eI k, .gone]) (ei_rng1 (x_k eI (4) rfl)) rfl (fun _ _ => rfl) (fun (s7_ : (List (List Ts))) (k : Int) => (B_law_b2 script sizes_here nodes_here moves_here ends_here trail names s7_ k)) (fun (s7_ : (List (List Ts))) => (b_forF (e := (eL false eS)) (xs := s7_) (env1 := fun (row_here : (List Ts)) => [eC script, (eL false eI) sizes_here, (eL false (e2 eI eI)) nodes_here, (eL false (e4 (e2 eI eI) eI eS (e2 eI eI))) moves_here, (eL false (e2 eI eI)) ends_here, (e_Listed false) trail, (eL false eS) names, (eL true (eL false eS)) s7_, .gone, (eL false eS) row_here]) rfl (fun _ => rfl) (fun _ => rfl) (fun (row_here : (List Ts)) => (et_not (et_tru (x_call T_lw_told (ea_cons (x_v (e_Listed false) trail rfl) (ea_cons (x_v (eL false (e4 (e2 eI eI) eI eS (e2 eI eI))) moves_here rfl) (ea_cons (x_v (eL false (e2 eI eI)) ends_here rfl) (ea_cons (x_v (eL false eS) row_here rfl) ea_nil)))))))) (fun (row_here : (List Ts)) => (b_ret (k := fun (u13_ : Bool) => u13_) (eg_f (x_k eB false rfl)) (fun u13_ => ⟨rfl, ⟨.inl rfl, rfl⟩⟩))) (b_retI (eg_f (x_call T_lw_methods (ea_cons (x_v (e_Listed false) trail rfl) (ea_cons (x_v (eL false eI) sizes_here rfl) (ea_cons (x_v (eL false (e4 (e2 eI eI) eI eS (e2 eI eI))) moves_here rfl) (ea_cons (x_v (eL false (e2 eI eI)) ends_here rfl) ea_nil)))))) (fun u14_ => ⟨.inl rfl, rfl⟩))))))))))))))))))))))
  refine run_T (n := 10) (kp := [true]) (m := m_law) (ds := [eC script]) rfl hb ?_
  first
    | (simp -implicitDefEqProofs only [t_law, Option.bind_assoc, Option.bind_some, bind_same] at h ⊢; exact h)
    | (simp -implicitDefEqProofs only [t_law, Option.bind_assoc, Option.bind_some, bind_same] at h; exact h)
    | exact h
    | (simp [t_law] at h ⊢; exact h)
end LW
namespace LW
open PySem L2 LI OW
abbrev Nd := Int × Int
abbrev Sp := Int × Ts × Nd
abbrev Mv := Nd × Sp
def mvs (ms : List Mv) (n : Nd) : List Sp := (ms.filter fun m => decide (m.1 = n)).map fun m => m.2
theorem sda_eq {m : List (Nd × List Sp)} {k : Nd} {x : Sp} (hl : m.length < LIM) (hx : ∀ xs, getT m k = some xs → xs.length < LIM) : ∃ m', sdaT m k x = some m' ∧ m'.length ≤ m.length + 1 ∧ ∀ n, (getT m' n).getD [] = if n = k then (getT m k).getD [] ++ [x] else (getT m n).getD [] := by
  unfold sdaT
  rw [if_pos hl]
  cases z : getT m k with
  | some xs =>
    dsimp only
    rw [if_pos (hx xs z)]
    refine ⟨_, rfl, by rw [updT_len]; omega, fun n => ?_⟩
    by_cases q : n = k
    · rw [if_pos q, q, getT_upd z]; rfl
    · rw [if_neg q, getT_upd_ne q]
  | none =>
    dsimp only
    refine ⟨_, rfl, by rw [List.length_append, List.length_singleton]; omega, fun n => ?_⟩
    have hne : ∀ p ∈ m, p.1 ≠ k := by
      intro p hp q
      have : ∀ (m : List (Nd × List Sp)), p ∈ m → getT m p.1 ≠ none := by
        intro m
        induction m with
        | nil => intro h; cases h
        | cons y m ih =>
          intro h
          unfold getT
          by_cases c : y.1 = p.1
          · rw [if_pos c]; simp
          · rw [if_neg c]
            rcases List.mem_cons.mp h with h | h
            · exact absurd (by rw [h]) c
            · exact ih h
      exact this m hp (by rw [q]; exact z)
    by_cases q : n = k
    · rw [if_pos q, q, getT_new hne]; rfl
    · rw [if_neg q, getT_old (fun z => q z.symm)]
theorem listed_ex (sizes : List Int) (ms : List Mv) (ends : List Nd) (hl : ms.length ≤ 1000) : ∃ st, t_Listed_init sizes ms ends = some ⟨sizes, st, ends⟩ ∧ ∀ n, (getT st n).getD [] = mvs ms n := by
  unfold t_Listed_init
  dsimp only
  have main : ∀ (xs pre : List Mv) (st : List (Nd × List Sp)), pre ++ xs = ms → st.length ≤ pre.length → (∀ n, (getT st n).getD [] = mvs pre n) → ∃ st', foldT (fun (s3_ : ((List Int) × (List ((Int × Int) × (List (Int × Ts × (Int × Int))))))) (x4_ : ((Int × Int) × Int × Ts × (Int × Int))) =>
  ((sdaT s3_.2 x4_.1 (x4_.2.1, x4_.2.2.1, x4_.2.2.2))).bind fun (u5_ : (List ((Int × Int) × (List (Int × Ts × (Int × Int)))))) =>
  some (s3_.1, u5_)) xs (sizes, st) = some (sizes, st') ∧ ∀ n, (getT st' n).getD [] = mvs ms n := by
    intro xs
    induction xs with
    | nil =>
      intro pre st e _ h
      rw [List.append_nil] at e
      subst e
      exact ⟨st, rfl, h⟩
    | cons x xs ih =>
      intro pre st e hs h
      have hpl : pre.length ≤ 1000 := by rw [← e, List.length_append] at hl; omega
      have hm : ∀ n, (mvs pre n).length ≤ pre.length := fun n => by
        unfold mvs
        rw [List.length_map]
        exact List.length_filter_le _ _
      obtain ⟨st', e1, e2, e3⟩ := sda_eq (m := st) (k := x.1) (x := x.2) (by unfold LIM; omega) (fun ys hy => by
        have := h x.1
        rw [hy] at this
        have h2 := hm x.1
        rw [← this] at h2
        have h2 : ys.length ≤ pre.length := h2
        unfold LIM; omega)
      obtain ⟨st2, f1, f2⟩ := ih (pre ++ [x]) st' (by rw [List.append_assoc]; exact e) (by rw [List.length_append, List.length_singleton]; omega) (fun n => by
        rw [e3]
        unfold mvs
        rw [List.filter_append, List.map_append]
        by_cases q : n = x.1
        · subst q
          rw [if_pos rfl, h, List.filter_cons_of_pos (by simp)]
          rfl
        · rw [if_neg q, h, List.filter_cons_of_neg (by simpa using fun z => q z.symm)]
          simp [mvs])
      refine ⟨st2, ?_, f2⟩
      rw [foldT_cons]
      dsimp only
      rw [show sdaT st x.1 (x.2.1, x.2.2.1, x.2.2.2) = some st' from e1, Option.bind_some, Option.bind_some]
      exact f1
  obtain ⟨st', e, h⟩ := main ms [] [] rfl (Nat.zero_le _) (fun n => rfl)
  exact ⟨st', (congrArg (Option.bind · _) e).trans rfl, h⟩
structure Lsd (sizes : List Int) (ms : List Mv) (ends : List Nd) (T : OListed) : Prop where
  sz : T.sizes = sizes
  mv : ∀ n, t_Listed_moves_from T n = some (mvs ms n)
  en : ∀ n, t_Listed_is_end T n = some (memT n ends)
theorem lsd_ex (sizes : List Int) (ms : List Mv) (ends : List Nd) (hl : ms.length ≤ 1000) : ∃ T, t_Listed_init sizes ms ends = some T ∧ Lsd sizes ms ends T := by
  obtain ⟨st, e, h⟩ := listed_ex sizes ms ends hl
  refine ⟨_, e, rfl, fun n => ?_, fun n => rfl⟩
  unfold t_Listed_moves_from
  rw [h]
theorem mvs_len (ms : List Mv) (n : Nd) : (mvs ms n).length ≤ ms.length := by
  unfold mvs
  rw [List.length_map]
  exact List.length_filter_le _ _
def here (ms : List Mv) (n : Nd) (x : Ts) : List Mv := ms.filter fun m => decide (m.1 = n) && decide (m.2.2.1 = x)
def wk (ms : List Mv) (ends : List Nd) : List Ts → Nd → Int → Option Int
  | [], n, t => if memT n ends = true then some t else none
  | x :: xs, n, t => match here ms n x with
    | [] => none
    | m :: _ => wk ms ends xs m.2.2.2 (t + m.2.1)
theorem here_mvs (ms : List Mv) (n : Nd) (x : Ts) : ((mvs ms n).filter fun s => decide (s.2.1 = x)) = (here ms n x).map fun m => m.2 := by
  unfold mvs here
  rw [List.filter_map, List.filter_filter]
  congr 1
  refine List.filter_congr fun m _ => ?_
  rw [Bool.and_comm]; rfl
theorem walked_eq {sizes : List Int} {ms : List Mv} {ends : List Nd} {T : OListed} (L : Lsd sizes ms ends T) (hl : ms.length ≤ 1000) (names : List Ts) : t_walked T names = some (wk ms ends names (0, 0) 0) := by
  unfold t_walked
  dsimp only
  rw [show t_Listed_first_node T = some ((0 : Int), (0 : Int)) from rfl, Option.bind_some]
  have main : ∀ (xs : List Ts) (n : Nd) (t : Int), (forT (τ := (Option Int)) (fun (s1_ : (Int × (Int × Int))) (name : Ts) =>
  ((((t_Listed_moves_from T s1_.2).bind fun v2_ => some v2_).bind fun v3_ => (compT (fun (move : (Int × Ts × (Int × Int))) => (some (decide (move.2.1 = name)))) (fun (move : (Int × Ts × (Int × Int))) => (some move)) v3_))).bind fun (found : (List (Int × Ts × (Int × Int)))) =>
  if (decide (found = ([] : (List (Int × Ts × (Int × Int)))))) = true then
  some (.rt ((fun _ => none) ()) : (St (Int × (Int × Int)) (Option Int)))
  else
  ((((atI found (0 : Int)).bind fun v4_ => some v4_.1).bind fun v5_ => some (s1_.1 + v5_))).bind fun (total : Int) =>
  (((atI found (0 : Int)).bind fun v6_ => some v6_.2.2)).bind fun (node : (Int × Int)) =>
  some (.nx (total, node) : (St (Int × (Int × Int)) (Option Int)))) xs (t, n)).bind (fun u => seqT u fun (s1_ : (Int × (Int × Int))) => (((t_Listed_is_end T s1_.2).bind fun v7_ => some (!v7_)).bind fun v8_ => if v8_ = true then
  some ((fun _ => none) ())
  else
  some (some s1_.1))) = some (wk ms ends xs n t) := by
    intro xs
    induction xs with
    | nil =>
      intro n t
      rw [forT_nil, Option.bind_some, seqT_inl]
      dsimp only
      rw [L.en, Option.bind_some, Option.bind_some]
      unfold wk
      cases memT n ends <;> rfl
    | cons x xs ih =>
      intro n t
      rw [forT_cons]
      dsimp only
      have hml := mvs_len ms n
      rw [L.mv, Option.bind_some, Option.bind_some, compT_fil (q := fun s : Sp => decide (s.2.1 = x)) (f := fun s => s) (by unfold LIM; omega) (fun _ _ => rfl) (fun _ _ _ => rfl), List.map_id', here_mvs, Option.bind_some]
      unfold wk
      cases z : here ms n x with
      | nil => rfl
      | cons m rest =>
        rw [List.map_cons, if_neg (by simp)]
        have e0 : atI (m.2 :: rest.map fun m => m.2) (0 : Int) = some m.2 := LI.atI_nat (k := 0) (by simp)
        rw [e0]
        simp only [Option.bind_some]
        exact ih m.2.2.2 (t + m.2.1)
  exact main names (0, 0) 0
theorem lw_walked_eq (ms : List Mv) (ends : List Nd) (hl : ms.length ≤ 1000) (names : List Ts) : t_lw_walked ms ends names = some (wk ms ends names (0, 0) 0) := by
  unfold t_lw_walked
  dsimp only
  have main : ∀ (xs : List Ts) (n : Nd) (t : Int), (forT (τ := (Option Int)) (fun (s1_ : ((Int × Int) × Int)) (name : Ts) =>
  ((compT (fun (move : ((Int × Int) × Int × Ts × (Int × Int))) => (some ((decide (move.1 = s1_.1)) && (decide (move.2.2.1 = name))))) (fun (move : ((Int × Int) × Int × Ts × (Int × Int))) => (some move)) ms)).bind fun (here : (List ((Int × Int) × Int × Ts × (Int × Int)))) =>
  if (decide (here = ([] : (List ((Int × Int) × Int × Ts × (Int × Int)))))) = true then
  some (.rt ((fun _ => none) ()) : (St ((Int × Int) × Int) (Option Int)))
  else
  ((((atI here (0 : Int)).bind fun v2_ => some v2_.2.1).bind fun v3_ => some (s1_.2 + v3_))).bind fun (total : Int) =>
  (((atI here (0 : Int)).bind fun v4_ => some v4_.2.2.2)).bind fun (node : (Int × Int)) =>
  some (.nx (node, total) : (St ((Int × Int) × Int) (Option Int)))) xs (n, t)).bind (fun u => seqT u fun (s1_ : ((Int × Int) × Int)) => if (!memT s1_.1 ends) = true then
  some ((fun _ => none) ())
  else
  some (some s1_.2)) = some (wk ms ends xs n t) := by
    intro xs
    induction xs with
    | nil =>
      intro n t
      rw [forT_nil, Option.bind_some, seqT_inl]
      dsimp only
      unfold wk
      cases memT n ends <;> rfl
    | cons x xs ih =>
      intro n t
      rw [forT_cons]
      dsimp only
      rw [compT_fil (q := fun m : Mv => decide (m.1 = n) && decide (m.2.2.1 = x)) (f := fun s => s) (by unfold LIM; omega) (fun _ _ => rfl) (fun _ _ _ => rfl), List.map_id', Option.bind_some]
      unfold wk
      rw [show (ms.filter fun m : Mv => decide (m.1 = n) && decide (m.2.2.1 = x)) = here ms n x from rfl]
      cases z : here ms n x with
      | nil => rfl
      | cons m rest =>
        rw [if_neg (by simp)]
        have e0 : atI (m :: rest) (0 : Int) = some m := LI.atI_nat (k := 0) (by simp)
        rw [e0]
        simp only [Option.bind_some]
        exact ih m.2.2.2 (t + m.2.1)
  exact main names (0, 0) 0
theorem mixb_ex' (c : Int) (k : Int) (h0 : 0 ≤ k) (hk : k ≤ 1000000) : ∃ v, t_lw_mix_b c k = some v ∧ 0 ≤ v ∧ v < 1000000000 := mix_ex c k h0 hk
theorem sizes_ex (c : Int) : ∃ ss, t_lw_sizes c = some ss ∧ 1 ≤ ss.length ∧ ss.length ≤ 5 ∧ ∀ s ∈ ss, 1 ≤ s ∧ s ≤ 3 := by
  unfold t_lw_sizes
  obtain ⟨v, e, _, _⟩ := mixb_ex' c 8 (by omega) (by omega)
  have h5 := mod_in v 5 (by omega)
  rw [e, Option.bind_some, Option.bind_some, Option.bind_some, rngT_ok (by omega) (by omega), Option.bind_some]
  obtain ⟨ss, e1, e2, e3⟩ := compT_ex (g := fun (k : Int) => (((t_lw_mix_b c k).bind fun v5_ => some (v5_ % 3)).bind fun v6_ => some ((1 : Int) + v6_))) (P := fun _ s => 1 ≤ s ∧ s ≤ 3) (xs := (List.range (1 + v % 5).toNat).map fun (k : Nat) => (k : Int)) (by rw [List.length_map, List.length_range]; unfold LIM; omega) (fun k hk => by
    obtain ⟨j, hj, rfl⟩ := List.mem_map.mp hk
    rw [List.mem_range] at hj
    obtain ⟨v, e, _, _⟩ := mixb_ex' c (j : Int) (by omega) (by omega)
    have h3 := mod_in v 3 (by omega)
    exact ⟨_, by rw [e]; rfl, by omega, by omega⟩)
  rw [List.length_map, List.length_range] at e2
  refine ⟨ss, e1, by omega, by omega, fun s hs => ?_⟩
  obtain ⟨_, _, h⟩ := e3 s hs
  exact h
def nodesL (ss : List Int) : List Nd := (List.range ss.length).flatMap fun a => ((List.range (ss.getD a 0).toNat).map fun (k : Nat) => ((a : Int), (k : Int)))
theorem nodes_len {ss : List Int} (h : ss.length ≤ 5) (h3 : ∀ s ∈ ss, 1 ≤ s ∧ s ≤ 3) : (nodesL ss).length ≤ 15 := by
  have : ∀ (xs : List Nat), (∀ a ∈ xs, a < ss.length) → (xs.flatMap fun a => ((List.range (ss.getD a 0).toNat).map fun (k : Nat) => ((a : Int), (k : Int)))).length ≤ 3 * xs.length := by
    intro xs
    induction xs with
    | nil => intro _; exact Nat.le_refl _
    | cons x xs ih =>
      intro hx
      have := ih fun a ha => hx a (List.mem_cons_of_mem _ ha)
      have hxl := hx x List.mem_cons_self
      have hs : ss.getD x 0 = ss[x] := by rw [List.getD_eq_getElem?_getD, List.getElem?_eq_getElem hxl]; rfl
      have := h3 _ (List.getElem_mem hxl)
      rw [List.flatMap_cons, List.length_append, List.length_map, List.length_range, List.length_cons, hs]
      omega
  have := this (List.range ss.length) fun a ha => List.mem_range.mp ha
  rw [List.length_range] at this
  unfold nodesL
  omega
theorem nodes_ne {ss : List Int} (h : 1 ≤ ss.length) (h3 : ∀ s ∈ ss, 1 ≤ s ∧ s ≤ 3) : nodesL ss ≠ [] := by
  have hs : ss.getD 0 0 = ss[0] := by rw [List.getD_eq_getElem?_getD, List.getElem?_eq_getElem h]; rfl
  have := h3 _ (List.getElem_mem h)
  have hm : ((0 : Int), (0 : Int)) ∈ nodesL ss := by
    unfold nodesL
    refine List.mem_flatMap.mpr ⟨0, List.mem_range.mpr (by omega), List.mem_map.mpr ⟨0, List.mem_range.mpr (by rw [hs]; omega), rfl⟩⟩
  exact List.ne_nil_of_mem hm
theorem at_of {ss : List Int} {a : Nat} (h : a < ss.length) : atI ss (a : Int) = some (ss.getD a 0) := by
  rw [LI.atI_nat h, List.getD_eq_getElem?_getD, List.getElem?_eq_getElem h]; rfl
theorem nodes_eq {ss : List Int} (h : ss.length ≤ 5) (h3 : ∀ s ∈ ss, 1 ≤ s ∧ s ≤ 3) : t_lw_nodes ss = some (nodesL ss) := by
  unfold t_lw_nodes
  dsimp only
  rw [rngT_ok (by omega) (by omega), Option.bind_some, Int.toNat_natCast]
  have hlen := nodes_len h h3
  have main : ∀ b, b ≤ ss.length → foldT (fun (s2_ : (List (Int × Int))) (at_ : Int) =>
  (((atI ss at_).bind fun v3_ => (rngT v3_)).bind fun v4_ => (foldT (fun (s5_ : (List (Int × Int))) (state : Int) =>
  ((appT s5_ (at_, state))).bind fun (u6_ : (List (Int × Int))) =>
  some u6_) v4_ s2_).bind fun (s5_ : (List (Int × Int))) =>
  some s5_)) ((List.range b).map fun (k : Nat) => (k : Int)) [] = some ((List.range b).flatMap fun a => ((List.range (ss.getD a 0).toNat).map fun (k : Nat) => ((a : Int), (k : Int)))) ∧ ((List.range b).flatMap fun a => ((List.range (ss.getD a 0).toNat).map fun (k : Nat) => ((a : Int), (k : Int)))).length ≤ 3 * b := by
    intro b
    induction b with
    | zero => intro _; exact ⟨rfl, Nat.le_refl _⟩
    | succ b ih =>
      intro hb
      obtain ⟨e1, e2⟩ := ih (by omega)
      have hs : ss.getD b 0 = ss[b] := by rw [List.getD_eq_getElem?_getD, List.getElem?_eq_getElem (by omega)]; rfl
      have hb3 := h3 _ (List.getElem_mem (show b < ss.length by omega))
      rw [← hs] at hb3
      refine ⟨?_, ?_⟩
      · rw [List.range_succ, List.map_append, foldT_app, e1, Option.bind_some, List.map_cons, List.map_nil, foldT_cons]
        rw [at_of (by omega), Option.bind_some, rngT_ok (by omega) (by omega), Option.bind_some]
        have key : ∀ (xs : List Nat) (acc : List Nd), acc.length + xs.length ≤ 100 → foldT (fun (s5_ : (List (Int × Int))) (state : Int) =>
          ((appT s5_ ((b : Int), state))).bind fun (u6_ : (List (Int × Int))) =>
          some u6_) (xs.map fun (k : Nat) => (k : Int)) acc = some (acc ++ xs.map fun (k : Nat) => ((b : Int), (k : Int))) := by
          intro xs
          induction xs with
          | nil => intro acc _; simp
          | cons x xs ih =>
            intro acc ha
            rw [List.length_cons] at ha
            rw [List.map_cons, foldT_cons, appT_ok (by unfold LIM; omega), Option.bind_some, Option.bind_some, ih _ (by rw [List.length_append, List.length_singleton]; omega), List.append_assoc]
            rfl
        rw [key _ _ (by rw [List.length_range]; omega), Option.bind_some, Option.bind_some, foldT_nil, List.flatMap_append, List.flatMap_cons, List.flatMap_nil, List.append_nil]
      · rw [List.range_succ, List.flatMap_append, List.flatMap_cons, List.flatMap_nil, List.append_nil, List.length_append, List.length_map, List.length_range]
        omega
  exact (congrArg (Option.bind · _) (main ss.length (Nat.le_refl _)).1).trans rfl
theorem moves_ex (ns : List Int) (hn : ns.length ≤ 63) {nodes : List Nd} (hne : nodes ≠ []) (hl : nodes.length ≤ 15) : ∃ ms, t_lw_moves ns nodes = some ms ∧ ms.length ≤ 40 ∧ ∀ m ∈ ms, m.1 ∈ nodes ∧ m.2.2.2 ∈ nodes ∧ m.1.1 ≤ m.2.2.2.1 ∧ 0 ≤ m.2.1 ∧ (m.2.2.2.1 = m.1.1 → 1 ≤ m.2.1) := by
  unfold t_lw_moves
  dsimp only
  have hpos : 0 < nodes.length := List.length_pos_iff.mpr hne
  have hcut : (cutL ns (some (3 : Int)) (some (43 : Int))).length ≤ 40 := by
    rw [show (3 : Int) = ((3 : Nat) : Int) from rfl, show (43 : Int) = ((43 : Nat) : Int) from rfl, cut_nat, List.length_drop, List.length_take]
    omega
  obtain ⟨s, e, h⟩ := foldT_cnt (g := fun (s1_ : ((List ((Int × Int) × Int × Ts × (Int × Int))) × (List ((Int × Int) × Int)))) (cell : Int) =>
  ((((t_lw_mix_b cell (1 : Int)).bind fun v2_ => (modT v2_ (List.length nodes : Int))).bind fun v3_ => (atI nodes v3_))).bind fun (one : (Int × Int)) =>
  ((compT (fun (node : (Int × Int)) => (some (decide (one.1 ≤ node.1)))) (fun (node : (Int × Int)) => (some node)) nodes)).bind fun (beyond : (List (Int × Int))) =>
  ((((t_lw_mix_b cell (6 : Int)).bind fun v4_ => (modT v4_ (List.length beyond : Int))).bind fun v5_ => (atI beyond v5_))).bind fun (other : (Int × Int)) =>
  (((t_lw_mix_b cell (9 : Int)).bind fun v6_ => (((t_lw_mix_b cell (7 : Int)).bind fun v7_ => some (v7_ % 3)).bind fun v8_ => (atI ([(3 : Int), (40 : Int), (1000000000 : Int)] : (List Int)) v8_)).bind fun v9_ => (modT v6_ v9_))).bind fun (cost : Int) =>
  ((if ((decide (other.1 = one.1)) && (decide (cost = (0 : Int)))) = true then
  let cost_2 : Int := (1 : Int)
  some cost_2
  else
  some cost : Option Int)).bind fun (s10_ : Int) =>
  (((((t_lw_mix_b cell (10 : Int)).bind fun v11_ => some (v11_ % 4)).bind fun v12_ => (atI ([(1 : Int), (1 : Int), (1 : Int), (10000000000000000000000000000000000000000 : Int)] : (List Int)) v12_)).bind fun v13_ => (mulT s10_ v13_))).bind fun (cost : Int) =>
  (((((ixS (['a', 'b'] : Ts) (cell % 2)).bind fun v14_ => (repS v14_ (Option.getD (getT s1_.2 one) (0 : Int)))).bind fun v15_ => some (one, cost, v15_, other)).bind fun v16_ => (appT s1_.1 v16_))).bind fun (u17_ : (List ((Int × Int) × Int × Ts × (Int × Int)))) =>
  (some ((Option.getD (getT s1_.2 one) (0 : Int)) + (1 : Int))).bind fun u18_ => ((some one)).bind fun i19_ => (putC s1_.2 i19_ u18_).bind fun y20_ =>
  some (u17_, y20_)) (fun n s => s.1.length + n ≤ 40 ∧ s.2.length + n ≤ 40 ∧ (∀ k, 0 ≤ (getT s.2 k).getD 0 ∧ (getT s.2 k).getD 0 + n ≤ 40) ∧ ∀ m ∈ s.1, m.1 ∈ nodes ∧ m.2.2.2 ∈ nodes ∧ m.1.1 ≤ m.2.2.2.1 ∧ 0 ≤ m.2.1 ∧ (m.2.2.2.1 = m.1.1 → 1 ≤ m.2.1)) (cutL ns (some (3 : Int)) (some (43 : Int))) ([], []) ⟨by simpa using hcut, by simpa using hcut, fun k => ⟨Int.le_refl _, by show (0 : Int) + _ ≤ 40; omega⟩, by simp⟩ (by
    rintro n s c ⟨h1, h2, h3, h4⟩ hc
    dsimp only
    obtain ⟨v1, e1, _, _⟩ := mixb_ex' c 1 (by omega) (by omega)
    obtain ⟨v6, e6, _, _⟩ := mixb_ex' c 6 (by omega) (by omega)
    obtain ⟨v9, e9, _, _⟩ := mixb_ex' c 9 (by omega) (by omega)
    obtain ⟨v7, e7, _, _⟩ := mixb_ex' c 7 (by omega) (by omega)
    obtain ⟨v10, e10, _, _⟩ := mixb_ex' c 10 (by omega) (by omega)
    have m1 := mod_in v1 (nodes.length : Int) (by omega)
    obtain ⟨one, eo, ho⟩ := atI_all (P := fun x => x ∈ nodes) m1.1 m1.2 (fun x hx => hx)
    rw [e1, Option.bind_some, modT_ok (by omega), Option.bind_some, eo, Option.bind_some]
    rw [compT_fil (q := fun x : Nd => decide (one.1 ≤ x.1)) (f := fun x => x) (by unfold LIM; omega) (fun _ _ => rfl) (fun _ _ _ => rfl), List.map_id', Option.bind_some]
    have hb : one ∈ nodes.filter fun x : Nd => decide (one.1 ≤ x.1) := List.mem_filter.mpr ⟨ho, by simp⟩
    have hbp := List.length_pos_of_mem hb
    have m6 := mod_in v6 ((nodes.filter fun x : Nd => decide (one.1 ≤ x.1)).length : Int) (by omega)
    obtain ⟨other, et, ht⟩ := atI_all (P := fun x => x ∈ nodes ∧ one.1 ≤ x.1) m6.1 m6.2 (fun x hx => by
      obtain ⟨a, b⟩ := List.mem_filter.mp hx
      exact ⟨a, by simpa using b⟩)
    rw [e6, Option.bind_some, modT_ok (by omega), Option.bind_some, et, Option.bind_some, e9, Option.bind_some, e7, Option.bind_some, Option.bind_some]
    have m7 := mod_in v7 3 (by omega)
    obtain ⟨q, eq, hq⟩ := atI_all (xs := [(3 : Int), 40, 1000000000]) (P := fun x => 3 ≤ x ∧ x ≤ 1000000000) m7.1 m7.2 (by simp)
    rw [eq, Option.bind_some, modT_ok (by omega), Option.bind_some]
    have m9 := mod_in v9 q (by omega)
    obtain ⟨cost, ec, hc0, hc1, hc2⟩ : ∃ cost : Int, (if (decide (other.1 = one.1) && decide (v9 % q = 0)) = true then let cost_2 : Int := (1 : Int); some cost_2 else some (v9 % q)) = some cost ∧ 0 ≤ cost ∧ cost ≤ 1000000000 ∧ (other.1 = one.1 → 1 ≤ cost) := by
      by_cases z : (decide (other.1 = one.1) && decide (v9 % q = 0)) = true
      · rw [if_pos z]; exact ⟨1, rfl, by omega, by omega, fun _ => by omega⟩
      · rw [if_neg z]
        refine ⟨_, rfl, m9.1, by omega, fun w => ?_⟩
        have : ¬ v9 % q = 0 := fun w2 => z (by rw [decide_eq_true w, decide_eq_true w2]; rfl)
        omega
    rw [ec, Option.bind_some, e10, Option.bind_some, Option.bind_some]
    have m10 := mod_in v10 4 (by omega)
    obtain ⟨f, ef, hf⟩ := atI_all (xs := [(1 : Int), 1, 1, 10000000000000000000000000000000000000000]) (P := fun x => 1 ≤ x) m10.1 m10.2 (by simp)
    rw [ef, Option.bind_some, mulT_ok (by omega) (by omega), Option.bind_some]
    have m2 := mod_in c 2 (by omega)
    obtain ⟨d, hd, ed⟩ := ixS_mem (s := ['a', 'b']) (by simp [LIM]) m2.1 (by simpa using m2.2)
    have h3' := h3 one
    rw [ed, Option.bind_some]
    have er : repS [d] ((getT s.2 one).getD 0) = some (List.replicate ((getT s.2 one).getD 0).toNat [d]).flatten := by
      unfold repS
      rw [if_pos ⟨by omega, by omega, by simp [LIM]; omega⟩]
    rw [er, Option.bind_some, Option.bind_some, appT_ok (by unfold LIM; omega), Option.bind_some, Option.bind_some, Option.bind_some]
    have ep : putC s.2 one ((getT s.2 one).getD 0 + 1) = some (putT s.2 one ((getT s.2 one).getD 0 + 1)) := if_pos (by unfold LIM; omega)
    rw [ep, Option.bind_some]
    refine ⟨_, rfl, by rw [List.length_append, List.length_singleton]; omega, ?_, fun k => ?_, fun m hm => ?_⟩
    · dsimp only
      unfold putT
      split
      · rw [List.length_map]; omega
      · rw [List.length_append, List.length_singleton]; omega
    · dsimp only
      by_cases z : k = one
      · rw [z, getT_put]
        show 0 ≤ (getT s.2 one).getD 0 + 1 ∧ (getT s.2 one).getD 0 + 1 + (n : Int) ≤ 40
        omega
      · rw [getT_put_ne z]
        have := h3 k
        omega
    · rcases List.mem_append.mp hm with hm | hm
      · exact h4 m hm
      · rw [List.mem_singleton] at hm
        subst hm
        refine ⟨ho, ht.1, ht.2, Int.mul_nonneg hc0 (by omega), fun w => ?_⟩
        have := hc2 w
        exact Int.le_trans (by omega) (Int.mul_le_mul (a := 1) (b := 1) this hf (by omega) hc0))
  refine ⟨s.1, (congrArg (Option.bind · _) e).trans rfl, by have := h.1; omega, h.2.2.2⟩
theorem ends_ex (c : Int) {nodes : List Nd} (hne : nodes ≠ []) (hl : nodes.length ≤ 15) : ∃ es, t_lw_ends c nodes = some es ∧ es.length ≤ 20 ∧ ∀ n ∈ es, n ∈ nodes := by
  unfold t_lw_ends
  dsimp only
  have hpos : 0 < nodes.length := List.length_pos_iff.mpr hne
  rw [rngT_ok (by omega) (by omega), Option.bind_some, Int.toNat_natCast]
  obtain ⟨es, e, h1, h2⟩ := foldT_cnt (g := fun (s2_ : (List (Int × Int))) (k : Int) =>
  ((((t_lw_mix_b c ((11 : Int) + k)).bind fun v3_ => some (v3_ % 3)).bind fun v4_ => some (decide (v4_ = (0 : Int)))).bind fun v5_ => ((if v5_ = true then
  (((atI nodes k).bind fun v6_ => (appT s2_ v6_))).bind fun (u7_ : (List (Int × Int))) =>
  some u7_
  else
  some s2_ : Option (List (Int × Int)))).bind fun (s8_ : (List (Int × Int))) =>
  some s8_)) (fun n es => es.length + n ≤ 15 ∧ ∀ x ∈ es, x ∈ nodes) ((List.range nodes.length).map fun (k : Nat) => (k : Int)) [] ⟨by simpa using hl, by simp⟩ (by
    rintro n es k ⟨h1, h2⟩ hk
    obtain ⟨j, hj, rfl⟩ := List.mem_map.mp hk
    rw [List.mem_range] at hj
    obtain ⟨v, ev, _, _⟩ := mixb_ex' c (11 + (j : Int)) (by omega) (by omega)
    rw [ev, Option.bind_some, Option.bind_some, Option.bind_some]
    split
    · rw [LI.atI_nat hj, Option.bind_some, appT_ok (by unfold LIM; omega)]
      refine ⟨_, rfl, by rw [List.length_append, List.length_singleton]; omega, fun x hx => ?_⟩
      rcases List.mem_append.mp hx with hx | hx
      · exact h2 x hx
      · rw [List.mem_singleton] at hx; rw [hx]; exact List.getElem_mem hj
    · exact ⟨_, rfl, by omega, h2⟩)
  rw [e, Option.bind_some]
  obtain ⟨x, hx⟩ : ∃ x, nodes.getLast? = some x := by
    cases z : nodes.getLast? with
    | none => exact absurd (List.getLast?_eq_none_iff.mp z) hne
    | some x => exact ⟨x, rfl⟩
  have hlast : atI nodes (-1 : Int) = some x := by
    unfold atI ixN
    rw [if_neg (by omega), if_pos (by omega), Option.bind_some]
    rw [List.getLast?_eq_getElem?] at hx
    rw [show ((-1 : Int) + (nodes.length : Int)).toNat = nodes.length - 1 by omega]
    exact hx
  have hxm : x ∈ nodes := List.mem_of_getLast? hx
  rw [hlast]
  simp only [Option.bind_some]
  have key : ∃ b : Bool, (if decide ((0 : Int) < (c % 4)) = true then some (!memT x es) else some false) = some b := by
    split <;> exact ⟨_, rfl⟩
  obtain ⟨b, eb⟩ := key
  rw [eb, Option.bind_some]
  cases b with
  | true =>
    rw [if_pos rfl, appT_ok (by unfold LIM; omega)]
    refine ⟨_, rfl, by rw [List.length_append, List.length_singleton]; omega, fun y hy => ?_⟩
    rcases List.mem_append.mp hy with hy | hy
    · exact h2 y hy
    · rw [List.mem_singleton] at hy; rw [hy]; exact hxm
  | false =>
    rw [if_neg (by decide)]
    exact ⟨_, rfl, by omega, h2⟩
theorem row_ex (ns : List Int) (hn : ns.length ≤ 63) {ms : List Mv} (hl : ms.length ≤ 40) : ∃ xs, t_lw_row_b ns ms = some xs ∧ xs.length ≤ 18 := by
  unfold t_lw_row_b
  dsimp only
  have hcut : (cutL ns (some (43 : Int)) (some (61 : Int))).length ≤ 18 := by
    rw [show (43 : Int) = ((43 : Nat) : Int) from rfl, show (61 : Int) = ((61 : Nat) : Int) from rfl, cut_nat, List.length_drop, List.length_take]
    omega
  obtain ⟨s, e, h⟩ := foldT_cnt (g := fun (s1_ : ((Int × Int) × (List Ts))) (cell : Int) =>
  ((compT (fun (move : ((Int × Int) × Int × Ts × (Int × Int))) => (some (decide (move.1 = s1_.1)))) (fun (move : ((Int × Int) × Int × Ts × (Int × Int))) => (some move)) ms)).bind fun (here : (List ((Int × Int) × Int × Ts × (Int × Int)))) =>
  ((if (!decide (here = ([] : (List ((Int × Int) × Int × Ts × (Int × Int)))))) = true then
  ((((t_lw_mix_b cell (1 : Int)).bind fun v2_ => (modT v2_ (List.length here : Int))).bind fun v3_ => (atI here v3_))).bind fun (move : ((Int × Int) × Int × Ts × (Int × Int))) =>
  ((appT s1_.2 move.2.2.1)).bind fun (u4_ : (List Ts)) =>
  let node : (Int × Int) := move.2.2.2
  some (node, u4_)
  else
  some (s1_.1, s1_.2) : Option ((Int × Int) × (List Ts)))).bind fun (s5_ : ((Int × Int) × (List Ts))) =>
  some (s5_.1, s5_.2)) (fun n s => s.2.length + n ≤ 18) (cutL ns (some (43 : Int)) (some (61 : Int))) (((0 : Int), (0 : Int)), []) (by simpa using hcut) (by
    rintro n s c h1 hc
    dsimp only
    rw [compT_fil (q := fun m : Mv => decide (m.1 = s.1)) (f := fun m => m) (by unfold LIM; omega) (fun _ _ => rfl) (fun _ _ _ => rfl), List.map_id', Option.bind_some]
    generalize hf : (ms.filter fun m : Mv => decide (m.1 = s.1)) = hs
    by_cases z : hs = []
    · rw [if_neg (by simp [z])]
      exact ⟨_, rfl, by dsimp only; omega⟩
    · rw [if_pos (by simp [z])]
      have hp := List.length_pos_iff.mpr z
      obtain ⟨v1, e1, _, _⟩ := mixb_ex' c 1 (by omega) (by omega)
      have m1 := mod_in v1 (hs.length : Int) (by omega)
      obtain ⟨m, em, _⟩ := atI_all (P := fun _ => True) m1.1 m1.2 (fun _ _ => trivial)
      rw [e1, Option.bind_some, modT_ok (by omega), Option.bind_some, em, Option.bind_some, appT_ok (by unfold LIM; omega)]
      exact ⟨_, rfl, by dsimp only; rw [List.length_append, List.length_singleton]; omega⟩)
  exact ⟨s.2, (congrArg (Option.bind · _) e).trans rfl, by omega⟩
theorem spoilt_ex (xs : List Ts) (hl : xs.length ≤ 100) (c : Int) {k : Int} (h0 : 0 ≤ k) (hk : k ≤ 1000) : ∃ ys, t_lw_spoilt xs c k = some ys := by
  unfold t_lw_spoilt
  obtain ⟨v0, e0, _, _⟩ := mixb_ex' c k (by omega) (by omega)
  obtain ⟨v1, e1, _, _⟩ := mixb_ex' c (k + 1) (by omega) (by omega)
  obtain ⟨v2, e2, _, _⟩ := mixb_ex' c (k + 2) (by omega) (by omega)
  obtain ⟨v3, e3, _, _⟩ := mixb_ex' c (k + 3) (by omega) (by omega)
  have m0 := mod_in v0 ((xs.length : Int) + 1) (by omega)
  have m2 := mod_in v2 2 (by omega)
  have m3 := mod_in v3 3 (by omega)
  obtain ⟨d, hd, ed⟩ := ixS_mem (s := ['a', 'b']) (by simp [LIM]) m2.1 (by simpa using m2.2)
  have er : repS [d] (1 + v3 % 3) = some (List.replicate (1 + v3 % 3).toNat [d]).flatten := by
    unfold repS
    rw [if_pos ⟨by omega, by omega, by simp [LIM]; omega⟩]
  rw [e0, Option.bind_some, modT_ok (by omega), Option.bind_some, e1, Option.bind_some, Option.bind_some, e2, Option.bind_some, Option.bind_some, ed, Option.bind_some, e3, Option.bind_some, Option.bind_some, Option.bind_some, er, Option.bind_some, cut_to (by omega), cut_from (by omega), cut_from (by omega)]
  have l1 : (xs.take (v0 % ((xs.length : Int) + 1)).toNat).length ≤ xs.length := by rw [List.length_take]; omega
  have l2 : ∀ n, (xs.drop n).length ≤ xs.length := fun n => by rw [List.length_drop]; omega
  have l3 := l2 (v0 % ((xs.length : Int) + 1)).toNat
  have l4 := l2 (v0 % ((xs.length : Int) + 1) + 1).toNat
  split
  · exact ⟨_, catL_ok (by unfold LIM; omega)⟩
  · split
    · rw [catL_ok (by rw [List.length_singleton]; unfold LIM; omega), Option.bind_some]
      exact ⟨_, catL_ok (by rw [List.length_append, List.length_singleton]; unfold LIM; omega)⟩
    · split
      · rw [catL_ok (by rw [List.length_singleton]; unfold LIM; omega), Option.bind_some]
        exact ⟨_, catL_ok (by rw [List.length_append, List.length_singleton]; unfold LIM; omega)⟩
      · rw [catL_ok (by rw [List.length_singleton]; unfold LIM; omega), Option.bind_some]
        exact ⟨_, catL_ok (by rw [List.length_append, List.length_singleton]; unfold LIM; omega)⟩
theorem told_eq32 {sizes : List Int} {ms : List Mv} {ends : List Nd} {T : OListed} (L : Lsd sizes ms ends T) (hl : ms.length ≤ 1000) (names : List Ts) : t_lw_told_d T ms ends names = some true := by
  unfold t_lw_told_d
  dsimp only
  rw [walked_eq L hl, Option.bind_some, lw_walked_eq ms ends hl, Option.bind_some, if_neg (by simp)]
  cases z : wk ms ends names (0, 0) 0 with
  | none => rfl
  | some t =>
    rw [if_neg (by simp), show t_lw_whole_c (some t) = some true from rfl, Option.bind_some, if_pos rfl]
    simp
theorem methods_eq {sizes : List Int} {ms : List Mv} {ends : List Nd} {T : OListed} (L : Lsd sizes ms ends T) (h5 : sizes.length ≤ 5) (h3 : ∀ s ∈ sizes, 1 ≤ s ∧ s ≤ 3) (hl : ms.length ≤ 1000) : t_lw_methods T sizes ms ends = some true := by
  unfold t_lw_methods
  rw [show t_Listed_first_node T = some ((0 : Int), (0 : Int)) from rfl, Option.bind_some, show t_Listed_last_at T = some ((List.length T.sizes : Int) - 1) from rfl, L.sz, Option.bind_some]
  simp -implicitDefEqProofs only [decide_true, Bool.not_true, Bool.false_eq_true, if_false, Option.bind_some]
  rw [rngT_ok (by omega) (by omega), Option.bind_some, Int.toNat_natCast]
  rw [forT_unit _ (fun a ha => by
    obtain ⟨j, hj, rfl⟩ := List.mem_map.mp ha
    rw [List.mem_range] at hj
    have hs : sizes.getD j 0 = sizes[j] := by rw [List.getD_eq_getElem?_getD, List.getElem?_eq_getElem hj]; rfl
    have hb3 := h3 _ (List.getElem_mem hj)
    rw [← hs] at hb3
    have hnodes : t_Listed_nodes_at T (j : Int) = some (((List.range (sizes.getD j 0).toNat).map fun (k : Nat) => (k : Int)).map fun s => ((j : Int), s)) := by
      unfold t_Listed_nodes_at
      rw [L.sz, at_of hj, Option.bind_some, rngT_ok (by omega) (by omega), Option.bind_some, compT_map (f := fun s : Int => ((j : Int), s)) (by rw [List.length_map, List.length_range]; unfold LIM; omega) (fun _ _ => rfl)]
    rw [hnodes, Option.bind_some, at_of hj, Option.bind_some, rngT_ok (by omega) (by omega), Option.bind_some, compT_map (f := fun s : Int => ((j : Int), s)) (by rw [List.length_map, List.length_range]; unfold LIM; omega) (fun _ _ => rfl), Option.bind_some]
    simp -implicitDefEqProofs only [decide_true, Bool.not_true, Bool.false_eq_true, if_false, Option.bind_some]
    rw [forT_unit _ (fun n hn => by
      have hml := mvs_len ms n
      rw [L.mv, Option.bind_some, compT_fil (q := fun m : Mv => decide (m.1 = n)) (f := fun m => m.2) (by unfold LIM; omega) (fun _ _ => rfl) (fun _ _ _ => rfl), Option.bind_some]
      rw [show ((ms.filter fun m : Mv => decide (m.1 = n)).map fun m => m.2) = mvs ms n from rfl]
      simp -implicitDefEqProofs only [decide_true, Bool.not_true, Bool.false_eq_true, if_false, Option.bind_some]
      rw [L.en, Option.bind_some, show t_lw_truth (memT n ends) (memT n ends) = some true from by unfold t_lw_truth; simp, Option.bind_some, Option.bind_some]
      simp -implicitDefEqProofs only [Bool.not_true, Bool.false_eq_true, if_false]
      rw [appT_ok (by unfold LIM; omega)]
      rfl), Option.bind_some, seqT_inl, appT_ok (by rw [List.length_map, List.length_map, List.length_range]; unfold LIM; omega)]
    rfl)]
  rfl
theorem law_t (ns : List Int) (hl : ns.length ≤ 63) (hb : ∀ z ∈ ns, Builtin.Int.intBits z ≤ 1048576) : t_law ns = some true := by
  unfold t_law
  rw [show t_lw_cell ns 0 = some (ns.getD 0 0) from cell_eq ns 0, Option.bind_some]
  obtain ⟨ss, e1, s1, s2, s3⟩ := sizes_ex (ns.getD 0 0)
  rw [e1, Option.bind_some, nodes_eq s2 s3, Option.bind_some]
  have hne := nodes_ne s1 s3
  have hnl := nodes_len s2 s3
  obtain ⟨ms, e2, m1, _⟩ := moves_ex ns hl hne hnl
  rw [e2, Option.bind_some, show t_lw_cell ns 1 = some (ns.getD 1 0) from cell_eq ns 1, Option.bind_some]
  obtain ⟨es, e3, _, _⟩ := ends_ex (ns.getD 1 0) hne hnl
  rw [e3, Option.bind_some]
  obtain ⟨T, e4, L⟩ := lsd_ex ss ms es (by omega)
  rw [e4, Option.bind_some, methods_eq L s2 s3 (by omega), Option.bind_some, Option.bind_some, if_neg (by decide)]
  obtain ⟨xs, e5, x1⟩ := row_ex ns hl m1
  rw [e5, Option.bind_some]
  dsimp only
  rw [rngT_ok (by omega) (by omega), Option.bind_some, Int.toNat_natCast]
  obtain ⟨r1, f1, g1⟩ := foldT_cnt (g := fun (s6_ : (List (List Ts))) (k : Int) => t_law_b1 xs s6_ k) (fun n s => s.length + n ≤ 40) ((List.range xs.length).map fun (k : Nat) => (k : Int)) [xs, []] (by simp; omega) (by
    rintro n s k h hk
    unfold t_law_b1
    rw [appT_ok (by unfold LIM; omega)]
    exact ⟨_, rfl, by rw [List.length_append, List.length_singleton]; omega⟩)
  rw [f1, Option.bind_some, rngT_ok (by omega) (by omega), Option.bind_some]
  obtain ⟨r2, f2, g2⟩ := foldT_cnt (g := fun (s8_ : (List (List Ts))) (k : Int) => t_law_b2 ns xs s8_ k) (fun n s => s.length + n ≤ 50) ((List.range (4 : Int).toNat).map fun (k : Nat) => (k : Int)) r1 (by rw [List.length_map, List.length_range]; show r1.length + 4 ≤ 50; omega) (by
    rintro n s k h hk
    obtain ⟨j, hj, rfl⟩ := List.mem_map.mp hk
    rw [List.mem_range] at hj
    have hj : j < 4 := hj
    unfold t_law_b2
    obtain ⟨ys, ey⟩ := spoilt_ex xs (by omega) (ns.getD 2 0) (k := 4 * (j : Int)) (by omega) (by omega)
    rw [show t_lw_cell ns 2 = some (ns.getD 2 0) from cell_eq ns 2, Option.bind_some, ey, Option.bind_some, appT_ok (by unfold LIM; omega)]
    exact ⟨_, rfl, by rw [List.length_append, List.length_singleton]; omega⟩)
  rw [f2, Option.bind_some, srch_none (fun r _ => by rw [told_eq32 L (by omega) r]; rfl), Option.bind_some]
  rfl
end LW
namespace LW
open PySem L2 PyProof.Rows LI
def topS (i : Nat) : Stmt := PySem.Challenge.pw_outweave_k32_ways_walked.main.body.getD i (.Pass ⟨0, 0, 0, 0⟩)
abbrev s_Listed_init : Stmt := L2.inClass (topS 2) 0
abbrev N_Listed_init : List Str := ["self", "sizes", "moves", "ends", "node", "cost", "name", "beyond"]
theorem sc_Listed_init : FnScope N_Listed_init ["self", "sizes", "moves", "ends"] (defScope s_Listed_init) := ⟨rfl, rfl, rfl, by decide +kernel, rfl, by decide +kernel, by decide +kernel⟩
abbrev s_Listed_first_node : Stmt := L2.inClass (topS 2) 1
abbrev N_Listed_first_node : List Str := ["self"]
theorem sc_Listed_first_node : FnScope N_Listed_first_node ["self"] (defScope s_Listed_first_node) := ⟨rfl, rfl, rfl, by decide +kernel, rfl, by decide +kernel, by decide +kernel⟩
abbrev s_Listed_last_at : Stmt := L2.inClass (topS 2) 2
abbrev N_Listed_last_at : List Str := ["self"]
theorem sc_Listed_last_at : FnScope N_Listed_last_at ["self"] (defScope s_Listed_last_at) := ⟨rfl, rfl, rfl, by decide +kernel, rfl, by decide +kernel, by decide +kernel⟩
abbrev s_Listed_nodes_at : Stmt := L2.inClass (topS 2) 3
abbrev N_Listed_nodes_at : List Str := ["self", "at", "state"]
theorem sc_Listed_nodes_at : FnScope N_Listed_nodes_at ["self", "at"] (defScope s_Listed_nodes_at) := ⟨rfl, rfl, rfl, by decide +kernel, rfl, by decide +kernel, by decide +kernel⟩
abbrev s_Listed_moves_from : Stmt := L2.inClass (topS 2) 4
abbrev N_Listed_moves_from : List Str := ["self", "node"]
theorem sc_Listed_moves_from : FnScope N_Listed_moves_from ["self", "node"] (defScope s_Listed_moves_from) := ⟨rfl, rfl, rfl, by decide +kernel, rfl, by decide +kernel, by decide +kernel⟩
abbrev s_Listed_is_end : Stmt := L2.inClass (topS 2) 5
abbrev N_Listed_is_end : List Str := ["self", "node"]
theorem sc_Listed_is_end : FnScope N_Listed_is_end ["self", "node"] (defScope s_Listed_is_end) := ⟨rfl, rfl, rfl, by decide +kernel, rfl, by decide +kernel, by decide +kernel⟩
abbrev s_walked : Stmt := topS 3
abbrev N_walked : List Str := ["trail", "names", "total", "node", "name", "found", "move"]
theorem sc_walked : FnScope N_walked ["trail", "names"] (defScope s_walked) := ⟨rfl, rfl, rfl, by decide +kernel, rfl, by decide +kernel, by decide +kernel⟩
abbrev s_lw_cell_at : Stmt := topS 5
abbrev N_lw_cell_at : List Str := ["_law_script", "_law_k"]
theorem sc_lw_cell_at : FnScope N_lw_cell_at ["_law_script", "_law_k"] (defScope s_lw_cell_at) := ⟨rfl, rfl, rfl, by decide +kernel, rfl, by decide +kernel, by decide +kernel⟩
abbrev s_lw_mix : Stmt := topS 6
abbrev N_lw_mix : List Str := ["_law_cell", "_law_k", "_law_rest", "_law_turn", "_law_number"]
theorem sc_lw_mix : FnScope N_lw_mix ["_law_cell", "_law_k"] (defScope s_lw_mix) := ⟨rfl, rfl, rfl, by decide +kernel, rfl, by decide +kernel, by decide +kernel⟩
abbrev s_lw_whole : Stmt := topS 7
abbrev N_lw_whole : List Str := ["_law_thing"]
theorem sc_lw_whole : FnScope N_lw_whole ["_law_thing"] (defScope s_lw_whole) := ⟨rfl, rfl, rfl, by decide +kernel, rfl, by decide +kernel, by decide +kernel⟩
abbrev s_lw_sizes : Stmt := topS 8
abbrev N_lw_sizes : List Str := ["_law_cell", "_law_k"]
theorem sc_lw_sizes : FnScope N_lw_sizes ["_law_cell"] (defScope s_lw_sizes) := ⟨rfl, rfl, rfl, by decide +kernel, rfl, by decide +kernel, by decide +kernel⟩
abbrev s_lw_nodes : Stmt := topS 9
abbrev N_lw_nodes : List Str := ["_law_sizes_here", "_law_nodes_here", "_law_at", "_law_state"]
theorem sc_lw_nodes : FnScope N_lw_nodes ["_law_sizes_here"] (defScope s_lw_nodes) := ⟨rfl, rfl, rfl, by decide +kernel, rfl, by decide +kernel, by decide +kernel⟩
abbrev s_lw_moves : Stmt := topS 10
abbrev N_lw_moves : List Str := ["_law_script", "_law_nodes_here", "_law_moves_here", "_law_many", "_law_cell", "_law_one", "_law_beyond", "_law_other", "_law_cost", "_law_node"]
theorem sc_lw_moves : FnScope N_lw_moves ["_law_script", "_law_nodes_here"] (defScope s_lw_moves) := ⟨rfl, rfl, rfl, by decide +kernel, rfl, by decide +kernel, by decide +kernel⟩
abbrev s_lw_ends : Stmt := topS 11
abbrev N_lw_ends : List Str := ["_law_cell", "_law_nodes_here", "_law_ends_here", "_law_k"]
theorem sc_lw_ends : FnScope N_lw_ends ["_law_cell", "_law_nodes_here"] (defScope s_lw_ends) := ⟨rfl, rfl, rfl, by decide +kernel, rfl, by decide +kernel, by decide +kernel⟩
abbrev s_lw_walked : Stmt := topS 12
abbrev N_lw_walked : List Str := ["_law_moves_here", "_law_ends_here", "_law_names", "_law_node", "_law_total", "_law_name", "_law_here", "_law_move"]
theorem sc_lw_walked : FnScope N_lw_walked ["_law_moves_here", "_law_ends_here", "_law_names"] (defScope s_lw_walked) := ⟨rfl, rfl, rfl, by decide +kernel, rfl, by decide +kernel, by decide +kernel⟩
abbrev s_lw_row : Stmt := topS 13
abbrev N_lw_row : List Str := ["_law_script", "_law_moves_here", "_law_node", "_law_names", "_law_cell", "_law_here", "_law_move"]
theorem sc_lw_row : FnScope N_lw_row ["_law_script", "_law_moves_here"] (defScope s_lw_row) := ⟨rfl, rfl, rfl, by decide +kernel, rfl, by decide +kernel, by decide +kernel⟩
abbrev s_lw_spoilt : Stmt := topS 14
abbrev N_lw_spoilt : List Str := ["_law_names", "_law_cell", "_law_k", "_law_at", "_law_way", "_law_word"]
theorem sc_lw_spoilt : FnScope N_lw_spoilt ["_law_names", "_law_cell", "_law_k"] (defScope s_lw_spoilt) := ⟨rfl, rfl, rfl, by decide +kernel, rfl, by decide +kernel, by decide +kernel⟩
abbrev s_lw_told : Stmt := topS 15
abbrev N_lw_told : List Str := ["_law_trail", "_law_moves_here", "_law_ends_here", "_law_names", "_law_handed", "_law_found", "_law_due"]
theorem sc_lw_told : FnScope N_lw_told ["_law_trail", "_law_moves_here", "_law_ends_here", "_law_names"] (defScope s_lw_told) := ⟨rfl, rfl, rfl, by decide +kernel, rfl, by decide +kernel, by decide +kernel⟩
abbrev s_lw_truth : Stmt := topS 16
abbrev N_lw_truth : List Str := ["_law_found", "_law_due"]
theorem sc_lw_truth : FnScope N_lw_truth ["_law_found", "_law_due"] (defScope s_lw_truth) := ⟨rfl, rfl, rfl, by decide +kernel, rfl, by decide +kernel, by decide +kernel⟩
abbrev s_lw_methods : Stmt := topS 17
abbrev N_lw_methods : List Str := ["_law_trail", "_law_sizes_here", "_law_moves_here", "_law_ends_here", "_law_at", "_law_told_here", "_law_node", "_law_here", "_law_state", "_law_move"]
theorem sc_lw_methods : FnScope N_lw_methods ["_law_trail", "_law_sizes_here", "_law_moves_here", "_law_ends_here"] (defScope s_lw_methods) := ⟨rfl, rfl, rfl, by decide +kernel, rfl, by decide +kernel, by decide +kernel⟩
abbrev s_law : Stmt := topS 18
abbrev N_law : List Str := ["_law_script", "_law_sizes_here", "_law_nodes_here", "_law_moves_here", "_law_ends_here", "_law_trail", "_law_names", "_law_rows", "_law_k", "_law_row_here"]
theorem sc_law : FnScope N_law ["_law_script"] (defScope s_law) := ⟨rfl, rfl, rfl, by decide +kernel, rfl, by decide +kernel, by decide +kernel⟩
structure Tx (K : PySem.W.Frag) (mg : Str → Option Value) (w : World) where
  cl : Nat → Addr
  a_Listed_init : Addr
  d_Listed_init : FuncData
  f_Listed_init : Fun K "__init__" "Listed.__init__" s_Listed_init a_Listed_init d_Listed_init
  b_Listed_init : Binds K d_Listed_init ["self", "sizes", "moves", "ends"] []
  a_Listed_first_node : Addr
  d_Listed_first_node : FuncData
  f_Listed_first_node : Fun K "first_node" "Listed.first_node" s_Listed_first_node a_Listed_first_node d_Listed_first_node
  b_Listed_first_node : Binds K d_Listed_first_node ["self"] []
  a_Listed_last_at : Addr
  d_Listed_last_at : FuncData
  f_Listed_last_at : Fun K "last_at" "Listed.last_at" s_Listed_last_at a_Listed_last_at d_Listed_last_at
  b_Listed_last_at : Binds K d_Listed_last_at ["self"] []
  a_Listed_nodes_at : Addr
  d_Listed_nodes_at : FuncData
  f_Listed_nodes_at : Fun K "nodes_at" "Listed.nodes_at" s_Listed_nodes_at a_Listed_nodes_at d_Listed_nodes_at
  b_Listed_nodes_at : Binds K d_Listed_nodes_at ["self", "at"] []
  a_Listed_moves_from : Addr
  d_Listed_moves_from : FuncData
  f_Listed_moves_from : Fun K "moves_from" "Listed.moves_from" s_Listed_moves_from a_Listed_moves_from d_Listed_moves_from
  b_Listed_moves_from : Binds K d_Listed_moves_from ["self", "node"] []
  a_Listed_is_end : Addr
  d_Listed_is_end : FuncData
  f_Listed_is_end : Fun K "is_end" "Listed.is_end" s_Listed_is_end a_Listed_is_end d_Listed_is_end
  b_Listed_is_end : Binds K d_Listed_is_end ["self", "node"] []
  a_walked : Addr
  d_walked : FuncData
  f_walked : Fun K "walked" "walked" s_walked a_walked d_walked
  b_walked : Binds K d_walked ["trail", "names"] []
  g_walked : mg "walked" = some (.ref a_walked)
  a_lw_cell_at : Addr
  d_lw_cell_at : FuncData
  f_lw_cell_at : Fun K "_law_cell_at" "_law_cell_at" s_lw_cell_at a_lw_cell_at d_lw_cell_at
  b_lw_cell_at : Binds K d_lw_cell_at ["_law_script", "_law_k"] []
  g_lw_cell_at : mg "_law_cell_at" = some (.ref a_lw_cell_at)
  a_lw_mix : Addr
  d_lw_mix : FuncData
  f_lw_mix : Fun K "_law_mix" "_law_mix" s_lw_mix a_lw_mix d_lw_mix
  b_lw_mix : Binds K d_lw_mix ["_law_cell", "_law_k"] []
  g_lw_mix : mg "_law_mix" = some (.ref a_lw_mix)
  a_lw_whole : Addr
  d_lw_whole : FuncData
  f_lw_whole : Fun K "_law_whole" "_law_whole" s_lw_whole a_lw_whole d_lw_whole
  b_lw_whole : Binds K d_lw_whole ["_law_thing"] []
  g_lw_whole : mg "_law_whole" = some (.ref a_lw_whole)
  a_lw_sizes : Addr
  d_lw_sizes : FuncData
  f_lw_sizes : Fun K "_law_sizes" "_law_sizes" s_lw_sizes a_lw_sizes d_lw_sizes
  b_lw_sizes : Binds K d_lw_sizes ["_law_cell"] []
  g_lw_sizes : mg "_law_sizes" = some (.ref a_lw_sizes)
  a_lw_nodes : Addr
  d_lw_nodes : FuncData
  f_lw_nodes : Fun K "_law_nodes" "_law_nodes" s_lw_nodes a_lw_nodes d_lw_nodes
  b_lw_nodes : Binds K d_lw_nodes ["_law_sizes_here"] []
  g_lw_nodes : mg "_law_nodes" = some (.ref a_lw_nodes)
  a_lw_moves : Addr
  d_lw_moves : FuncData
  f_lw_moves : Fun K "_law_moves" "_law_moves" s_lw_moves a_lw_moves d_lw_moves
  b_lw_moves : Binds K d_lw_moves ["_law_script", "_law_nodes_here"] []
  g_lw_moves : mg "_law_moves" = some (.ref a_lw_moves)
  a_lw_ends : Addr
  d_lw_ends : FuncData
  f_lw_ends : Fun K "_law_ends" "_law_ends" s_lw_ends a_lw_ends d_lw_ends
  b_lw_ends : Binds K d_lw_ends ["_law_cell", "_law_nodes_here"] []
  g_lw_ends : mg "_law_ends" = some (.ref a_lw_ends)
  a_lw_walked : Addr
  d_lw_walked : FuncData
  f_lw_walked : Fun K "_law_walked" "_law_walked" s_lw_walked a_lw_walked d_lw_walked
  b_lw_walked : Binds K d_lw_walked ["_law_moves_here", "_law_ends_here", "_law_names"] []
  g_lw_walked : mg "_law_walked" = some (.ref a_lw_walked)
  a_lw_row : Addr
  d_lw_row : FuncData
  f_lw_row : Fun K "_law_row" "_law_row" s_lw_row a_lw_row d_lw_row
  b_lw_row : Binds K d_lw_row ["_law_script", "_law_moves_here"] []
  g_lw_row : mg "_law_row" = some (.ref a_lw_row)
  a_lw_spoilt : Addr
  d_lw_spoilt : FuncData
  f_lw_spoilt : Fun K "_law_spoilt" "_law_spoilt" s_lw_spoilt a_lw_spoilt d_lw_spoilt
  b_lw_spoilt : Binds K d_lw_spoilt ["_law_names", "_law_cell", "_law_k"] []
  g_lw_spoilt : mg "_law_spoilt" = some (.ref a_lw_spoilt)
  a_lw_told : Addr
  d_lw_told : FuncData
  f_lw_told : Fun K "_law_told" "_law_told" s_lw_told a_lw_told d_lw_told
  b_lw_told : Binds K d_lw_told ["_law_trail", "_law_moves_here", "_law_ends_here", "_law_names"] []
  g_lw_told : mg "_law_told" = some (.ref a_lw_told)
  a_lw_truth : Addr
  d_lw_truth : FuncData
  f_lw_truth : Fun K "_law_truth" "_law_truth" s_lw_truth a_lw_truth d_lw_truth
  b_lw_truth : Binds K d_lw_truth ["_law_found", "_law_due"] []
  g_lw_truth : mg "_law_truth" = some (.ref a_lw_truth)
  a_lw_methods : Addr
  d_lw_methods : FuncData
  f_lw_methods : Fun K "_law_methods" "_law_methods" s_lw_methods a_lw_methods d_lw_methods
  b_lw_methods : Binds K d_lw_methods ["_law_trail", "_law_sizes_here", "_law_moves_here", "_law_ends_here"] []
  g_lw_methods : mg "_law_methods" = some (.ref a_lw_methods)
  a_law : Addr
  d_law : FuncData
  f_law : Fun K "law" "law" s_law a_law d_law
  b_law : Binds K d_law ["_law_script"] []
  g_law : mg "law" = some (.ref a_law)
  z_bool : mg "bool" = none
  z_int : mg "int" = none
  z_isinstance : mg "isinstance" = none
  z_len : mg "len" = none
  z_list : mg "list" = none
  z_range : mg "range" = none
  cls_Listed : Cls K (cl 1)
  gc_Listed : mg "Listed" = some (.ref (cl 1))
  na_Listed_sizes : NoAttr K (cl 1) "sizes"
  na_Listed_steps : NoAttr K (cl 1) "steps"
  na_Listed_shut : NoAttr K (cl 1) "shut"
  me_Listed_first_node : Meth K (cl 1) "first_node" a_Listed_first_node
  me_Listed_moves_from : Meth K (cl 1) "moves_from" a_Listed_moves_from
  me_Listed_is_end : Meth K (cl 1) "is_end" a_Listed_is_end
  me_Listed_last_at : Meth K (cl 1) "last_at" a_Listed_last_at
  me_Listed_nodes_at : Meth K (cl 1) "nodes_at" a_Listed_nodes_at
  mk_Listed : Mk K (cl 1) a_Listed_init
section
variable {P : Program} {w : World} {K : PySem.W.Frag} {mg : Str → Option Value} {base : Heap}
theorem ok_Listed_init (T : Tx K mg w) : FnOk P w K mg base CX0 1 T.a_Listed_init T.d_Listed_init ["self", "sizes", "moves", "ends"] (spD ⟨K, T.cl, w⟩ F_Listed_init) := by
  refine ok_def (N := N_Listed_init) (m := m_Listed_init) (kp := [true, true, true, true]) T.f_Listed_init sc_Listed_init rfl (fun cdv A outer s H XE en ek hr => ?_)
  have hu := hr.units
  have nd := (sc_Listed_init).nd
  exact (s_cons (s_fld 1 T.cls_Listed T.na_Listed_sizes (g_f (f_bty call_list_of op_listD (by rfl) T.z_list (by decide +kernel) (a_cons (r_v 1) a_nil))) (p_v 0))
      (s_cons (s_fld 1 T.cls_Listed T.na_Listed_steps (g_f f_dnewN) (p_v 0))
      (s_cons (s_for [4, 5, 6, 7] PassesOwn.never rfl (i_seq (r_v 2)) (g_tup rfl (gs_cons (g_name 4 nd (by rfl) (by first | exact Or.inl rfl | exact Or.inr rfl) (by rw [ek]; decide)) (gs_cons (g_name 5 nd (by rfl) (by first | exact Or.inl rfl | exact Or.inr rfl) (by rw [ek]; decide)) (gs_cons (g_name 6 nd (by rfl) (by first | exact Or.inl rfl | exact Or.inr rfl) (by rw [ek]; decide)) (gs_cons (g_name 7 nd (by rfl) (by first | exact Or.inl rfl | exact Or.inr rfl) (by rw [ek]; decide)) gs_nil)))) (hlen := len_cons (len_cons (len_cons (len_cons (fun _ _ _ h => len_nil h)))))) (s_cons (s_expr (g_sda (hr9 hu) (p_fld 1 T.cls_Listed T.na_Listed_steps (p_v 0)) (r_v 4) (f_tup (a_cons (r_v 5) (a_cons (r_v 6) (a_cons (r_v 7) a_nil))))))
      s_nil))
      (s_cons (s_fld 1 T.cls_Listed T.na_Listed_shut (g_f (f_bty call_list_of op_listD (by rfl) T.z_list (by decide +kernel) (a_cons (r_v 3) a_nil))) (p_v 0))
      s_nil))))
theorem ok_Listed_first_node (T : Tx K mg w) : FnOk P w K mg base CX0 1 T.a_Listed_first_node T.d_Listed_first_node ["self"] (spD ⟨K, T.cl, w⟩ F_Listed_first_node) := by
  refine ok_def (N := N_Listed_first_node) (m := m_Listed_first_node) (kp := [true]) T.f_Listed_first_node sc_Listed_first_node rfl (fun cdv A outer s H XE en ek hr => ?_)
  have hu := hr.units
  have nd := (sc_Listed_first_node).nd
  exact (s_cons (s_ret (g_f (f_tup (a_cons (r_f f_int) (a_cons (r_f f_int) a_nil))))) s_nil)
theorem ok_Listed_last_at (T : Tx K mg w) : FnOk P w K mg base CX0 1 T.a_Listed_last_at T.d_Listed_last_at ["self"] (spD ⟨K, T.cl, w⟩ F_Listed_last_at) := by
  refine ok_def (N := N_Listed_last_at) (m := m_Listed_last_at) (kp := [true]) T.f_Listed_last_at sc_Listed_last_at rfl (fun cdv A outer s H XE en ek hr => ?_)
  have hu := hr.units
  have nd := (sc_Listed_last_at).nd
  exact (s_cons (s_ret (g_f (f_bin op_sub op_subD (r_f (f_blt cr_len op_lenD (by rfl) T.z_len (by decide +kernel) (a_cons (r_pl (p_fld 1 T.cls_Listed T.na_Listed_sizes (p_v 0))) a_nil))) (r_f f_int)))) s_nil)
theorem ok_Listed_nodes_at (T : Tx K mg w) : FnOk P w K mg base CX0 1 T.a_Listed_nodes_at T.d_Listed_nodes_at ["self", "at"] (spD ⟨K, T.cl, w⟩ F_Listed_nodes_at) := by
  refine ok_def (N := N_Listed_nodes_at) (m := m_Listed_nodes_at) (kp := [true, true]) T.f_Listed_nodes_at sc_Listed_nodes_at rfl (fun cdv A outer s H XE en ek hr => ?_)
  have hu := hr.units
  have nd := (sc_Listed_nodes_at).nd
  exact (s_cons (s_ret (g_f (f_lcV [("state", 2)] (by rfl) rfl nd (i_up (i_rng1 (by rfl) T.z_range (r_ix hu (r_pl (p_fld 1 T.cls_Listed T.na_Listed_sizes (p_v 0))) (r_v 1)))) (blkOk_by (own := [("state", 2)]) (N := N_Listed_nodes_at) (sc := defScope s_Listed_nodes_at) (by decide +kernel)) (fun _ _ _ _ _ => (g_name 2 nd (by rfl) (by first | exact Or.inl rfl | exact Or.inr rfl) (by rw [ek]; decide))) (fun _ _ _ _ _ => ts_nil) (fun _ _ _ _ _ => (r_f (f_tup (a_cons (r_v 1) (a_cons (r_v 2) a_nil))))) (by decide) (by rw [ek]; decide)))) s_nil)
theorem ok_Listed_moves_from (T : Tx K mg w) : FnOk P w K mg base CX0 1 T.a_Listed_moves_from T.d_Listed_moves_from ["self", "node"] (spD ⟨K, T.cl, w⟩ F_Listed_moves_from) := by
  refine ok_def (N := N_Listed_moves_from) (m := m_Listed_moves_from) (kp := [true, true]) T.f_Listed_moves_from sc_Listed_moves_from rfl (fun cdv A outer s H XE en ek hr => ?_)
  have hu := hr.units
  have nd := (sc_Listed_moves_from).nd
  exact (s_cons (s_ret (g_f (f_view [0] (f_bty call_list_of op_listD (by rfl) T.z_list (by decide +kernel) (a_cons (r_getN2 (hr9 hu) (r_pl (p_fld 1 T.cls_Listed T.na_Listed_steps (p_v 0))) (r_v 1) (r_f (f_cold (f_lst a_nil)))) a_nil))))) s_nil)
theorem ok_Listed_is_end (T : Tx K mg w) : FnOk P w K mg base CX0 1 T.a_Listed_is_end T.d_Listed_is_end ["self", "node"] (spD ⟨K, T.cl, w⟩ F_Listed_is_end) := by
  refine ok_def (N := N_Listed_is_end) (m := m_Listed_is_end) (kp := [true, true]) T.f_Listed_is_end sc_Listed_is_end rfl (fun cdv A outer s H XE en ek hr => ?_)
  have hu := hr.units
  have nd := (sc_Listed_is_end).nd
  exact (s_cons (s_ret (g_f (f_cmp (op_inD (u65 hr)) op_inLD (r_v 1) (r_pl (p_fld 1 T.cls_Listed T.na_Listed_shut (p_v 0))) (by rfl)))) s_nil)
theorem ok_walked (T : Tx K mg w) : FnOk P w K mg base CX0 2 T.a_walked T.d_walked ["trail", "names"] (spD ⟨K, T.cl, w⟩ F_walked) := by
  refine ok_def (N := N_walked) (m := m_walked) (kp := [true, true]) T.f_walked sc_walked rfl (fun cdv A outer s H XE en ek hr => ?_)
  have hu := hr.units
  have nd := (sc_walked).nd
  exact (s_cons (s_set 2 nd (by rfl) (by first | exact Or.inl rfl | exact Or.inr rfl) (by rw [ek]; decide) (g_f f_int))
      (s_cons (s_set 3 nd (by rfl) (by first | exact Or.inl rfl | exact Or.inr rfl) (by rw [ek]; decide) (g_f (f_look0 1 (r_pl (p_v 0)) T.cls_Listed T.me_Listed_first_node (ok_Listed_first_node T) (hr.mono (by decide)) T.b_Listed_first_node pass0)))
      (s_cons (s_for [4, 5] PassesOwn.never rfl (i_seq (r_v 1)) (g_name 4 nd (by rfl) (by first | exact Or.inl rfl | exact Or.inr rfl) (by rw [ek]; decide)) (s_cons (s_seqI 5 (s_setLcV 5 [("move", 6)] (by rfl) rfl nd (by rfl) (by rfl) (by rw [ek]; decide) (i_seqV (r_f (f_cold (f_look 1 (r_pl (p_v 0)) T.cls_Listed T.me_Listed_moves_from (ok_Listed_moves_from T) (hr.mono (by decide)) T.b_Listed_moves_from pass0 (a_cons (r_v 3) a_nil))))) (blkOk_by (own := [("move", 6)]) (N := N_walked) (sc := defScope s_walked) (by decide +kernel)) (fun _ _ _ _ _ => (g_name 6 nd (by rfl) (by first | exact Or.inl rfl | exact Or.inr rfl) (by rw [ek]; decide))) (fun _ _ _ _ _ => (ts_one (tv_cmp (op_eqD hu) op_eqqD flat_eq (v_r (r_ix hu (r_v 6) (r_f f_int))) (v_r (r_v 4)) (nomark _)))) (fun _ _ _ _ _ => (r_v 6)) (by decide) (by rw [ek]; decide) (sw_true rfl rfl rfl (by decide +kernel))))
      (s_cons (s_if (tv_cmp (op_eqD hu) op_eqqD flat_eq (v_r (r_v 5)) (v_r (r_f (f_lst a_nil))) (nomark _)) (s_cons (s_ret (g_f f_non)) s_nil) s_nil)
      (s_cons (s_set 2 nd (by rfl) (by first | exact Or.inl rfl | exact Or.inr rfl) (by rw [ek]; decide) (g_f (f_bin opr_add op_addD (r_v 2) (r_ix hu (r_ix hu (r_v 5) (r_f f_int)) (r_f f_int)))))
      (s_cons (s_set 3 nd (by rfl) (by first | exact Or.inl rfl | exact Or.inr rfl) (by rw [ek]; decide) (g_r (r_ix hu (r_ix hu (r_v 5) (r_f f_int)) (r_f f_int))))
      s_nil)))))
      (s_cons (s_if (t_not (t_val (r_f (f_look 1 (r_pl (p_v 0)) T.cls_Listed T.me_Listed_is_end (ok_Listed_is_end T) (hr.mono (by decide)) T.b_Listed_is_end pass0 (a_cons (r_v 3) a_nil))))) (s_cons (s_ret (g_f f_non)) s_nil) s_nil)
      (s_cons (s_ret (g_r (r_v 2))) s_nil)))))
theorem ok_lw_cell_at (T : Tx K mg w) : FnOk P w K mg base CX0 1 T.a_lw_cell_at T.d_lw_cell_at ["_law_script", "_law_k"] (spD ⟨K, T.cl, w⟩ F_lw_cell_at) := by
  refine ok_def (N := N_lw_cell_at) (m := m_lw_cell_at) (kp := [true, true]) T.f_lw_cell_at sc_lw_cell_at rfl (fun cdv A outer s H XE en ek hr => ?_)
  have hu := hr.units
  have nd := (sc_lw_cell_at).nd
  exact (s_cons (s_if (t_cmp opr_lt op_cmpD (r_v 1) (r_f (f_blt cr_len op_lenD (by rfl) T.z_len (by decide +kernel) (a_cons (r_v 0) a_nil))) (nomark _)) (s_cons (s_ret (g_r (r_ix hu (r_v 0) (r_v 1)))) s_nil) s_nil)
      (s_cons (s_ret (g_f f_int)) s_nil))
theorem ok_lw_mix (T : Tx K mg w) : FnOk P w K mg base CX0 1 T.a_lw_mix T.d_lw_mix ["_law_cell", "_law_k"] (spD ⟨K, T.cl, w⟩ F_lw_mix) := by
  refine ok_def (N := N_lw_mix) (m := m_lw_mix) (kp := [true, true]) T.f_lw_mix sc_lw_mix rfl (fun cdv A outer s H XE en ek hr => ?_)
  have hu := hr.units
  have nd := (sc_lw_mix).nd
  exact (s_cons (s_if (t_cmp opr_gt op_cmpD (r_v 0) (r_f (f_bin op_pow op_powD (r_f f_int) (r_f f_int))) (nomark _)) (s_cons (s_set 2 nd (by rfl) (by first | exact Or.inl rfl | exact Or.inr rfl) (by rw [ek]; decide) (g_r (r_v 0)))
      (s_cons (s_for [3] PassesOwn.never rfl (i_rng1 (by rfl) T.z_range (r_v 1)) (g_name 3 nd (by rfl) (by first | exact Or.inl rfl | exact Or.inr rfl) (by rw [ek]; decide)) (s_cons (s_set 2 nd (by rfl) (by first | exact Or.inl rfl | exact Or.inr rfl) (by rw [ek]; decide) (g_f (f_bin op_fdivW op_fdivD (r_v 2) (r_f (f_bin op_pow op_powD (r_f f_int) (r_f f_int))))))
      s_nil))
      (s_cons (s_ret (g_f (f_bin op_mod op_modD (r_v 2) (r_f (f_bin op_pow op_powD (r_f f_int) (r_f f_int)))))) s_nil))) s_nil)
      (s_cons (s_set 4 nd (by rfl) (by first | exact Or.inl rfl | exact Or.inr rfl) (by rw [ek]; decide) (g_f (f_bin opr_add op_addD (r_f (f_bin op_mod op_modD (r_v 0) (r_f f_int))) (r_f f_int))))
      (s_cons (s_for [3] PassesOwn.never rfl (i_rng1 (by rfl) T.z_range (r_f (f_bin opr_add op_addD (r_v 1) (r_f f_int)))) (g_name 3 nd (by rfl) (by first | exact Or.inl rfl | exact Or.inr rfl) (by rw [ek]; decide)) (s_cons (s_set 4 nd (by rfl) (by first | exact Or.inl rfl | exact Or.inr rfl) (by rw [ek]; decide) (g_f (f_bin op_mod op_modD (r_f (f_bin opr_add op_addD (r_f (f_bin opr_mul op_mulD (r_v 4) (r_f f_int))) (r_f f_int))) (r_f f_int))))
      s_nil))
      (s_cons (s_ret (g_f (f_bin op_fdivW op_fdivD (r_f (f_bin op_mod op_modD (r_f (f_bin opr_mul op_mulD (r_v 4) (r_v 4))) (r_f f_int))) (r_f f_int)))) s_nil))))
theorem ok_lw_whole (T : Tx K mg w) : FnOk P w K mg base CX0 1 T.a_lw_whole T.d_lw_whole ["_law_thing"] (spD ⟨K, T.cl, w⟩ F_lw_whole) := by
  refine ok_def (N := N_lw_whole) (m := m_lw_whole) (kp := [true]) T.f_lw_whole sc_lw_whole rfl (fun cdv A outer s H XE en ek hr => ?_)
  have hu := hr.units
  have nd := (sc_lw_whole).nd
  exact (s_cons (s_ret (g_f (f_and (r_f (f_isi' (r_v 0) (pe_bltn (v := .ty "int") (u := .type "int") (by rfl) T.z_int (by decide +kernel) rfl) T.z_isinstance)) (f_one (f_not (r_f (f_isi' (r_v 0) (pe_bltn (v := .ty "bool") (u := .type "bool") (by rfl) T.z_bool (by decide +kernel) rfl) T.z_isinstance))))))) s_nil)
theorem ok_lw_sizes (T : Tx K mg w) : FnOk P w K mg base CX0 2 T.a_lw_sizes T.d_lw_sizes ["_law_cell"] (spD ⟨K, T.cl, w⟩ F_lw_sizes) := by
  refine ok_def (N := N_lw_sizes) (m := m_lw_sizes) (kp := [true]) T.f_lw_sizes sc_lw_sizes rfl (fun cdv A outer s H XE en ek hr => ?_)
  have hu := hr.units
  have nd := (sc_lw_sizes).nd
  exact (s_cons (s_ret (g_f (f_lcV [("_law_k", 1)] (by rfl) rfl nd (i_up (i_rng1 (by rfl) T.z_range (r_f (f_bin opr_add op_addD (r_f f_int) (r_f (f_bin op_mod op_modD (r_f (f_call (ok_lw_mix T) (hr.mono (by decide)) (by rfl) T.g_lw_mix T.f_lw_mix.kp T.b_lw_mix pass0 (a_cons (r_v 0) (a_cons (r_f f_int) a_nil)))) (r_f f_int))))))) (blkOk_by (own := [("_law_k", 1)]) (N := N_lw_sizes) (sc := defScope s_lw_sizes) (by decide +kernel)) (fun _ _ _ _ _ => (g_name 1 nd (by rfl) (by first | exact Or.inl rfl | exact Or.inr rfl) (by rw [ek]; decide))) (fun _ _ _ _ _ => ts_nil) (fun _ _ _ _ _ => (r_f (f_bin opr_add op_addD (r_f f_int) (r_f (f_bin op_mod op_modD (r_f (f_call (ok_lw_mix T) (hr.mono (by decide)) (by rfl) T.g_lw_mix T.f_lw_mix.kp T.b_lw_mix pass0 (a_cons (r_v 0) (a_cons (r_v 1) a_nil)))) (r_f f_int)))))) (by decide) (by rw [ek]; decide)))) s_nil)
theorem ok_lw_nodes (T : Tx K mg w) : FnOk P w K mg base CX0 1 T.a_lw_nodes T.d_lw_nodes ["_law_sizes_here"] (spD ⟨K, T.cl, w⟩ F_lw_nodes) := by
  refine ok_def (N := N_lw_nodes) (m := m_lw_nodes) (kp := [true]) T.f_lw_nodes sc_lw_nodes rfl (fun cdv A outer s H XE en ek hr => ?_)
  have hu := hr.units
  have nd := (sc_lw_nodes).nd
  exact (s_cons (s_set 1 nd (by rfl) (by first | exact Or.inl rfl | exact Or.inr rfl) (by rw [ek]; decide) (g_f (f_lst a_nil)))
      (s_cons (s_for [2, 3] PassesOwn.never rfl (i_rng1 (by rfl) T.z_range (r_f (f_blt cr_len op_lenD (by rfl) T.z_len (by decide +kernel) (a_cons (r_v 0) a_nil)))) (g_name 2 nd (by rfl) (by first | exact Or.inl rfl | exact Or.inr rfl) (by rw [ek]; decide)) (s_cons (s_for [3] PassesOwn.never rfl (i_rng1 (by rfl) T.z_range (r_ix hu (r_v 0) (r_v 2))) (g_name 3 nd (by rfl) (by first | exact Or.inl rfl | exact Or.inr rfl) (by rw [ek]; decide)) (s_cons (s_expr (g_app (p_v 1) (f_tup (a_cons (r_v 2) (a_cons (r_v 3) a_nil)))))
      s_nil))
      s_nil))
      (s_cons (s_ret (g_mv (p_v 1))) s_nil)))
theorem ok_lw_moves (T : Tx K mg w) : FnOk P w K mg base CX0 2 T.a_lw_moves T.d_lw_moves ["_law_script", "_law_nodes_here"] (spD ⟨K, T.cl, w⟩ F_lw_moves) := by
  refine ok_def (N := N_lw_moves) (m := m_lw_moves) (kp := [true, true]) T.f_lw_moves sc_lw_moves rfl (fun cdv A outer s H XE en ek hr => ?_)
  have hu := hr.units
  have nd := (sc_lw_moves).nd
  exact (s_cons (s_set 2 nd (by rfl) (by first | exact Or.inl rfl | exact Or.inr rfl) (by rw [ek]; decide) (g_f (f_lst a_nil)))
      (s_cons (s_set 3 nd (by rfl) (by first | exact Or.inl rfl | exact Or.inr rfl) (by rw [ek]; decide) (g_f f_dnewN))
      (s_cons (s_for [4, 5, 6, 7, 8] PassesOwn.never rfl (i_seq (r_f (f_cold (f_sl (r_v 0) (o_some (r_f f_int)) (o_some (r_f f_int)))))) (g_name 4 nd (by rfl) (by first | exact Or.inl rfl | exact Or.inr rfl) (by rw [ek]; decide)) (s_cons (s_set 5 nd (by rfl) (by first | exact Or.inl rfl | exact Or.inr rfl) (by rw [ek]; decide) (g_r (r_ix hu (r_v 1) (r_f (f_bin op_mod op_modD (r_f (f_call (ok_lw_mix T) (hr.mono (by decide)) (by rfl) T.g_lw_mix T.f_lw_mix.kp T.b_lw_mix pass0 (a_cons (r_v 4) (a_cons (r_f f_int) a_nil)))) (r_f (f_blt cr_len op_lenD (by rfl) T.z_len (by decide +kernel) (a_cons (r_v 1) a_nil))))))))
      (s_cons (s_seqI 6 (s_setLcV 6 [("_law_node", 9)] (by rfl) rfl nd (by rfl) (by rfl) (by rw [ek]; decide) (i_seqV (r_v 1)) (blkOk_by (own := [("_law_node", 9)]) (N := N_lw_moves) (sc := defScope s_lw_moves) (by decide +kernel)) (fun _ _ _ _ _ => (g_name 9 nd (by rfl) (by first | exact Or.inl rfl | exact Or.inr rfl) (by rw [ek]; decide))) (fun _ _ _ _ _ => (ts_one (t_cmp opr_ge op_cmpD (r_ix hu (r_v 9) (r_f f_int)) (r_ix hu (r_v 5) (r_f f_int)) (nomark _)))) (fun _ _ _ _ _ => (r_v 9)) (by decide) (by rw [ek]; decide) (sw_true rfl rfl rfl (by decide +kernel))))
      (s_cons (s_set 7 nd (by rfl) (by first | exact Or.inl rfl | exact Or.inr rfl) (by rw [ek]; decide) (g_r (r_ix hu (r_v 6) (r_f (f_bin op_mod op_modD (r_f (f_call (ok_lw_mix T) (hr.mono (by decide)) (by rfl) T.g_lw_mix T.f_lw_mix.kp T.b_lw_mix pass0 (a_cons (r_v 4) (a_cons (r_f f_int) a_nil)))) (r_f (f_blt cr_len op_lenD (by rfl) T.z_len (by decide +kernel) (a_cons (r_v 6) a_nil))))))))
      (s_cons (s_set 8 nd (by rfl) (by first | exact Or.inl rfl | exact Or.inr rfl) (by rw [ek]; decide) (g_f (f_bin op_mod op_modD (r_f (f_call (ok_lw_mix T) (hr.mono (by decide)) (by rfl) T.g_lw_mix T.f_lw_mix.kp T.b_lw_mix pass0 (a_cons (r_v 4) (a_cons (r_f f_int) a_nil)))) (r_ix hu (r_f (f_lst (a_cons (r_f f_int) (a_cons (r_f f_int) (a_cons (r_f (f_bin op_pow op_powD (r_f f_int) (r_f f_int))) a_nil))))) (r_f (f_bin op_mod op_modD (r_f (f_call (ok_lw_mix T) (hr.mono (by decide)) (by rfl) T.g_lw_mix T.f_lw_mix.kp T.b_lw_mix pass0 (a_cons (r_v 4) (a_cons (r_f f_int) a_nil)))) (r_f f_int)))))))
      (s_cons (s_if (t_w (w_and (tv_cmp (op_eqD hu) op_eqqD flat_eq (v_r (r_ix hu (r_v 7) (r_f f_int))) (v_r (r_ix hu (r_v 5) (r_f f_int))) (nomark _)) (w_and1 (tv_cmp (op_eqD hu) op_eqqD flat_eq (v_r (r_v 8)) (v_r (r_f f_int)) (nomark _))))) (s_cons (s_set 8 nd (by rfl) (by first | exact Or.inl rfl | exact Or.inr rfl) (by rw [ek]; decide) (g_f f_int))
      s_nil) s_nil)
      (s_kill [] (s_cons (s_set 8 nd (by rfl) (by first | exact Or.inl rfl | exact Or.inr rfl) (by rw [ek]; decide) (g_f (f_bin opr_mul op_mulD (r_v 8) (r_ix hu (r_f (f_lst (a_cons (r_f f_int) (a_cons (r_f f_int) (a_cons (r_f f_int) (a_cons (r_f (f_bin op_pow op_powD (r_f f_int) (r_f f_int))) a_nil)))))) (r_f (f_bin op_mod op_modD (r_f (f_call (ok_lw_mix T) (hr.mono (by decide)) (by rfl) T.g_lw_mix T.f_lw_mix.kp T.b_lw_mix pass0 (a_cons (r_v 4) (a_cons (r_f f_int) a_nil)))) (r_f f_int)))))))
      (s_cons (s_expr (g_app (p_v 2) (f_tup (a_cons (r_v 5) (a_cons (r_v 8) (a_cons (r_f (f_bin opr_mul op_mulD (r_ix hu (r_f (f_str [97, 98])) (r_f (f_bin op_mod op_modD (r_v 4) (r_f f_int)))) (r_getN2 (hr9 hu) (r_v 3) (r_v 5) (r_f f_int)))) (a_cons (r_v 7) a_nil)))))))
      (s_cons (s_dputN (hr9 hu) (g_f (f_bin opr_add op_addD (r_getN2 (hr9 hu) (r_v 3) (r_v 5) (r_f f_int)) (r_f f_int))) (p_v 3) (r_v 5))
      s_nil))))))))))
      (s_cons (s_ret (g_mv (p_v 2))) s_nil))))
theorem ok_lw_ends (T : Tx K mg w) : FnOk P w K mg base CX0 2 T.a_lw_ends T.d_lw_ends ["_law_cell", "_law_nodes_here"] (spD ⟨K, T.cl, w⟩ F_lw_ends) := by
  refine ok_def (N := N_lw_ends) (m := m_lw_ends) (kp := [true, true]) T.f_lw_ends sc_lw_ends rfl (fun cdv A outer s H XE en ek hr => ?_)
  have hu := hr.units
  have nd := (sc_lw_ends).nd
  exact (s_cons (s_set 2 nd (by rfl) (by first | exact Or.inl rfl | exact Or.inr rfl) (by rw [ek]; decide) (g_f (f_lst a_nil)))
      (s_cons (s_for [3] PassesOwn.never rfl (i_rng1 (by rfl) T.z_range (r_f (f_blt cr_len op_lenD (by rfl) T.z_len (by decide +kernel) (a_cons (r_v 1) a_nil)))) (g_name 3 nd (by rfl) (by first | exact Or.inl rfl | exact Or.inr rfl) (by rw [ek]; decide)) (s_cons (s_if (tv_cmp (op_eqD hu) op_eqqD flat_eq (v_r (r_f (f_bin op_mod op_modD (r_f (f_call (ok_lw_mix T) (hr.mono (by decide)) (by rfl) T.g_lw_mix T.f_lw_mix.kp T.b_lw_mix pass0 (a_cons (r_v 0) (a_cons (r_f (f_bin opr_add op_addD (r_f f_int) (r_v 3))) a_nil)))) (r_f f_int)))) (v_r (r_f f_int)) (nomark _)) (s_cons (s_expr (g_app (p_v 2) (f_fr (r_ix hu (r_v 1) (r_v 3)))))
      s_nil) s_nil)
      (s_kill [] s_nil)))
      (s_cons (s_if (t_w (w_and (t_cmp opr_gt op_cmpD (r_f (f_bin op_mod op_modD (r_v 0) (r_f f_int))) (r_f f_int) (nomark _)) (w_and1 (t_cmp (op_notInD (u65 hr)) op_ninLD (r_ix hu (r_v 1) (r_f (f_neg (r_f f_int)))) (r_v 2) (by rfl))))) (s_cons (s_expr (g_app (p_v 2) (f_fr (r_ix hu (r_v 1) (r_f (f_neg (r_f f_int)))))))
      s_nil) s_nil)
      (s_kill [] (s_cons (s_ret (g_mv (p_v 2))) s_nil)))))
theorem ok_lw_walked (T : Tx K mg w) : FnOk P w K mg base CX0 1 T.a_lw_walked T.d_lw_walked ["_law_moves_here", "_law_ends_here", "_law_names"] (spD ⟨K, T.cl, w⟩ F_lw_walked) := by
  refine ok_def (N := N_lw_walked) (m := m_lw_walked) (kp := [true, true, true]) T.f_lw_walked sc_lw_walked rfl (fun cdv A outer s H XE en ek hr => ?_)
  have hu := hr.units
  have nd := (sc_lw_walked).nd
  exact (s_cons (s_set 3 nd (by rfl) (by first | exact Or.inl rfl | exact Or.inr rfl) (by rw [ek]; decide) (g_f (f_tup (a_cons (r_f f_int) (a_cons (r_f f_int) a_nil)))))
      (s_cons (s_set 4 nd (by rfl) (by first | exact Or.inl rfl | exact Or.inr rfl) (by rw [ek]; decide) (g_f f_int))
      (s_cons (s_for [5, 6] PassesOwn.never rfl (i_seq (r_v 2)) (g_name 5 nd (by rfl) (by first | exact Or.inl rfl | exact Or.inr rfl) (by rw [ek]; decide)) (s_cons (s_seqI 6 (s_setLcV 6 [("_law_move", 7)] (by rfl) rfl nd (by rfl) (by rfl) (by rw [ek]; decide) (i_seqV (r_v 0)) (blkOk_by (own := [("_law_move", 7)]) (N := N_lw_walked) (sc := defScope s_lw_walked) (by decide +kernel)) (fun _ _ _ _ _ => (g_name 7 nd (by rfl) (by first | exact Or.inl rfl | exact Or.inr rfl) (by rw [ek]; decide))) (fun _ _ _ _ _ => (ts_one (t_w (w_and (tv_cmp (op_eqD hu) op_eqqD flat_eq (v_r (r_ix hu (r_v 7) (r_f f_int))) (v_r (r_v 3)) (nomark _)) (w_and1 (tv_cmp (op_eqD hu) op_eqqD flat_eq (v_r (r_ix hu (r_v 7) (r_f f_int))) (v_r (r_v 5)) (nomark _))))))) (fun _ _ _ _ _ => (r_v 7)) (by decide) (by rw [ek]; decide) (sw_true rfl rfl rfl (by decide +kernel))))
      (s_cons (s_if (tv_cmp (op_eqD hu) op_eqqD flat_eq (v_r (r_v 6)) (v_r (r_f (f_lst a_nil))) (nomark _)) (s_cons (s_ret (g_f f_non)) s_nil) s_nil)
      (s_cons (s_set 4 nd (by rfl) (by first | exact Or.inl rfl | exact Or.inr rfl) (by rw [ek]; decide) (g_f (f_bin opr_add op_addD (r_v 4) (r_ix hu (r_ix hu (r_v 6) (r_f f_int)) (r_f f_int)))))
      (s_cons (s_set 3 nd (by rfl) (by first | exact Or.inl rfl | exact Or.inr rfl) (by rw [ek]; decide) (g_r (r_ix hu (r_ix hu (r_v 6) (r_f f_int)) (r_f f_int))))
      s_nil)))))
      (s_cons (s_if (t_cmp (op_notInD (u65 hr)) op_ninLD (r_v 3) (r_v 1) (by rfl)) (s_cons (s_ret (g_f f_non)) s_nil) s_nil)
      (s_cons (s_ret (g_r (r_v 4))) s_nil)))))
theorem ok_lw_row (T : Tx K mg w) : FnOk P w K mg base CX0 2 T.a_lw_row T.d_lw_row ["_law_script", "_law_moves_here"] (spD ⟨K, T.cl, w⟩ F_lw_row) := by
  refine ok_def (N := N_lw_row) (m := m_lw_row) (kp := [true, true]) T.f_lw_row sc_lw_row rfl (fun cdv A outer s H XE en ek hr => ?_)
  have hu := hr.units
  have nd := (sc_lw_row).nd
  exact (s_cons (s_set 2 nd (by rfl) (by first | exact Or.inl rfl | exact Or.inr rfl) (by rw [ek]; decide) (g_f (f_tup (a_cons (r_f f_int) (a_cons (r_f f_int) a_nil)))))
      (s_cons (s_set 3 nd (by rfl) (by first | exact Or.inl rfl | exact Or.inr rfl) (by rw [ek]; decide) (g_f (f_lst a_nil)))
      (s_cons (s_for [4, 5, 6] PassesOwn.never rfl (i_seq (r_f (f_cold (f_sl (r_v 0) (o_some (r_f f_int)) (o_some (r_f f_int)))))) (g_name 4 nd (by rfl) (by first | exact Or.inl rfl | exact Or.inr rfl) (by rw [ek]; decide)) (s_cons (s_seqI 5 (s_setLcV 5 [("_law_move", 6)] (by rfl) rfl nd (by rfl) (by rfl) (by rw [ek]; decide) (i_seqV (r_v 1)) (blkOk_by (own := [("_law_move", 6)]) (N := N_lw_row) (sc := defScope s_lw_row) (by decide +kernel)) (fun _ _ _ _ _ => (g_name 6 nd (by rfl) (by first | exact Or.inl rfl | exact Or.inr rfl) (by rw [ek]; decide))) (fun _ _ _ _ _ => (ts_one (tv_cmp (op_eqD hu) op_eqqD flat_eq (v_r (r_ix hu (r_v 6) (r_f f_int))) (v_r (r_v 2)) (nomark _)))) (fun _ _ _ _ _ => (r_v 6)) (by decide) (by rw [ek]; decide) (sw_true rfl rfl rfl (by decide +kernel))))
      (s_cons (s_if (tv_cmp (op_neD hu) op_neqD flat_ne (v_r (r_v 5)) (v_r (r_f (f_lst a_nil))) (nomark _)) (s_cons (s_set 6 nd (by rfl) (by first | exact Or.inl rfl | exact Or.inr rfl) (by rw [ek]; decide) (g_r (r_ix hu (r_v 5) (r_f (f_bin op_mod op_modD (r_f (f_call (ok_lw_mix T) (hr.mono (by decide)) (by rfl) T.g_lw_mix T.f_lw_mix.kp T.b_lw_mix pass0 (a_cons (r_v 4) (a_cons (r_f f_int) a_nil)))) (r_f (f_blt cr_len op_lenD (by rfl) T.z_len (by decide +kernel) (a_cons (r_v 5) a_nil))))))))
      (s_cons (s_expr (g_app (p_v 3) (f_fr (r_ix hu (r_v 6) (r_f f_int)))))
      (s_cons (s_set 2 nd (by rfl) (by first | exact Or.inl rfl | exact Or.inr rfl) (by rw [ek]; decide) (g_r (r_ix hu (r_v 6) (r_f f_int))))
      s_nil))) s_nil)
      (s_kill [6] s_nil))))
      (s_cons (s_ret (g_mv (p_v 3))) s_nil))))
theorem ok_lw_spoilt (T : Tx K mg w) : FnOk P w K mg base CX0 2 T.a_lw_spoilt T.d_lw_spoilt ["_law_names", "_law_cell", "_law_k"] (spD ⟨K, T.cl, w⟩ F_lw_spoilt) := by
  refine ok_def (N := N_lw_spoilt) (m := m_lw_spoilt) (kp := [true, true, true]) T.f_lw_spoilt sc_lw_spoilt rfl (fun cdv A outer s H XE en ek hr => ?_)
  have hu := hr.units
  have nd := (sc_lw_spoilt).nd
  exact (s_cons (s_set 3 nd (by rfl) (by first | exact Or.inl rfl | exact Or.inr rfl) (by rw [ek]; decide) (g_f (f_bin op_mod op_modD (r_f (f_call (ok_lw_mix T) (hr.mono (by decide)) (by rfl) T.g_lw_mix T.f_lw_mix.kp T.b_lw_mix pass0 (a_cons (r_v 1) (a_cons (r_v 2) a_nil)))) (r_f (f_bin opr_add op_addD (r_f (f_blt cr_len op_lenD (by rfl) T.z_len (by decide +kernel) (a_cons (r_v 0) a_nil))) (r_f f_int))))))
      (s_cons (s_set 4 nd (by rfl) (by first | exact Or.inl rfl | exact Or.inr rfl) (by rw [ek]; decide) (g_f (f_bin op_mod op_modD (r_f (f_call (ok_lw_mix T) (hr.mono (by decide)) (by rfl) T.g_lw_mix T.f_lw_mix.kp T.b_lw_mix pass0 (a_cons (r_v 1) (a_cons (r_f (f_bin opr_add op_addD (r_v 2) (r_f f_int))) a_nil)))) (r_f f_int))))
      (s_cons (s_set 5 nd (by rfl) (by first | exact Or.inl rfl | exact Or.inr rfl) (by rw [ek]; decide) (g_f (f_bin opr_mul op_mulD (r_ix hu (r_f (f_str [97, 98])) (r_f (f_bin op_mod op_modD (r_f (f_call (ok_lw_mix T) (hr.mono (by decide)) (by rfl) T.g_lw_mix T.f_lw_mix.kp T.b_lw_mix pass0 (a_cons (r_v 1) (a_cons (r_f (f_bin opr_add op_addD (r_v 2) (r_f f_int))) a_nil)))) (r_f f_int)))) (r_f (f_bin opr_add op_addD (r_f f_int) (r_f (f_bin op_mod op_modD (r_f (f_call (ok_lw_mix T) (hr.mono (by decide)) (by rfl) T.g_lw_mix T.f_lw_mix.kp T.b_lw_mix pass0 (a_cons (r_v 1) (a_cons (r_f (f_bin opr_add op_addD (r_v 2) (r_f f_int))) a_nil)))) (r_f f_int))))))))
      (s_cons (s_if (tv_cmp (op_eqD hu) op_eqqD flat_eq (v_r (r_v 4)) (v_r (r_f f_int)) (nomark _)) (s_cons (s_ret (g_f (f_bin opr_add op_addD (r_f (f_sl (r_v 0) o_none (o_some (r_v 3)))) (r_f (f_sl (r_v 0) (o_some (r_f (f_bin opr_add op_addD (r_v 3) (r_f f_int)))) o_none))))) s_nil) s_nil)
      (s_cons (s_if (tv_cmp (op_eqD hu) op_eqqD flat_eq (v_r (r_v 4)) (v_r (r_f f_int)) (nomark _)) (s_cons (s_ret (g_f (f_bin opr_add op_addD (r_f (f_bin opr_add op_addD (r_f (f_sl (r_v 0) o_none (o_some (r_v 3)))) (r_f (f_lst (a_cons (r_v 5) a_nil))))) (r_f (f_sl (r_v 0) (o_some (r_v 3)) o_none))))) s_nil) s_nil)
      (s_cons (s_if (tv_cmp (op_eqD hu) op_eqqD flat_eq (v_r (r_v 4)) (v_r (r_f f_int)) (nomark _)) (s_cons (s_ret (g_f (f_bin opr_add op_addD (r_f (f_bin opr_add op_addD (r_f (f_sl (r_v 0) o_none (o_some (r_v 3)))) (r_f (f_lst (a_cons (r_v 5) a_nil))))) (r_f (f_sl (r_v 0) (o_some (r_f (f_bin opr_add op_addD (r_v 3) (r_f f_int)))) o_none))))) s_nil) s_nil)
      (s_cons (s_ret (g_f (f_bin opr_add op_addD (r_f (f_bin opr_add op_addD (r_f (f_sl (r_v 0) o_none (o_some (r_v 3)))) (r_f (f_lst (a_cons (r_f (f_str [110, 111, 116, 104, 105, 110, 103])) a_nil))))) (r_f (f_sl (r_v 0) (o_some (r_v 3)) o_none))))) s_nil)))))))
theorem ok_lw_told (T : Tx K mg w) : FnOk P w K mg base CX0 3 T.a_lw_told T.d_lw_told ["_law_trail", "_law_moves_here", "_law_ends_here", "_law_names"] (spD ⟨K, T.cl, w⟩ F_lw_told) := by
  refine ok_def (N := N_lw_told) (m := m_lw_told) (kp := [true, true, true, true]) T.f_lw_told sc_lw_told rfl (fun cdv A outer s H XE en ek hr => ?_)
  have hu := hr.units
  have nd := (sc_lw_told).nd
  exact (s_cons (s_set 4 nd (by rfl) (by first | exact Or.inl rfl | exact Or.inr rfl) (by rw [ek]; decide) (g_f (f_cold (f_bty call_list_of op_listD (by rfl) T.z_list (by decide +kernel) (a_cons (r_v 3) a_nil)))))
      (s_cons (s_set 5 nd (by rfl) (by first | exact Or.inl rfl | exact Or.inr rfl) (by rw [ek]; decide) (g_f (f_call (ok_walked T) (hr.mono (by decide)) (by rfl) T.g_walked T.f_walked.kp T.b_walked pass0 (a_cons (r_v 0) (a_cons (r_v 4) a_nil)))))
      (s_cons (s_set 6 nd (by rfl) (by first | exact Or.inl rfl | exact Or.inr rfl) (by rw [ek]; decide) (g_f (f_call (ok_lw_walked T) (hr.mono (by decide)) (by rfl) T.g_lw_walked T.f_lw_walked.kp T.b_lw_walked pass0 (a_cons (r_v 1) (a_cons (r_v 2) (a_cons (r_v 3) a_nil))))))
      (s_cons (s_if (tv_cmp (op_neD hu) op_neqD flat_ne (v_r (r_v 4)) (v_r (r_v 3)) (nomark _)) (s_cons (s_ret (g_f f_bl)) s_nil) s_nil)
      (s_cons (s_if (t_cmp opr_is op_isD (r_v 6) (r_f f_non) (nomark _)) (s_cons (s_ret (g_f (f_cmp opr_is op_isD (r_v 5) (r_f f_non) (nomark _)))) s_nil) s_nil)
      (s_cons (s_ret (g_f (f_and (r_f (f_call (ok_lw_whole T) (hr.mono (by decide)) (by rfl) T.g_lw_whole T.f_lw_whole.kp T.b_lw_whole pass0 (a_cons (r_v 5) a_nil))) (f_one (v_cmp (op_eqD hu) op_eqqD flat_eq (v_r (r_v 5)) (v_r (r_v 6)) (nomark _)))))) s_nil))))))
theorem ok_lw_truth (T : Tx K mg w) : FnOk P w K mg base CX0 1 T.a_lw_truth T.d_lw_truth ["_law_found", "_law_due"] (spD ⟨K, T.cl, w⟩ F_lw_truth) := by
  refine ok_def (N := N_lw_truth) (m := m_lw_truth) (kp := [true, true]) T.f_lw_truth sc_lw_truth rfl (fun cdv A outer s H XE en ek hr => ?_)
  have hu := hr.units
  have nd := (sc_lw_truth).nd
  exact (s_cons (s_ret (g_f (f_and (r_f (f_isi' (r_v 0) (pe_bltn (v := .ty "bool") (u := .type "bool") (by rfl) T.z_bool (by decide +kernel) rfl) T.z_isinstance)) (f_one (v_cmp (op_eqD hu) op_eqqD flat_eq (v_r (r_v 0)) (v_r (r_v 1)) (nomark _)))))) s_nil)
theorem ok_lw_methods (T : Tx K mg w) : FnOk P w K mg base CX0 2 T.a_lw_methods T.d_lw_methods ["_law_trail", "_law_sizes_here", "_law_moves_here", "_law_ends_here"] (spD ⟨K, T.cl, w⟩ F_lw_methods) := by
  refine ok_def (N := N_lw_methods) (m := m_lw_methods) (kp := [true, true, true, true]) T.f_lw_methods sc_lw_methods rfl (fun cdv A outer s H XE en ek hr => ?_)
  have hu := hr.units
  have nd := (sc_lw_methods).nd
  exact (s_cons (s_if (t_w (w_or (tv_cmp (op_neD hu) op_neqD flat_ne (v_r (r_f (f_look0 1 (r_pl (p_v 0)) T.cls_Listed T.me_Listed_first_node (ok_Listed_first_node T) (hr.mono (by decide)) T.b_Listed_first_node pass0))) (v_r (r_f (f_tup (a_cons (r_f f_int) (a_cons (r_f f_int) a_nil))))) (nomark _)) (w_or1 (tv_cmp (op_neD hu) op_neqD flat_ne (v_r (r_f (f_look0 1 (r_pl (p_v 0)) T.cls_Listed T.me_Listed_last_at (ok_Listed_last_at T) (hr.mono (by decide)) T.b_Listed_last_at pass0))) (v_r (r_f (f_bin op_sub op_subD (r_f (f_blt cr_len op_lenD (by rfl) T.z_len (by decide +kernel) (a_cons (r_v 1) a_nil))) (r_f f_int)))) (nomark _))))) (s_cons (s_ret (g_f f_bl)) s_nil) s_nil)
      (s_cons (s_for [4, 5, 6, 7] PassesOwn.never rfl (i_rng1 (by rfl) T.z_range (r_f (f_blt cr_len op_lenD (by rfl) T.z_len (by decide +kernel) (a_cons (r_v 1) a_nil)))) (g_name 4 nd (by rfl) (by first | exact Or.inl rfl | exact Or.inr rfl) (by rw [ek]; decide)) (s_cons (s_set 5 nd (by rfl) (by first | exact Or.inl rfl | exact Or.inr rfl) (by rw [ek]; decide) (g_f (f_look 1 (r_pl (p_v 0)) T.cls_Listed T.me_Listed_nodes_at (ok_Listed_nodes_at T) (hr.mono (by decide)) T.b_Listed_nodes_at pass0 (a_cons (r_v 4) a_nil))))
      (s_cons (s_if (t_w (w_or (t_not (t_val (r_f (f_isi' (r_v 5) (pe_bltn (v := .ty "list") (u := .type "list") (by rfl) T.z_list (by decide +kernel) rfl) T.z_isinstance)))) (w_or1 (tv_cmp (op_neD hu) op_neqD flat_ne (v_r (r_v 5)) (v_r (r_f (f_lcV [("_law_state", 8)] (by rfl) rfl nd (i_up (i_rng1 (by rfl) T.z_range (r_ix hu (r_v 1) (r_v 4)))) (blkOk_by (own := [("_law_state", 8)]) (N := N_lw_methods) (sc := defScope s_lw_methods) (by decide +kernel)) (fun _ _ _ _ _ => (g_name 8 nd (by rfl) (by first | exact Or.inl rfl | exact Or.inr rfl) (by rw [ek]; decide))) (fun _ _ _ _ _ => ts_nil) (fun _ _ _ _ _ => (r_f (f_tup (a_cons (r_v 4) (a_cons (r_v 8) a_nil))))) (by decide) (by rw [ek]; decide)))) (nomark _))))) (s_cons (s_ret (g_f f_bl)) s_nil) s_nil)
      (s_cons (s_for [6, 7] PassesOwn.never rfl (i_seq (r_f (f_cold (f_bty call_list_of op_listD (by rfl) T.z_list (by decide +kernel) (a_cons (r_v 5) a_nil))))) (g_name 6 nd (by rfl) (by first | exact Or.inl rfl | exact Or.inr rfl) (by rw [ek]; decide)) (s_cons (s_set 7 nd (by rfl) (by first | exact Or.inl rfl | exact Or.inr rfl) (by rw [ek]; decide) (g_f (f_look 1 (r_pl (p_v 0)) T.cls_Listed T.me_Listed_moves_from (ok_Listed_moves_from T) (hr.mono (by decide)) T.b_Listed_moves_from pass0 (a_cons (r_v 6) a_nil))))
      (s_cons (s_if (t_w (w_or (t_not (t_val (r_f (f_isi' (r_v 7) (pe_bltn (v := .ty "list") (u := .type "list") (by rfl) T.z_list (by decide +kernel) rfl) T.z_isinstance)))) (w_or1 (tv_cmp (op_neD hu) op_neqD flat_ne (v_r (r_v 7)) (v_r (r_f (f_lcV [("_law_move", 9)] (by rfl) rfl nd (i_seqV (r_v 2)) (blkOk_by (own := [("_law_move", 9)]) (N := N_lw_methods) (sc := defScope s_lw_methods) (by decide +kernel)) (fun _ _ _ _ _ => (g_name 9 nd (by rfl) (by first | exact Or.inl rfl | exact Or.inr rfl) (by rw [ek]; decide))) (fun _ _ _ _ _ => (ts_one (tv_cmp (op_eqD hu) op_eqqD flat_eq (v_r (r_ix hu (r_v 9) (r_f f_int))) (v_r (r_v 6)) (nomark _)))) (fun _ _ _ _ _ => (r_f (f_sl (r_v 9) (o_some (r_f f_int)) o_none))) (by decide) (by rw [ek]; decide)))) (nomark _))))) (s_cons (s_ret (g_f f_bl)) s_nil) s_nil)
      (s_cons (s_if (t_not (t_val (r_f (f_call (ok_lw_truth T) (hr.mono (by decide)) (by rfl) T.g_lw_truth T.f_lw_truth.kp T.b_lw_truth pass0 (a_cons (r_f (f_look 1 (r_pl (p_v 0)) T.cls_Listed T.me_Listed_is_end (ok_Listed_is_end T) (hr.mono (by decide)) T.b_Listed_is_end pass0 (a_cons (r_v 6) a_nil))) (a_cons (r_f (f_cmp (op_inD (u65 hr)) op_inLD (r_v 6) (r_v 3) (by rfl))) a_nil)))))) (s_cons (s_ret (g_f f_bl)) s_nil) s_nil)
      (s_cons (s_expr (g_app (p_v 7) (f_tup (a_cons (r_f f_int) (a_cons (r_f (f_str [122])) (a_cons (r_v 6) a_nil))))))
      s_nil)))))
      (s_cons (s_expr (g_app (p_v 5) (f_tup (a_cons (r_v 4) (a_cons (r_f f_int) a_nil)))))
      s_nil)))))
      (s_cons (s_ret (g_f f_bl)) s_nil)))
theorem ok_law (T : Tx K mg w) : FnOk P w K mg base CX0 4 T.a_law T.d_law ["_law_script"] (spD ⟨K, T.cl, w⟩ F_law) := by
  refine ok_def (N := N_law) (m := m_law) (kp := [true]) T.f_law sc_law rfl (fun cdv A outer s H XE en ek hr => ?_)
  have hu := hr.units
  have nd := (sc_law).nd
  exact (s_cons (s_set 1 nd (by rfl) (by first | exact Or.inl rfl | exact Or.inr rfl) (by rw [ek]; decide) (g_f (f_cold (f_call (ok_lw_sizes T) (hr.mono (by decide)) (by rfl) T.g_lw_sizes T.f_lw_sizes.kp T.b_lw_sizes pass0 (a_cons (r_f (f_call (ok_lw_cell_at T) (hr.mono (by decide)) (by rfl) T.g_lw_cell_at T.f_lw_cell_at.kp T.b_lw_cell_at pass0 (a_cons (r_v 0) (a_cons (r_f f_int) a_nil)))) a_nil)))))
      (s_cons (s_set 2 nd (by rfl) (by first | exact Or.inl rfl | exact Or.inr rfl) (by rw [ek]; decide) (g_f (f_cold (f_call (ok_lw_nodes T) (hr.mono (by decide)) (by rfl) T.g_lw_nodes T.f_lw_nodes.kp T.b_lw_nodes pass0 (a_cons (r_v 1) a_nil)))))
      (s_cons (s_set 3 nd (by rfl) (by first | exact Or.inl rfl | exact Or.inr rfl) (by rw [ek]; decide) (g_f (f_cold (f_call (ok_lw_moves T) (hr.mono (by decide)) (by rfl) T.g_lw_moves T.f_lw_moves.kp T.b_lw_moves pass0 (a_cons (r_v 0) (a_cons (r_v 2) a_nil))))))
      (s_cons (s_set 4 nd (by rfl) (by first | exact Or.inl rfl | exact Or.inr rfl) (by rw [ek]; decide) (g_f (f_cold (f_call (ok_lw_ends T) (hr.mono (by decide)) (by rfl) T.g_lw_ends T.f_lw_ends.kp T.b_lw_ends pass0 (a_cons (r_f (f_call (ok_lw_cell_at T) (hr.mono (by decide)) (by rfl) T.g_lw_cell_at T.f_lw_cell_at.kp T.b_lw_cell_at pass0 (a_cons (r_v 0) (a_cons (r_f f_int) a_nil)))) (a_cons (r_v 2) a_nil))))))
      (s_cons (s_set 5 nd (by rfl) (by first | exact Or.inl rfl | exact Or.inr rfl) (by rw [ek]; decide) (g_f (f_cold (f_mk 1 T.mk_Listed (ok_Listed_init T) (hr.mono (by decide)) (by rfl) T.gc_Listed T.b_Listed_init pass0 (a_cons (r_f (f_cold (f_bty call_list_of op_listD (by rfl) T.z_list (by decide +kernel) (a_cons (r_v 1) a_nil)))) (a_cons (r_f (f_cold (f_bty call_list_of op_listD (by rfl) T.z_list (by decide +kernel) (a_cons (r_v 3) a_nil)))) (a_cons (r_f (f_cold (f_bty call_list_of op_listD (by rfl) T.z_list (by decide +kernel) (a_cons (r_v 4) a_nil)))) a_nil)))))))
      (s_cons (s_if (t_not (t_val (r_f (f_call (ok_lw_methods T) (hr.mono (by decide)) (by rfl) T.g_lw_methods T.f_lw_methods.kp T.b_lw_methods pass0 (a_cons (r_v 5) (a_cons (r_v 1) (a_cons (r_v 3) (a_cons (r_v 4) a_nil)))))))) (s_cons (s_ret (g_f f_bl)) s_nil) s_nil)
      (s_cons (s_set 6 nd (by rfl) (by first | exact Or.inl rfl | exact Or.inr rfl) (by rw [ek]; decide) (g_f (f_cold (f_call (ok_lw_row T) (hr.mono (by decide)) (by rfl) T.g_lw_row T.f_lw_row.kp T.b_lw_row pass0 (a_cons (r_v 0) (a_cons (r_v 3) a_nil))))))
      (s_cons (s_set 7 nd (by rfl) (by first | exact Or.inl rfl | exact Or.inr rfl) (by rw [ek]; decide) (g_f (f_lst (a_cons (r_v 6) (a_cons (r_f (f_cold (f_lst a_nil))) a_nil)))))
      (s_cons (s_for [8] PassesOwn.never rfl (i_rng1 (by rfl) T.z_range (r_f (f_blt cr_len op_lenD (by rfl) T.z_len (by decide +kernel) (a_cons (r_v 6) a_nil)))) (g_name 8 nd (by rfl) (by first | exact Or.inl rfl | exact Or.inr rfl) (by rw [ek]; decide)) (s_cons (s_expr (g_app (p_v 7) (f_cold (f_sl (r_v 6) o_none (o_some (r_v 8))))))
      s_nil))
      (s_cons (s_for [8] PassesOwn.never rfl (i_rng1 (by rfl) T.z_range (r_f f_int)) (g_name 8 nd (by rfl) (by first | exact Or.inl rfl | exact Or.inr rfl) (by rw [ek]; decide)) (s_cons (s_expr (g_app (p_v 7) (f_cold (f_call (ok_lw_spoilt T) (hr.mono (by decide)) (by rfl) T.g_lw_spoilt T.f_lw_spoilt.kp T.b_lw_spoilt pass0 (a_cons (r_v 6) (a_cons (r_f (f_call (ok_lw_cell_at T) (hr.mono (by decide)) (by rfl) T.g_lw_cell_at T.f_lw_cell_at.kp T.b_lw_cell_at pass0 (a_cons (r_v 0) (a_cons (r_f f_int) a_nil)))) (a_cons (r_f (f_bin opr_mul op_mulD (r_f f_int) (r_v 8))) a_nil)))))))
      s_nil))
      (s_cons (s_forF [9] PassesOwn.never rfl (p_v 7) (g_name 9 nd (by rfl) (by first | exact Or.inl rfl | exact Or.inr rfl) (by rw [ek]; decide)) (t_not (t_val (r_f (f_call (ok_lw_told T) (hr.mono (by decide)) (by rfl) T.g_lw_told T.f_lw_told.kp T.b_lw_told pass0 (a_cons (r_v 5) (a_cons (r_v 3) (a_cons (r_v 4) (a_cons (r_v 9) a_nil)))))))) (s_cons (s_ret (g_f f_bl)) s_nil))
      (s_cons (s_ret (g_f (f_call (ok_lw_methods T) (hr.mono (by decide)) (by rfl) T.g_lw_methods T.f_lw_methods.kp T.b_lw_methods pass0 (a_cons (r_v 5) (a_cons (r_v 1) (a_cons (r_v 3) (a_cons (r_v 4) a_nil))))))) s_nil))))))))))))
end
end LW
namespace LW
open PySem L2 PyProof.Rows LI
theorem law_true (ns : List Int) (hl : ns.length ≤ 63) (hb : ∀ z ∈ ns, Builtin.Int.intBits z ≤ 1048576) : ∃ ds', F_law [.scr ns] = some (.bl true, ds') := ⟨_, L_law ns (LW.law_t ns hl hb)⟩
theorem all_mk (LT : ∀ ns : List Int, ns.length ≤ 63 → (∀ z ∈ ns, Builtin.Int.intBits z ≤ 1048576) → ∃ ds', F_law [.scr ns] = some (.bl true, ds')) {l : PySem.W.OpenLaw} {w : World} {K : PySem.W.Frag} {h : Heap} {mg : Str → Option Value} {fa : Addr} (X : K.In h) (G : h.Ns mainGlobals mg) (hfa : mg "law" = some (.ref fa))
    {c_Listed : Addr} {p_Listed_init : Addr} {od_Listed_init an_Listed_init : Option Addr} {sl_Listed_init : Array (Option Value)} {oc_Listed_init kV_Listed_init dc_Listed_init pm_Listed_init cd_Listed_init ct_Listed_init : Value} {p_Listed_first_node : Addr} {od_Listed_first_node an_Listed_first_node : Option Addr} {sl_Listed_first_node : Array (Option Value)} {oc_Listed_first_node kV_Listed_first_node dc_Listed_first_node pm_Listed_first_node cd_Listed_first_node ct_Listed_first_node : Value} {p_Listed_last_at : Addr} {od_Listed_last_at an_Listed_last_at : Option Addr} {sl_Listed_last_at : Array (Option Value)} {oc_Listed_last_at kV_Listed_last_at dc_Listed_last_at pm_Listed_last_at cd_Listed_last_at ct_Listed_last_at : Value} {p_Listed_nodes_at : Addr} {od_Listed_nodes_at an_Listed_nodes_at : Option Addr} {sl_Listed_nodes_at : Array (Option Value)} {oc_Listed_nodes_at kV_Listed_nodes_at dc_Listed_nodes_at pm_Listed_nodes_at cd_Listed_nodes_at ct_Listed_nodes_at : Value} {p_Listed_moves_from : Addr} {od_Listed_moves_from an_Listed_moves_from : Option Addr} {sl_Listed_moves_from : Array (Option Value)} {oc_Listed_moves_from kV_Listed_moves_from dc_Listed_moves_from pm_Listed_moves_from cd_Listed_moves_from ct_Listed_moves_from : Value} {p_Listed_is_end : Addr} {od_Listed_is_end an_Listed_is_end : Option Addr} {sl_Listed_is_end : Array (Option Value)} {oc_Listed_is_end kV_Listed_is_end dc_Listed_is_end pm_Listed_is_end cd_Listed_is_end ct_Listed_is_end : Value} {p_walked : Addr} {od_walked an_walked : Option Addr} {sl_walked : Array (Option Value)} {oc_walked kV_walked dc_walked pm_walked cd_walked ct_walked : Value} {p_lw_cell_at : Addr} {od_lw_cell_at an_lw_cell_at : Option Addr} {sl_lw_cell_at : Array (Option Value)} {oc_lw_cell_at kV_lw_cell_at dc_lw_cell_at pm_lw_cell_at cd_lw_cell_at ct_lw_cell_at : Value} {p_lw_mix : Addr} {od_lw_mix an_lw_mix : Option Addr} {sl_lw_mix : Array (Option Value)} {oc_lw_mix kV_lw_mix dc_lw_mix pm_lw_mix cd_lw_mix ct_lw_mix : Value} {p_lw_whole : Addr} {od_lw_whole an_lw_whole : Option Addr} {sl_lw_whole : Array (Option Value)} {oc_lw_whole kV_lw_whole dc_lw_whole pm_lw_whole cd_lw_whole ct_lw_whole : Value} {p_lw_sizes : Addr} {od_lw_sizes an_lw_sizes : Option Addr} {sl_lw_sizes : Array (Option Value)} {oc_lw_sizes kV_lw_sizes dc_lw_sizes pm_lw_sizes cd_lw_sizes ct_lw_sizes : Value} {p_lw_nodes : Addr} {od_lw_nodes an_lw_nodes : Option Addr} {sl_lw_nodes : Array (Option Value)} {oc_lw_nodes kV_lw_nodes dc_lw_nodes pm_lw_nodes cd_lw_nodes ct_lw_nodes : Value} {p_lw_moves : Addr} {od_lw_moves an_lw_moves : Option Addr} {sl_lw_moves : Array (Option Value)} {oc_lw_moves kV_lw_moves dc_lw_moves pm_lw_moves cd_lw_moves ct_lw_moves : Value} {p_lw_ends : Addr} {od_lw_ends an_lw_ends : Option Addr} {sl_lw_ends : Array (Option Value)} {oc_lw_ends kV_lw_ends dc_lw_ends pm_lw_ends cd_lw_ends ct_lw_ends : Value} {p_lw_walked : Addr} {od_lw_walked an_lw_walked : Option Addr} {sl_lw_walked : Array (Option Value)} {oc_lw_walked kV_lw_walked dc_lw_walked pm_lw_walked cd_lw_walked ct_lw_walked : Value} {p_lw_row : Addr} {od_lw_row an_lw_row : Option Addr} {sl_lw_row : Array (Option Value)} {oc_lw_row kV_lw_row dc_lw_row pm_lw_row cd_lw_row ct_lw_row : Value} {p_lw_spoilt : Addr} {od_lw_spoilt an_lw_spoilt : Option Addr} {sl_lw_spoilt : Array (Option Value)} {oc_lw_spoilt kV_lw_spoilt dc_lw_spoilt pm_lw_spoilt cd_lw_spoilt ct_lw_spoilt : Value} {p_lw_told : Addr} {od_lw_told an_lw_told : Option Addr} {sl_lw_told : Array (Option Value)} {oc_lw_told kV_lw_told dc_lw_told pm_lw_told cd_lw_told ct_lw_told : Value} {p_lw_truth : Addr} {od_lw_truth an_lw_truth : Option Addr} {sl_lw_truth : Array (Option Value)} {oc_lw_truth kV_lw_truth dc_lw_truth pm_lw_truth cd_lw_truth ct_lw_truth : Value} {p_lw_methods : Addr} {od_lw_methods an_lw_methods : Option Addr} {sl_lw_methods : Array (Option Value)} {oc_lw_methods kV_lw_methods dc_lw_methods pm_lw_methods cd_lw_methods ct_lw_methods : Value} {p_law : Addr} {od_law an_law : Option Addr} {sl_law : Array (Option Value)} {oc_law kV_law dc_law pm_law cd_law ct_law : Value}
    (gc_Listed : PySem.W.nsIn K mainGlobals "Listed" = some (some (.ref c_Listed)))
    (a1_Listed_init : PySem.W.findIn K (.ref c_Listed) "__init__" = some (some (.ref p_Listed_init)))
    (a5_Listed_init : PySem.W.isFn K (.ref p_Listed_init) = true)
    (a2_Listed_init : K.lookup p_Listed_init = some ⟨oc_Listed_init, od_Listed_init, .func (PySem.W.fnOf "__init__" "Listed.__init__" (defArgs s_Listed_init) (defBody s_Listed_init) (defScope s_Listed_init) .none kV_Listed_init dc_Listed_init pm_Listed_init an_Listed_init cd_Listed_init ct_Listed_init), sl_Listed_init⟩)
    (a3_Listed_init : PySem.W.codeIn K cd_Listed_init "Listed.__init__" = true)
    (a4_Listed_init : PySem.W.keepIn K (.ref p_Listed_init) = true)
    (a1_Listed_first_node : PySem.W.findIn K (.ref c_Listed) "first_node" = some (some (.ref p_Listed_first_node)))
    (a5_Listed_first_node : PySem.W.isFn K (.ref p_Listed_first_node) = true)
    (a2_Listed_first_node : K.lookup p_Listed_first_node = some ⟨oc_Listed_first_node, od_Listed_first_node, .func (PySem.W.fnOf "first_node" "Listed.first_node" (defArgs s_Listed_first_node) (defBody s_Listed_first_node) (defScope s_Listed_first_node) .none kV_Listed_first_node dc_Listed_first_node pm_Listed_first_node an_Listed_first_node cd_Listed_first_node ct_Listed_first_node), sl_Listed_first_node⟩)
    (a3_Listed_first_node : PySem.W.codeIn K cd_Listed_first_node "Listed.first_node" = true)
    (a4_Listed_first_node : PySem.W.keepIn K (.ref p_Listed_first_node) = true)
    (a1_Listed_last_at : PySem.W.findIn K (.ref c_Listed) "last_at" = some (some (.ref p_Listed_last_at)))
    (a5_Listed_last_at : PySem.W.isFn K (.ref p_Listed_last_at) = true)
    (a2_Listed_last_at : K.lookup p_Listed_last_at = some ⟨oc_Listed_last_at, od_Listed_last_at, .func (PySem.W.fnOf "last_at" "Listed.last_at" (defArgs s_Listed_last_at) (defBody s_Listed_last_at) (defScope s_Listed_last_at) .none kV_Listed_last_at dc_Listed_last_at pm_Listed_last_at an_Listed_last_at cd_Listed_last_at ct_Listed_last_at), sl_Listed_last_at⟩)
    (a3_Listed_last_at : PySem.W.codeIn K cd_Listed_last_at "Listed.last_at" = true)
    (a4_Listed_last_at : PySem.W.keepIn K (.ref p_Listed_last_at) = true)
    (a1_Listed_nodes_at : PySem.W.findIn K (.ref c_Listed) "nodes_at" = some (some (.ref p_Listed_nodes_at)))
    (a5_Listed_nodes_at : PySem.W.isFn K (.ref p_Listed_nodes_at) = true)
    (a2_Listed_nodes_at : K.lookup p_Listed_nodes_at = some ⟨oc_Listed_nodes_at, od_Listed_nodes_at, .func (PySem.W.fnOf "nodes_at" "Listed.nodes_at" (defArgs s_Listed_nodes_at) (defBody s_Listed_nodes_at) (defScope s_Listed_nodes_at) .none kV_Listed_nodes_at dc_Listed_nodes_at pm_Listed_nodes_at an_Listed_nodes_at cd_Listed_nodes_at ct_Listed_nodes_at), sl_Listed_nodes_at⟩)
    (a3_Listed_nodes_at : PySem.W.codeIn K cd_Listed_nodes_at "Listed.nodes_at" = true)
    (a4_Listed_nodes_at : PySem.W.keepIn K (.ref p_Listed_nodes_at) = true)
    (a1_Listed_moves_from : PySem.W.findIn K (.ref c_Listed) "moves_from" = some (some (.ref p_Listed_moves_from)))
    (a5_Listed_moves_from : PySem.W.isFn K (.ref p_Listed_moves_from) = true)
    (a2_Listed_moves_from : K.lookup p_Listed_moves_from = some ⟨oc_Listed_moves_from, od_Listed_moves_from, .func (PySem.W.fnOf "moves_from" "Listed.moves_from" (defArgs s_Listed_moves_from) (defBody s_Listed_moves_from) (defScope s_Listed_moves_from) .none kV_Listed_moves_from dc_Listed_moves_from pm_Listed_moves_from an_Listed_moves_from cd_Listed_moves_from ct_Listed_moves_from), sl_Listed_moves_from⟩)
    (a3_Listed_moves_from : PySem.W.codeIn K cd_Listed_moves_from "Listed.moves_from" = true)
    (a4_Listed_moves_from : PySem.W.keepIn K (.ref p_Listed_moves_from) = true)
    (a1_Listed_is_end : PySem.W.findIn K (.ref c_Listed) "is_end" = some (some (.ref p_Listed_is_end)))
    (a5_Listed_is_end : PySem.W.isFn K (.ref p_Listed_is_end) = true)
    (a2_Listed_is_end : K.lookup p_Listed_is_end = some ⟨oc_Listed_is_end, od_Listed_is_end, .func (PySem.W.fnOf "is_end" "Listed.is_end" (defArgs s_Listed_is_end) (defBody s_Listed_is_end) (defScope s_Listed_is_end) .none kV_Listed_is_end dc_Listed_is_end pm_Listed_is_end an_Listed_is_end cd_Listed_is_end ct_Listed_is_end), sl_Listed_is_end⟩)
    (a3_Listed_is_end : PySem.W.codeIn K cd_Listed_is_end "Listed.is_end" = true)
    (a4_Listed_is_end : PySem.W.keepIn K (.ref p_Listed_is_end) = true)
    (a1_walked : PySem.W.nsIn K mainGlobals "walked" = some (some (.ref p_walked)))
    (a2_walked : K.lookup p_walked = some ⟨oc_walked, od_walked, .func (PySem.W.fnOf "walked" "walked" (defArgs s_walked) (defBody s_walked) (defScope s_walked) .none kV_walked dc_walked pm_walked an_walked cd_walked ct_walked), sl_walked⟩)
    (a3_walked : PySem.W.codeIn K cd_walked "walked" = true)
    (a4_walked : PySem.W.keepIn K (.ref p_walked) = true)
    (a1_lw_cell_at : PySem.W.nsIn K mainGlobals "_law_cell_at" = some (some (.ref p_lw_cell_at)))
    (a2_lw_cell_at : K.lookup p_lw_cell_at = some ⟨oc_lw_cell_at, od_lw_cell_at, .func (PySem.W.fnOf "_law_cell_at" "_law_cell_at" (defArgs s_lw_cell_at) (defBody s_lw_cell_at) (defScope s_lw_cell_at) .none kV_lw_cell_at dc_lw_cell_at pm_lw_cell_at an_lw_cell_at cd_lw_cell_at ct_lw_cell_at), sl_lw_cell_at⟩)
    (a3_lw_cell_at : PySem.W.codeIn K cd_lw_cell_at "_law_cell_at" = true)
    (a4_lw_cell_at : PySem.W.keepIn K (.ref p_lw_cell_at) = true)
    (a1_lw_mix : PySem.W.nsIn K mainGlobals "_law_mix" = some (some (.ref p_lw_mix)))
    (a2_lw_mix : K.lookup p_lw_mix = some ⟨oc_lw_mix, od_lw_mix, .func (PySem.W.fnOf "_law_mix" "_law_mix" (defArgs s_lw_mix) (defBody s_lw_mix) (defScope s_lw_mix) .none kV_lw_mix dc_lw_mix pm_lw_mix an_lw_mix cd_lw_mix ct_lw_mix), sl_lw_mix⟩)
    (a3_lw_mix : PySem.W.codeIn K cd_lw_mix "_law_mix" = true)
    (a4_lw_mix : PySem.W.keepIn K (.ref p_lw_mix) = true)
    (a1_lw_whole : PySem.W.nsIn K mainGlobals "_law_whole" = some (some (.ref p_lw_whole)))
    (a2_lw_whole : K.lookup p_lw_whole = some ⟨oc_lw_whole, od_lw_whole, .func (PySem.W.fnOf "_law_whole" "_law_whole" (defArgs s_lw_whole) (defBody s_lw_whole) (defScope s_lw_whole) .none kV_lw_whole dc_lw_whole pm_lw_whole an_lw_whole cd_lw_whole ct_lw_whole), sl_lw_whole⟩)
    (a3_lw_whole : PySem.W.codeIn K cd_lw_whole "_law_whole" = true)
    (a4_lw_whole : PySem.W.keepIn K (.ref p_lw_whole) = true)
    (a1_lw_sizes : PySem.W.nsIn K mainGlobals "_law_sizes" = some (some (.ref p_lw_sizes)))
    (a2_lw_sizes : K.lookup p_lw_sizes = some ⟨oc_lw_sizes, od_lw_sizes, .func (PySem.W.fnOf "_law_sizes" "_law_sizes" (defArgs s_lw_sizes) (defBody s_lw_sizes) (defScope s_lw_sizes) .none kV_lw_sizes dc_lw_sizes pm_lw_sizes an_lw_sizes cd_lw_sizes ct_lw_sizes), sl_lw_sizes⟩)
    (a3_lw_sizes : PySem.W.codeIn K cd_lw_sizes "_law_sizes" = true)
    (a4_lw_sizes : PySem.W.keepIn K (.ref p_lw_sizes) = true)
    (a1_lw_nodes : PySem.W.nsIn K mainGlobals "_law_nodes" = some (some (.ref p_lw_nodes)))
    (a2_lw_nodes : K.lookup p_lw_nodes = some ⟨oc_lw_nodes, od_lw_nodes, .func (PySem.W.fnOf "_law_nodes" "_law_nodes" (defArgs s_lw_nodes) (defBody s_lw_nodes) (defScope s_lw_nodes) .none kV_lw_nodes dc_lw_nodes pm_lw_nodes an_lw_nodes cd_lw_nodes ct_lw_nodes), sl_lw_nodes⟩)
    (a3_lw_nodes : PySem.W.codeIn K cd_lw_nodes "_law_nodes" = true)
    (a4_lw_nodes : PySem.W.keepIn K (.ref p_lw_nodes) = true)
    (a1_lw_moves : PySem.W.nsIn K mainGlobals "_law_moves" = some (some (.ref p_lw_moves)))
    (a2_lw_moves : K.lookup p_lw_moves = some ⟨oc_lw_moves, od_lw_moves, .func (PySem.W.fnOf "_law_moves" "_law_moves" (defArgs s_lw_moves) (defBody s_lw_moves) (defScope s_lw_moves) .none kV_lw_moves dc_lw_moves pm_lw_moves an_lw_moves cd_lw_moves ct_lw_moves), sl_lw_moves⟩)
    (a3_lw_moves : PySem.W.codeIn K cd_lw_moves "_law_moves" = true)
    (a4_lw_moves : PySem.W.keepIn K (.ref p_lw_moves) = true)
    (a1_lw_ends : PySem.W.nsIn K mainGlobals "_law_ends" = some (some (.ref p_lw_ends)))
    (a2_lw_ends : K.lookup p_lw_ends = some ⟨oc_lw_ends, od_lw_ends, .func (PySem.W.fnOf "_law_ends" "_law_ends" (defArgs s_lw_ends) (defBody s_lw_ends) (defScope s_lw_ends) .none kV_lw_ends dc_lw_ends pm_lw_ends an_lw_ends cd_lw_ends ct_lw_ends), sl_lw_ends⟩)
    (a3_lw_ends : PySem.W.codeIn K cd_lw_ends "_law_ends" = true)
    (a4_lw_ends : PySem.W.keepIn K (.ref p_lw_ends) = true)
    (a1_lw_walked : PySem.W.nsIn K mainGlobals "_law_walked" = some (some (.ref p_lw_walked)))
    (a2_lw_walked : K.lookup p_lw_walked = some ⟨oc_lw_walked, od_lw_walked, .func (PySem.W.fnOf "_law_walked" "_law_walked" (defArgs s_lw_walked) (defBody s_lw_walked) (defScope s_lw_walked) .none kV_lw_walked dc_lw_walked pm_lw_walked an_lw_walked cd_lw_walked ct_lw_walked), sl_lw_walked⟩)
    (a3_lw_walked : PySem.W.codeIn K cd_lw_walked "_law_walked" = true)
    (a4_lw_walked : PySem.W.keepIn K (.ref p_lw_walked) = true)
    (a1_lw_row : PySem.W.nsIn K mainGlobals "_law_row" = some (some (.ref p_lw_row)))
    (a2_lw_row : K.lookup p_lw_row = some ⟨oc_lw_row, od_lw_row, .func (PySem.W.fnOf "_law_row" "_law_row" (defArgs s_lw_row) (defBody s_lw_row) (defScope s_lw_row) .none kV_lw_row dc_lw_row pm_lw_row an_lw_row cd_lw_row ct_lw_row), sl_lw_row⟩)
    (a3_lw_row : PySem.W.codeIn K cd_lw_row "_law_row" = true)
    (a4_lw_row : PySem.W.keepIn K (.ref p_lw_row) = true)
    (a1_lw_spoilt : PySem.W.nsIn K mainGlobals "_law_spoilt" = some (some (.ref p_lw_spoilt)))
    (a2_lw_spoilt : K.lookup p_lw_spoilt = some ⟨oc_lw_spoilt, od_lw_spoilt, .func (PySem.W.fnOf "_law_spoilt" "_law_spoilt" (defArgs s_lw_spoilt) (defBody s_lw_spoilt) (defScope s_lw_spoilt) .none kV_lw_spoilt dc_lw_spoilt pm_lw_spoilt an_lw_spoilt cd_lw_spoilt ct_lw_spoilt), sl_lw_spoilt⟩)
    (a3_lw_spoilt : PySem.W.codeIn K cd_lw_spoilt "_law_spoilt" = true)
    (a4_lw_spoilt : PySem.W.keepIn K (.ref p_lw_spoilt) = true)
    (a1_lw_told : PySem.W.nsIn K mainGlobals "_law_told" = some (some (.ref p_lw_told)))
    (a2_lw_told : K.lookup p_lw_told = some ⟨oc_lw_told, od_lw_told, .func (PySem.W.fnOf "_law_told" "_law_told" (defArgs s_lw_told) (defBody s_lw_told) (defScope s_lw_told) .none kV_lw_told dc_lw_told pm_lw_told an_lw_told cd_lw_told ct_lw_told), sl_lw_told⟩)
    (a3_lw_told : PySem.W.codeIn K cd_lw_told "_law_told" = true)
    (a4_lw_told : PySem.W.keepIn K (.ref p_lw_told) = true)
    (a1_lw_truth : PySem.W.nsIn K mainGlobals "_law_truth" = some (some (.ref p_lw_truth)))
    (a2_lw_truth : K.lookup p_lw_truth = some ⟨oc_lw_truth, od_lw_truth, .func (PySem.W.fnOf "_law_truth" "_law_truth" (defArgs s_lw_truth) (defBody s_lw_truth) (defScope s_lw_truth) .none kV_lw_truth dc_lw_truth pm_lw_truth an_lw_truth cd_lw_truth ct_lw_truth), sl_lw_truth⟩)
    (a3_lw_truth : PySem.W.codeIn K cd_lw_truth "_law_truth" = true)
    (a4_lw_truth : PySem.W.keepIn K (.ref p_lw_truth) = true)
    (a1_lw_methods : PySem.W.nsIn K mainGlobals "_law_methods" = some (some (.ref p_lw_methods)))
    (a2_lw_methods : K.lookup p_lw_methods = some ⟨oc_lw_methods, od_lw_methods, .func (PySem.W.fnOf "_law_methods" "_law_methods" (defArgs s_lw_methods) (defBody s_lw_methods) (defScope s_lw_methods) .none kV_lw_methods dc_lw_methods pm_lw_methods an_lw_methods cd_lw_methods ct_lw_methods), sl_lw_methods⟩)
    (a3_lw_methods : PySem.W.codeIn K cd_lw_methods "_law_methods" = true)
    (a4_lw_methods : PySem.W.keepIn K (.ref p_lw_methods) = true)
    (a1_law : PySem.W.nsIn K mainGlobals "law" = some (some (.ref p_law)))
    (a2_law : K.lookup p_law = some ⟨oc_law, od_law, .func (PySem.W.fnOf "law" "law" (defArgs s_law) (defBody s_law) (defScope s_law) .none kV_law dc_law pm_law an_law cd_law ct_law), sl_law⟩)
    (a3_law : PySem.W.codeIn K cd_law "law" = true)
    (a4_law : PySem.W.keepIn K (.ref p_law) = true)
    (z_bool : PySem.W.nsIn K mainGlobals "bool" = some none)
    (z_int : PySem.W.nsIn K mainGlobals "int" = some none)
    (z_isinstance : PySem.W.nsIn K mainGlobals "isinstance" = some none)
    (z_len : PySem.W.nsIn K mainGlobals "len" = some none)
    (z_list : PySem.W.nsIn K mainGlobals "list" = some none)
    (z_range : PySem.W.nsIn K mainGlobals "range" = some none)
    (pg_Listed : PySem.W.plainGet K c_Listed Str.empty = true)
    (hd_Listed : PySem.W.hasDictIn K c_Listed = true)
    (po_Listed : PySem.W.plainOver K c_Listed = true)
    (sa_Listed : PySem.W.findIn K (.ref c_Listed) "__setattr__" = some (some (.builtin "object.__setattr__")))
    (na_Listed_sizes : PySem.W.findIn K (.ref c_Listed) "sizes" = some none)
    (na_Listed_steps : PySem.W.findIn K (.ref c_Listed) "steps" = some none)
    (na_Listed_shut : PySem.W.findIn K (.ref c_Listed) "shut" = some none)
    (mi_Listed : PySem.W.makesIn K c_Listed = true)
    (kc_Listed : PySem.W.keepIn K (.ref c_Listed) = true) :
    ∃ fd : FuncData, (∀ (s : Shared) (v : Value), BindsTo s fd ⟨[v], []⟩ [("_law_script", v)]) ∧ ∀ base : Heap, K.In base → base.Ns mainGlobals mg → FnOk l.prog w K mg base CX0 4 fa fd ["_law_script"] (spLaw K) := by
  have e := hfa.symm.trans (PySem.W.mg_of X G a1_law)
  cases e
  have FListed_init := fun_mk (st := s_Listed_init) a2_Listed_init a3_Listed_init a4_Listed_init
  have FListed_first_node := fun_mk (st := s_Listed_first_node) a2_Listed_first_node a3_Listed_first_node a4_Listed_first_node
  have FListed_last_at := fun_mk (st := s_Listed_last_at) a2_Listed_last_at a3_Listed_last_at a4_Listed_last_at
  have FListed_nodes_at := fun_mk (st := s_Listed_nodes_at) a2_Listed_nodes_at a3_Listed_nodes_at a4_Listed_nodes_at
  have FListed_moves_from := fun_mk (st := s_Listed_moves_from) a2_Listed_moves_from a3_Listed_moves_from a4_Listed_moves_from
  have FListed_is_end := fun_mk (st := s_Listed_is_end) a2_Listed_is_end a3_Listed_is_end a4_Listed_is_end
  have Fwalked := fun_mk (st := s_walked) a2_walked a3_walked a4_walked
  have Flw_cell_at := fun_mk (st := s_lw_cell_at) a2_lw_cell_at a3_lw_cell_at a4_lw_cell_at
  have Flw_mix := fun_mk (st := s_lw_mix) a2_lw_mix a3_lw_mix a4_lw_mix
  have Flw_whole := fun_mk (st := s_lw_whole) a2_lw_whole a3_lw_whole a4_lw_whole
  have Flw_sizes := fun_mk (st := s_lw_sizes) a2_lw_sizes a3_lw_sizes a4_lw_sizes
  have Flw_nodes := fun_mk (st := s_lw_nodes) a2_lw_nodes a3_lw_nodes a4_lw_nodes
  have Flw_moves := fun_mk (st := s_lw_moves) a2_lw_moves a3_lw_moves a4_lw_moves
  have Flw_ends := fun_mk (st := s_lw_ends) a2_lw_ends a3_lw_ends a4_lw_ends
  have Flw_walked := fun_mk (st := s_lw_walked) a2_lw_walked a3_lw_walked a4_lw_walked
  have Flw_row := fun_mk (st := s_lw_row) a2_lw_row a3_lw_row a4_lw_row
  have Flw_spoilt := fun_mk (st := s_lw_spoilt) a2_lw_spoilt a3_lw_spoilt a4_lw_spoilt
  have Flw_told := fun_mk (st := s_lw_told) a2_lw_told a3_lw_told a4_lw_told
  have Flw_truth := fun_mk (st := s_lw_truth) a2_lw_truth a3_lw_truth a4_lw_truth
  have Flw_methods := fun_mk (st := s_lw_methods) a2_lw_methods a3_lw_methods a4_lw_methods
  have Flaw := fun_mk (st := s_law) a2_law a3_law a4_law
  let T : Tx K mg w := {
    cl := fun i => if i = 1 then c_Listed else 0,
    a_Listed_init := p_Listed_init,
    d_Listed_init := _,
    f_Listed_init := FListed_init,
    b_Listed_init := FListed_init.binds (ps := ["self", "sizes", "moves", "ends"]) fun _ _ _ _ _ _ us hl => match us, hl with | [_, _, _, _], _ => rfl,
    a_Listed_first_node := p_Listed_first_node,
    d_Listed_first_node := _,
    f_Listed_first_node := FListed_first_node,
    b_Listed_first_node := FListed_first_node.binds (ps := ["self"]) fun _ _ _ _ _ _ us hl => match us, hl with | [_], _ => rfl,
    a_Listed_last_at := p_Listed_last_at,
    d_Listed_last_at := _,
    f_Listed_last_at := FListed_last_at,
    b_Listed_last_at := FListed_last_at.binds (ps := ["self"]) fun _ _ _ _ _ _ us hl => match us, hl with | [_], _ => rfl,
    a_Listed_nodes_at := p_Listed_nodes_at,
    d_Listed_nodes_at := _,
    f_Listed_nodes_at := FListed_nodes_at,
    b_Listed_nodes_at := FListed_nodes_at.binds (ps := ["self", "at"]) fun _ _ _ _ _ _ us hl => match us, hl with | [_, _], _ => rfl,
    a_Listed_moves_from := p_Listed_moves_from,
    d_Listed_moves_from := _,
    f_Listed_moves_from := FListed_moves_from,
    b_Listed_moves_from := FListed_moves_from.binds (ps := ["self", "node"]) fun _ _ _ _ _ _ us hl => match us, hl with | [_, _], _ => rfl,
    a_Listed_is_end := p_Listed_is_end,
    d_Listed_is_end := _,
    f_Listed_is_end := FListed_is_end,
    b_Listed_is_end := FListed_is_end.binds (ps := ["self", "node"]) fun _ _ _ _ _ _ us hl => match us, hl with | [_, _], _ => rfl,
    a_walked := p_walked,
    d_walked := _,
    f_walked := Fwalked,
    b_walked := Fwalked.binds (ps := ["trail", "names"]) fun _ _ _ _ _ _ us hl => match us, hl with | [_, _], _ => rfl,
    g_walked := PySem.W.mg_of X G a1_walked,
    a_lw_cell_at := p_lw_cell_at,
    d_lw_cell_at := _,
    f_lw_cell_at := Flw_cell_at,
    b_lw_cell_at := Flw_cell_at.binds (ps := ["_law_script", "_law_k"]) fun _ _ _ _ _ _ us hl => match us, hl with | [_, _], _ => rfl,
    g_lw_cell_at := PySem.W.mg_of X G a1_lw_cell_at,
    a_lw_mix := p_lw_mix,
    d_lw_mix := _,
    f_lw_mix := Flw_mix,
    b_lw_mix := Flw_mix.binds (ps := ["_law_cell", "_law_k"]) fun _ _ _ _ _ _ us hl => match us, hl with | [_, _], _ => rfl,
    g_lw_mix := PySem.W.mg_of X G a1_lw_mix,
    a_lw_whole := p_lw_whole,
    d_lw_whole := _,
    f_lw_whole := Flw_whole,
    b_lw_whole := Flw_whole.binds (ps := ["_law_thing"]) fun _ _ _ _ _ _ us hl => match us, hl with | [_], _ => rfl,
    g_lw_whole := PySem.W.mg_of X G a1_lw_whole,
    a_lw_sizes := p_lw_sizes,
    d_lw_sizes := _,
    f_lw_sizes := Flw_sizes,
    b_lw_sizes := Flw_sizes.binds (ps := ["_law_cell"]) fun _ _ _ _ _ _ us hl => match us, hl with | [_], _ => rfl,
    g_lw_sizes := PySem.W.mg_of X G a1_lw_sizes,
    a_lw_nodes := p_lw_nodes,
    d_lw_nodes := _,
    f_lw_nodes := Flw_nodes,
    b_lw_nodes := Flw_nodes.binds (ps := ["_law_sizes_here"]) fun _ _ _ _ _ _ us hl => match us, hl with | [_], _ => rfl,
    g_lw_nodes := PySem.W.mg_of X G a1_lw_nodes,
    a_lw_moves := p_lw_moves,
    d_lw_moves := _,
    f_lw_moves := Flw_moves,
    b_lw_moves := Flw_moves.binds (ps := ["_law_script", "_law_nodes_here"]) fun _ _ _ _ _ _ us hl => match us, hl with | [_, _], _ => rfl,
    g_lw_moves := PySem.W.mg_of X G a1_lw_moves,
    a_lw_ends := p_lw_ends,
    d_lw_ends := _,
    f_lw_ends := Flw_ends,
    b_lw_ends := Flw_ends.binds (ps := ["_law_cell", "_law_nodes_here"]) fun _ _ _ _ _ _ us hl => match us, hl with | [_, _], _ => rfl,
    g_lw_ends := PySem.W.mg_of X G a1_lw_ends,
    a_lw_walked := p_lw_walked,
    d_lw_walked := _,
    f_lw_walked := Flw_walked,
    b_lw_walked := Flw_walked.binds (ps := ["_law_moves_here", "_law_ends_here", "_law_names"]) fun _ _ _ _ _ _ us hl => match us, hl with | [_, _, _], _ => rfl,
    g_lw_walked := PySem.W.mg_of X G a1_lw_walked,
    a_lw_row := p_lw_row,
    d_lw_row := _,
    f_lw_row := Flw_row,
    b_lw_row := Flw_row.binds (ps := ["_law_script", "_law_moves_here"]) fun _ _ _ _ _ _ us hl => match us, hl with | [_, _], _ => rfl,
    g_lw_row := PySem.W.mg_of X G a1_lw_row,
    a_lw_spoilt := p_lw_spoilt,
    d_lw_spoilt := _,
    f_lw_spoilt := Flw_spoilt,
    b_lw_spoilt := Flw_spoilt.binds (ps := ["_law_names", "_law_cell", "_law_k"]) fun _ _ _ _ _ _ us hl => match us, hl with | [_, _, _], _ => rfl,
    g_lw_spoilt := PySem.W.mg_of X G a1_lw_spoilt,
    a_lw_told := p_lw_told,
    d_lw_told := _,
    f_lw_told := Flw_told,
    b_lw_told := Flw_told.binds (ps := ["_law_trail", "_law_moves_here", "_law_ends_here", "_law_names"]) fun _ _ _ _ _ _ us hl => match us, hl with | [_, _, _, _], _ => rfl,
    g_lw_told := PySem.W.mg_of X G a1_lw_told,
    a_lw_truth := p_lw_truth,
    d_lw_truth := _,
    f_lw_truth := Flw_truth,
    b_lw_truth := Flw_truth.binds (ps := ["_law_found", "_law_due"]) fun _ _ _ _ _ _ us hl => match us, hl with | [_, _], _ => rfl,
    g_lw_truth := PySem.W.mg_of X G a1_lw_truth,
    a_lw_methods := p_lw_methods,
    d_lw_methods := _,
    f_lw_methods := Flw_methods,
    b_lw_methods := Flw_methods.binds (ps := ["_law_trail", "_law_sizes_here", "_law_moves_here", "_law_ends_here"]) fun _ _ _ _ _ _ us hl => match us, hl with | [_, _, _, _], _ => rfl,
    g_lw_methods := PySem.W.mg_of X G a1_lw_methods,
    a_law := fa,
    d_law := _,
    f_law := Flaw,
    b_law := Flaw.binds (ps := ["_law_script"]) fun _ _ _ _ _ _ us hl => match us, hl with | [_], _ => rfl,
    g_law := PySem.W.mg_of X G a1_law,
    z_bool := PySem.W.mg_none_of X G z_bool,
    z_int := PySem.W.mg_none_of X G z_int,
    z_isinstance := PySem.W.mg_none_of X G z_isinstance,
    z_len := PySem.W.mg_none_of X G z_len,
    z_list := PySem.W.mg_none_of X G z_list,
    z_range := PySem.W.mg_none_of X G z_range,
    cls_Listed := ⟨pg_Listed, hd_Listed, po_Listed, sa_Listed⟩,
    gc_Listed := PySem.W.mg_of X G gc_Listed,
    na_Listed_sizes := na_Listed_sizes,
    na_Listed_steps := na_Listed_steps,
    na_Listed_shut := na_Listed_shut,
    me_Listed_first_node := ⟨a1_Listed_first_node, a5_Listed_first_node, a4_Listed_first_node⟩,
    me_Listed_moves_from := ⟨a1_Listed_moves_from, a5_Listed_moves_from, a4_Listed_moves_from⟩,
    me_Listed_is_end := ⟨a1_Listed_is_end, a5_Listed_is_end, a4_Listed_is_end⟩,
    me_Listed_last_at := ⟨a1_Listed_last_at, a5_Listed_last_at, a4_Listed_last_at⟩,
    me_Listed_nodes_at := ⟨a1_Listed_nodes_at, a5_Listed_nodes_at, a4_Listed_nodes_at⟩,
    mk_Listed := ⟨mi_Listed, a1_Listed_init, a5_Listed_init, kc_Listed⟩ }
  exact ⟨PySem.W.fnOf "law" "law" (defArgs s_law) (defBody s_law) (defScope s_law) .none kV_law dc_law pm_law an_law cd_law ct_law, fun s v => .of_eq rfl, fun base _ _ => law_ok (ok_law T) LT⟩
end LW
namespace PySem.W.Fast
def tw5999955100762517328:=0
def tw17421194808900230786:=0
def tw1710782845957234273:=0
def tw8838161336105471660:=0
def tw9740108993566693284:=0
def tw9416427316260134111:=0
def tw10700260672416894432:=0
def tw6443657126601620867:=0
def tw12533971376361335430:=0
def tw15332948396730855245:=0
def tw15242489152437254485:=0
def tw222496563358140125:=0
def tw9985346624722053180:=0
def tw4735438880398041993:=0
def tw13246029501710469204:=0
def tw8156677192872092922:=0
def tw12133000587149850181:=0
def tw1403940117616896080:=0
def tw14572272602707636540:=0
def tw17845822532117274373:=0
def tw10492595904653976232:=0
def tw1115668790789603337:=0
def tw18178096378322032620:=0
def tw8827958773770703374:=0
def tw7509073544213248995:=0
def tw7787316708786270682:=0
def tw14971366481044042306:=0
def tw737909259580571314:=0
def tw15999172109401254776:=0
def tw2493481470207603908:=0
def tw11061203678058664057:=0
def tw9934764711770670612:=0
def tw1474880616185948898:=0
def tw12566718622096072595:=0
def tw17867951492836572613:=0
def tw18011467869723521163:=0
def tw17623910558472523029:=0
def tw18225854750459113594:=0
def tw12785625534138125338:=0
def tw9257737194482151377:=0
def tw4849250954582829868:=0
def tw11888035706439561170:=0
def tw132250151738697396:=0
def tw14957157548990151079:=0
def tw13391063171827075922:=0
def tw18203871885858038139:=0
def tw296198269788963447:=0
def tw7971706742556023248:=0
def tw1816321215413129270:=0
def tw17827670436066998296:=0
def tw3632438565427550748:=0
def tw17493482979892808706:=0
def tw2882556459017499495:=0
def tw2766264621469802919:=0
def tw13526457441800285814:=0
def tw8658418201292599391:=0
def tw11207059387073022078:=0
def tw10680371520637898390:=0
def tw12089323323617272145:=0
def tw15956048297453918236:=0
def tw1424431499481858241:=0
def tw10565954765538808973:=0
def tw7175454710446168055:=0
def tw1306344123326424848:=0
def tw9777488816333214330:=0
def tw17885890245578968145:=0
def tw15697185238723685520:=0
def tw6862406405087856825:=0
def tw4816122173005671204:=0
def tw1069221628081938699:=0
def tw18235923992282093940:=0
def tw8735956864497162176:=0
def tw4090517465183566218:=0
def tw9492174561537698475:=0
def tw2701065160294214681:=0
def tw17659520729854843944:=0
def tw961668362014840212:=0
def tw1988987764913616503:=0
def tw5047547938525966506:=0
def tw1049432955420287204:=0
def tw6521231534966396386:=0
def tw8576486381162414493:=0
def tw7723245602760433519:=0
def tw3796007702439217756:=0
def tw12654515007658323962:=0
def tw2150027714555540876:=0
def tw382737515724182810:=0
def tw2389182203815745711:=0
def tw6169754132043983440:=0
def tw18401571057843895489:=0
def tw12612942926525836030:=0
def tw16906716970874500910:=0
def tw16518715997564155734:=0
def tw2037760490545464871:=0
def tw6029755845609963217:=0
def tw13004900622033510265:=0
def tw9940500697676856226:=0
def tw14448107896622423710:=0
def tw17946326933816739348:=0
def tw1808647189324483270:=0
def tw22375130829906680:=0
def tw1132432776214183033:=0
def tw67449638451340661:=0
def tw14655170995859826244:=0
def tw8446650561727376999:=0
def tw2595124019746426222:=0
def tw1686750358990737642:=0
def tw15745067289151386343:=0
def tw8266798387296655554:=0
def tw53293665652994075:=0
def tw7771396460844614072:=0
def tw8811026735512322257:=0
def tw10278828477111151024:=0
def tw7980740358516423209:=0
def tw472460602256299213:=0
def tw8312877491623419673:=0
def tw6794458276712439369:=0
def tw15985026535111424840:=0
def tw4074143768344181206:=0
def tw15311086135189275595:=0
def tw8370446574468888564:=0
def tw15159534124797956820:=0
def tw12267764810404526474:=0
def tw7918257133390289282:=0
def tw1348482653508284355:=0
def tw8070621191329033981:=0
def tw16450947512852951868:=0
def tw3812988574357287339:=0
def tw5704113021741634791:=0
def tw10846114186235283238:=0
def tw541057610106623528:=0
def tw3181369723110384175:=0
def tw6338280104868982581:=0
def tw6969066351612538246:=0
def tw16629807820253515059:=0
def tw5481665034200268696:=0
def tw9753558125780784677:=0
def tw11475999468847844510:=0
def tw810646391775622580:=0
def tw3766248063167292032:=0
def tw15758941669967872865:=0
def tw16778430557159668729:=0
def tw9948631929591089809:=0
def tw4295695946363230847:=0
def tw8654304739744877635:=0
def tw13641943988654775886:=0
def tw17677749563328680608:=0
def tw8619149422227412042:=0
def tw5337358853392479186:=0
def tw10081737505511533535:=0
def tw15181812782493076800:=0
def tw3030080485514438391:=0
def tw4297781194334814407:=0
def tw3439909202622483793:=0
def tw15393376167202771574:=0
def tw10126397444639356510:=0
def tw12996124700763549359:=0
def tw372479177570084964:=0
def tw8350603088809172875:=0
def tw8924497031305083317:=0
def tw2483822695698320702:=0
def tw13460327882523441298:=0
def tw552007936423207357:=0
def tw929633505772755891:=0
def tw3881824621503506839:=0
def tw8417543538373294756:=0
def tw3890570774754632303:=0
def tw9535881678540963732:=0
def tw11922477914453155234:=0
def tw1133690905032667027:=0
def tw3654941564940001828:=0
def tw12489369851537015917:=0
def tw13755207435972303390:=0
def tw5886957025481203798:=0
def tw5049620056844097962:=0
def tw9433557805119051887:=0
def tw2408684424484752632:=0
def tw11421246767237658108:=0
def tw13055349071002975138:=0
def tw11584744541005170310:=0
def tw4362850202919742266:=0
def tw3878203106056862890:=0
def tw4222983126196611822:=0
def tw13396232931076472961:=0
def tw16833204703138622853:=0
def tw16269130208987102476:=0
def tw16241717172755411959:=0
def tw2283495546798103886:=0
def tw5187467192136396306:=0
def tw8317538835435480531:=0
def tw16024727571525430540:=0
def tw15008390002070154895:=0
def tw9614327753724615558:=0
def tw1840213312336234296:=0
def tw7768862641675627147:=0
def tw15206383656599532770:=0
def tw3620559047019799566:=0
def tw2963543278569042263:=0
def tw12150257825144678653:=0
def tw7212676213947893130:=0
def tw506430459096713960:=0
def tw14557545708692175472:=0
def tw2671737205974758280:=0
def tw8269760754941517544:=0
def tw7920987645590762659:=0
def tw12410747902404332113:=0
def tw9767107222450029183:=0
def tw14349811025895178112:=0
def tw2982193041796137578:=0
def tw9847194730212787737:=0
def tw15791211175083537739:=0
def tw5270367723856216947:=0
def tw18136654067780783274:=0
def tw10008560774741967785:=0
def tw9652864599648125553:=0
def tw205376374121064385:=0
def tw14166462595740115230:=0
def tw14966264868864878667:=0
def tw16610892014081240947:=0
def tw17733185638552639953:=0
def tw426160920136255549:=0
def tw8796019161619869623:=0
def tw3660488011452600744:=0
def tw2504679729578009671:=0
def tw8369379192147397172:=0
def tw1410737992655353268:=0
def tw10443427548516058120:=0
def tw6244546487956090695:=0
def tw3267139054663370121:=0
def tw18429966282002577133:=0
def tw4531013319144576387:=0
def tw4479384989191144367:=0
def tw6653406722387814640:=0
def tw14926960492363616634:=0
def tw3748335221526296730:=0
def tw9662652229888281884:=0
def tw10441381333036317650:=0
def tw15267380038507374678:=0
def tw3733461451971777013:=0
def tw10822014180348289458:=0
def tw4202103206257650083:=0
def tw5967804819213609387:=0
def tw4498434355217783279:=0
def tw2327352754173214514:=0
def tw7180499944413074627:=0
def tw11265909106329082499:=0
def tw15058464110436665343:=0
def tw11621147004434247547:=0
def tw6552163074027399837:=0
def tw13116603669435589395:=0
def tw10924274358561040833:=0
def tw14259972131056726982:=0
def tw9096221652366874324:=0
def tw8496752542645936832:=0
def tw4112043864024178659:=0
def tw7007503648626658631:=0
def tw10155303644602617359:=0
def tw15183376349824083766:=0
def tw8641438980275665053:=0
def tw11696848704050039587:=0
def tw8497981402944101643:=0
def tw12774889733667482330:=0
def tw10174529622138619897:=0
def tw4887708851074471561:=0
def tw11845525017178881226:=0
def tw4628535285021960411:=0
def tw8602039450871136713:=0
def tw15602376789439685514:=0
def tw1944928167015395669:=0
def tw4161718705756604353:=0
def tw11396722804578921710:=0
def tw2890930926415875104:=0
def tw16380742958332821698:=0
def tw17591217154869622042:=0
def tw13425994710005246551:=0
def tw7405993809923501893:=0
def tw5144752350635365063:=0
def tw7976267331584554836:=0
def tw17880938363187867300:=0
def tw13703392639448951074:=0
def tw7739875278549448548:=0
def tw1758576480737663269:=0
def tw12912214026544040553:=0
def tw4398900758882744143:=0
def tw17606170373650086044:=0
def tw5716691997966830084:=0
def tw17371519280763257069:=0
def tw10458327041128329226:=0
def tw3231639674887854470:=0
def tw4391994078919346432:=0
def tw8932928960494154772:=0
def tw11114666813541513779:=0
def tw5941599441315173819:=0
def tw9365112138547002598:=0
def tw5086521230031437483:=0
def tw14684642932499533593:=0
def tw6926937745768762308:=0
def tw121492068483272232:=0
def tw1224715322465776049:=0
def tw3714522722739436825:=0
def tw4110642547529284636:=0
def tw8896920201659608437:=0
def tw5427847965049730138:=0
def tw6884952190030888400:=0
def tw5341369805698694321:=0
def tw9319142067518571607:=0
def tw7575276164758343156:=0
def tw5562290468205293248:=0
def tw9747503980142724767:=0
def tw9295086436182723321:=0
def tw15208742964548080642:=0
def tw5014093445502902498:=0
def tw408986416427615492:=0
def tw9978603901093630791:=0
def tw10071561659590672778:=0
def tw2263945353324046766:=0
def tw250592345288954516:=0
def tw916200034013727178:=0
def tw14605504475441698505:=0
def tw17039374664229497627:=0
def tw6980107132781918203:=0
def tw14508453343038034060:=0
def tw14352905562313806377:=0
def tw1090984619927968701:=0
def tw17508235427754772052:=0
def tw16796600474128462866:=0
def tw8040079278307424818:=0
def tw7374588333934151920:=0
def tw361526143872571586:=0
def tw75696350063978319:=0
def tw12222312447359969472:=0
def tw12243125225290032053:=0
def tw3034624708104500809:=0
def tw413655017572711021:=0
def tw6986690001874795143:=0
def tw13217942645378302580:=0
def tw5945998457787497379:=0
def tw12930019824871591515:=0
def tw15201808725008286030:=0
def tw4118108906826055200:=0
def tw8893236346622079224:=0
def tw8760262708845778743:=0
def tw8117454900798051877:=0
def tw976208746741990124:=0
def tw16147561799005480127:=0
def tw6295733759720566079:=0
def tw17843941200163102736:=0
def tw14664889695052095855:=0
def tw17084209614161326933:=0
def tw9784716905652435300:=0
def tw6124190478606917267:=0
def tw14905759734716473600:=0
def tw13314225358941437656:=0
def tw6672231721799443960:=0
def tw16081995500343686508:=0
def tw10977344441093896123:=0
def tw3712363085722643037:=0
def tw3653180556893739409:=0
def tw13927967768451227492:=0
def tw15749178832257978200:=0
def tw13804536950143548364:=0
def tw16708783089293703852:=0
def tw9925616081444266893:=0
def tw17448357700003490993:=0
def tw11148202656787513981:=0
def tw17607162532623025023:=0
def tw14373403772501835273:=0
def tw12673666586934474588:=0
def tw13280847015653163059:=0
def tw7351362042851140798:=0
def tw14066879006229643443:=0
def tw15531221287627131970:=0
def tw8167821001058304413:=0
def tw974841433753503929:=0
def tw4034583402170253175:=0
def tw1168976383317357044:=0
def tw17191136396968353641:=0
def tw16771934555893384380:=0
def tw427953237010890047:=0
def tw13209048597541863372:=0
def tw12004158690265889109:=0
def tw17158770042082570796:=0
def tw8041309062087417679:=0
def tw1802064599521202486:=0
def tw6550368909836048369:=0
def tw13969768481883861636:=0
def tw285275697493432587:=0
def tw1282512928667002893:=0
def tw15310910625164671089:=0
def tw6850621996452082429:=0
def tw4079846138232934685:=0
def tw16278510589349384380:=0
def tw14136362673824263086:=0
def tw15128415131709075595:=0
def tw12697827301976222812:=0
def tw17757345618762302927:=0
def tw7728002276259724038:=0
def tw12955607291985344851:=0
def tw1864788235023532237:=0
def tw10683980956164539893:=0
def tw15083564894613069779:=0
def tw10741213630191860637:=0
def tw4132945028827644532:=0
def tw14409970166546839172:=0
def tw15632939810791205985:=0
def tw4544883206421738886:=0
def tw17699464012207046951:=0
def tw1017027150615780524:=0
def tw16673447378241106153:=0
def tw13217651915727445995:=0
def tw18114021445770578324:=0
def tw5408736184974581894:=0
def tw3812585804589516514:=0
def tw10052390208553033338:=0
def tw2705901134195405767:=0
def tw10370427790920616055:=0
def tw344401544733089584:=0
def tw8907997050912785638:=0
def tw4993840447181720484:=0
def tw14534583504156771134:=0
def tw8942665080178498030:=0
def tw10465499232678154335:=0
def tw457757758249049586:=0
def tw13702066202633993781:=0
def tw229551838137214827:=0
def tw12225777775153768570:=0
def tw10184751591397217000:=0
def tw3898538197025866001:=0
def tw2061538125512022971:=0
def tw14532800486933263620:=0
def tw541780684343154754:=0
def tw17451722332240490769:=0
def tw12967160014448196206:=0
def tw18259176838708415933:=0
def tw12081386956355759225:=0
def tw8849868721867323303:=0
def tw1975544265584668098:=0
def tw637183828223136589:=0
def tw282985153211174620:=0
def tw17305505897354878220:=0
def tw15266027169475443942:=0
def tw3609427777541477052:=0
def tw15520741731508079190:=0
def tw16564503055325605606:=0
def tw8773296981624555345:=0
def tw7346810205985979812:=0
def tw476505911054728684:=0
def tw193526022433702090:=0
def tw18354012876023584011:=0
def tw14539462859529369015:=0
def tw11725357274896230814:=0
def tw17387948872222765207:=0
def tw12588479540091909943:=0
def tw5096601641217242685:=0
def tw2208796959559558007:=0
def tw128609532246709209:=0
def tw7157247298423266793:=0
def tw1889550923736703376:=0
def tw15727629465507584354:=0
def tw11454593608505730197:=0
def tw16089600922343560187:=0
def tw11284594454815530166:=0
def tw16679577399222180092:=0
def tw17565457817537926794:=0
def tw3903822095237079237:=0
def tw7719023423702988254:=0
def tw15739709435265225224:=0
def tw7944280475428346705:=0
def tw13758029636733039073:=0
def tw12986630648934483677:=0
def tw11837879728139449092:=0
def tw5637076757180790213:=0
def tw18360161628577476368:=0
def tw11692722598490134096:=0
def tw6421611193342590418:=0
def tw13604417462417218361:=0
def tw590136938607495751:=0
def tw6226870685656593239:=0
def tw799376668053705064:=0
def tw12481989922074917110:=0
def tw2656104765415779840:=0
def tw7554164488122618023:=0
def tw104068946445920114:=0
def tw9899334055130737627:=0
def tw1329625450172297888:=0
def tw18373484864818822548:=0
def tw11741655910539691094:=0
def tw14760388990659946081:=0
def tw1147689961035203800:=0
def tw5028997630699534790:=0
def tw7060288806386330589:=0
def tw12670322782751926476:=0
def tw12144319275757688768:=0
def tw17842412610264733748:=0
def tw6026403456079848357:=0
def tw1116627193219004957:=0
def tw13000604301645114934:=0
def tw5475183353591053435:=0
def tw17059132483124708117:=0
def tw17479407888960338380:=0
def tw6268900544608658706:=0
def tw548524081823040676:=0
def tw12255065684836001320:=0
def tw10444362569326340177:=0
def tw10820643684506302800:=0
def tw15510836752650486969:=0
def tw48835140066780423:=0
def tw2662703555353264142:=0
def tw10456994897549405805:=0
def tw10446984512424207132:=0
def tw9776734490384645495:=0
def tw33994214880044342:=0
def tw2449658759476162185:=0
def tw11615332725987058406:=0
def tw16739895521523018289:=0
def tw4776758258200831513:=0
def tw10576420068222731609:=0
def tw14739348240411021979:=0
def tw6817041573788347861:=0
def tw9213198597823210950:=0
def tw7658865437682177245:=0
def tw5220477116576741254:=0
def tw5555729536030919173:=0
def tw12065118158479570915:=0
def tw5119728911517124406:=0
def tw10790980073874507844:=0
def tw12042859337869505454:=0
def tw16163838987264520668:=0
def tw10490940160358604439:=0
def tw7251771927515562708:=0
def tw811685909186670178:=0
def tw8040749305508215053:=0
def tw12171721535790811235:=0
def tw9407760993357585220:=0
def tw16349515070783991203:=0
def tw6539281181401000398:=0
def tw15106808067231872501:=0
def tw13903348339061067423:=0
def tw18224775207396252454:=0
def tw17937020343938341737:=0
def tw6790409849378728991:=0
def tw12425125345270964740:=0
def tw117881635337888900:=0
def tw4566413747084862458:=0
def tw7907240331234814793:=0
def tw644047593119298437:=0
def tw13701422603045820901:=0
def tw742577764011418684:=0
def tw1875276581002655869:=0
def tw1423647079751581173:=0
def tw6158675179219081004:=0
def tw5636467565838051096:=0
def tw17142697513778174739:=0
def tw11310981674306904199:=0
def tw5233629576955487422:=0
def tw3689732988457122996:=0
def tw77116848914014599:=0
def tw3638033847400305288:=0
def tw1182230827317566451:=0
def tw1763596846786270299:=0
def tw4765716088005529389:=0
def tw3149232188501794762:=0
def tw10881590856496271900:=0
def tw14540814480497088011:=0
def tw7568013903290740135:=0
def tw6464753002707653206:=0
def tw2584524925607088704:=0
def tw510165440269084493:=0
def tw12124731023331764203:=0
def tw2610656050469385167:=0
def tw7236103374453554374:=0
def tw11632789435493083822:=0
def tw16603513302108486783:=0
def tw14983940414865255361:=0
def tw8510530019866863566:=0
def tw2471534845641793744:=0
def tw17282357558865019347:=0
def tw17537804084533221882:=0
def tw12625304490383133683:=0
def tw2370222443994840150:=0
def tw16842971410031793567:=0
def tw3617736870643531271:=0
def tw17490146738376478026:=0
def tw17788819465267777819:=0
def tw1347470443643051380:=0
def tw17955894752399544111:=0
def tw5131542415839251819:=0
def tw831594575565700074:=0
def tw4024705389145010748:=0
def tw6544492872474387340:=0
def tw622299037700565794:=0
def tw4823462935965899839:=0
def tw1574479559707294075:=0
def tw13622255330235194264:=0
def tw2958969238963396268:=0
def tw13315035628551322958:=0
def tw8917833128439713101:=0
def tw7324464210306240721:=0
def tw2875272596201836969:=0
def tw7982357449580653395:=0
def tw15802119828494092426:=0
def tw6791517360416547730:=0
def tw15517262576521533532:=0
def tw5160528681860356178:=0
def tw13022898928313128630:=0
def tw1378468316781610856:=0
def tw3665483529028901025:=0
def tw8054145123106259646:=0
def tw6446197556159089524:=0
def tw13726199362846759767:=0
def tw7439894803055140492:=0
def tw4094776479825651009:=0
def tw11856320091194997587:=0
def tw7863166092883715269:=0
def tw15552752290821818761:=0
def tw16627421353323806240:=0
def tw3118192087042229361:=0
def tw17086176875376544367:=0
def tw10904355451004586074:=0
def tw4142319795537498787:=0
def tw7669703580151998991:=0
def tw3894776851388317704:=0
def tw9253460403057228262:=0
def tw4695278544801946589:=0
def tw5372255110365074141:=0
def tw3462932962516634707:=0
def tw14338616224492786706:=0
def tw13370684475568802243:=0
def tw3566982371525466287:=0
def tw12893088611816895966:=0
def tw7726706184008282324:=0
def tw11001377103267754203:=0
def tw14747091537251588931:=0
def tw1719053323660377217:=0
def tw16990950536701564545:=0
def tw10941806016974203859:=0
def tw4776058298687225873:=0
def tw4355460957539051480:=0
def tw2080697716988855815:=0
def tw7801324589206011356:=0
def tw9067338723516321168:=0
def tw8751863007321670076:=0
def tw4333452820530461303:=0
def tw4779784609191874880:=0
def tw6722105265262996155:=0
def tw11460287511410863336:=0
def tw8563074907385762630:=0
def tw10594099159025130087:=0
def tw14529455821291790749:=0
def tw3929500432110631286:=0
def tw14337862030980874435:=0
def tw10456515635141790551:=0
def tw2700974571646706035:=0
def tw11919067412727463248:=0
def tw7870809864801418794:=0
def tw7893182562611352983:=0
def tw3319889047003386062:=0
def tw575133363978559044:=0
def tw11445713611706079330:=0
def tw5071954152859726387:=0
def tw11034400479139683435:=0
def tw15401636497055710469:=0
def tw5386843227226796886:=0
def tw1931635899571789767:=0
def tw5469038151493151832:=0
def tw6194384060395204819:=0
def tw173702254654416568:=0
def tw6763620716068720703:=0
def tw2063312691538925918:=0
def tw17647066859376992264:=0
def tw14150915868817495885:=0
def tw16588877906646198608:=0
def tw4174678557996343101:=0
def tw13034187166015231641:=0
def tw9978572073167818277:=0
def tw14589796629983087108:=0
def tw12020878660408129051:=0
def tw13126226026762105913:=0
def tw18201841805506201320:=0
def tw9133102084189163157:=0
def tw16265878787047572331:=0
def tw2222469745131464056:=0
def tw8980441703743999858:=0
def tw8267719705933419037:=0
def tw14051002951243850176:=0
def tw3017335880687267102:=0
def tw773338596703197631:=0
def tw2200453773324105467:=0
def tw3506391325246401882:=0
def tw18305714045199814603:=0
def tw15737151187681382521:=0
def tw11036041726198247180:=0
def tw12362775758352014127:=0
def tw14322499347354833642:=0
def tw16435964618663034476:=0
def tw13562138985971863919:=0
def tw17317050919194533045:=0
def tw11740914703212866277:=0
def tw6733193574798607715:=0
def tw11422572703849421304:=0
def tw9497978930270081412:=0
def tw11123864763478381473:=0
def tw10148796001373097864:=0
def tw7226768177746765992:=0
def tw16219389989322652700:=0
def tw1922288821410696790:=0
def tw16001829079318260892:=0
def tw1359975269467336470:=0
def tw13390277532951981868:=0
def tw3453605322053340177:=0
def tw2457516060303738508:=0
def tw7786143178588634535:=0
def tw335320306186376372:=0
def tw15666312388421759653:=0
def tw1685018658911675610:=0
def tw9895345288822790747:=0
def tw33485635123948660:=0
def tw13378875369856720172:=0
def tw93073671313697337:=0
def tw17416033846957101778:=0
def tw1658364482427508275:=0
def tw13148718412927313483:=0
def tw13540773699159990908:=0
def tw12706781069034689053:=0
def tw12595380167581015995:=0
def tw14771481118546471402:=0
def tw8031024992376493272:=0
def tw12754088154109931276:=0
def tw13735760725554784838:=0
def tw9816524078153265085:=0
def tw7155330720747860130:=0
def tw9972697370029225528:=0
def tw12205340188608291311:=0
def tw2037865088987026490:=0
def tw1650976583854978632:=0
def tw10759696688954304373:=0
def tw5364324582153031131:=0
def tw11274674482555770477:=0
def tw14308133498652854520:=0
def tw2848475111025973443:=0
def tw9427009134751475847:=0
def tw12624729179579709391:=0
def tw3305982937771881059:=0
def tw14298841098185500182:=0
def tw2530317325664738610:=0
def tw11451181184720174982:=0
def tw1466996766736194086:=0
def tw16504999928857171777:=0
def tw3208737244849681992:=0
def tw8571382281467812151:=0
def tw15997593423574454603:=0
def tw9324359524476540151:=0
def tw12771222115174663645:=0
def tw6913558887735176671:=0
def tw9880789512306799078:=0
def tw1600692595503691678:=0
def tw9698638448492698433:=0
def tw15115444841493258108:=0
def tw11846033580268646490:=0
def tw17146567415542234087:=0
def tw9981885924958361894:=0
def tw8671214960275862233:=0
def tw1562892989582296668:=0
def tw5827887395273916240:=0
def tw721386022799491410:=0
def tw7888393567551414538:=0
def tw17300583472917138134:=0
def tw9314207857216857992:=0
def tw10209052724519888516:=0
def tw7079316737395460406:=0
def tw5166770573749683733:=0
def tw15928778898549481157:=0
def tw4912341257423702063:=0
def tw6282295043628451585:=0
def tw6855471948923892768:=0
def tw943543629825949475:=0
def tw8768150165750911962:=0
def tw6046104593170655415:=0
def tw1568036628976516584:=0
def tw9543365379180733544:=0
def tw13527473077997597572:=0
def tw6461689617707300029:=0
def tw685372806976105524:=0
def tw15184903064601562935:=0
def tw16331833619917541827:=0
def tw15684913357077309889:=0
def tw1277452704043906416:=0
def tw2467341575007629360:=0
def tw15653807097316111450:=0
def tw13438170999170844193:=0
def tw3562873543308050491:=0
def tw13564729095077098983:=0
def tw7814238543261885461:=0
def tw3614272996390501696:=0
def tw14175398449380325344:=0
def tw9347960002696760890:=0
def tw13367858394063469865:=0
def tw15161792884765445632:=0
def tw4947533119170536918:=0
def tw11175182030062421236:=0
def tw11140350822359977285:=0
def tw6065511187737115266:=0
def tw2143967816369564780:=0
def tw864525239465291866:=0
def tw568257956202534404:=0
def tw15365306968737797547:=0
def tw13491177625876814025:=0
def tw4867140487398174315:=0
def tw15049645921966484768:=0
def tw14556970174106863102:=0
def tw11746071828724317755:=0
def tw16772085529877583177:=0
def tw5838873007848284532:=0
def tw4604542182577129884:=0
def tw8996715826529218637:=0
def tw1015375889130326907:=0
def tw5898341178906791076:=0
def tw12647563394740429812:=0
def tw15249401794200362387:=0
def tw821738375519312033:=0
def tw11243466051565820739:=0
def tw10031421254426806235:=0
def tw3185999130414340521:=0
def tw1656735527643658296:=0
def tw11248063591445649572:=0
def tw7218141980700686971:=0
def tw12883572914124706568:=0
def tw17116846940088550944:=0
def tw1239645465000183359:=0
def tw12386384572174394705:=0
def tw17292690991178265249:=0
def tw300137127571327505:=0
def tw12857060206551060739:=0
def tw17063760591250671772:=0
def tw18295392898911691633:=0
def tw7689469205718586543:=0
def tw13161167692461992227:=0
def tw15733289122225108608:=0
def tw7075314150409080097:=0
def tw14595880399799146807:=0
def tw11201946776101951442:=0
def tw10761673047574317728:=0
def tw11919947400307397225:=0
def tw10402702493120586344:=0
def tw15801327294310167987:=0
def tw12301606264350139704:=0
def tw13753959689820744675:=0
def tw8891637740929128428:=0
def tw1916582822388680457:=0
def tw18353099567730610162:=0
def tw1772233863409245456:=0
def tw2842849675433092040:=0
def tw12051533900335466877:=0
def tw3634850637641806913:=0
def tw13342491270716481839:=0
def tw16622629989888191323:=0
def tw13432956993857735755:=0
def tw7278026296567650786:=0
def tw6246348044714781628:=0
def tw4974846055892921897:=0
def tw5276089513608606147:=0
def tw17971485433888882099:=0
def tw4156521502436528228:=0
def tw7248925233689505649:=0
def tw15850880578494914459:=0
def tw17620807583429384447:=0
def tw12511692688945871451:=0
def tw2062887072404894005:=0
def tw4629571232909659290:=0
def tw8887073998239278637:=0
def tw13172104110763567607:=0
def tw12772759152068863110:=0
def tw17695954407182810373:=0
def tw17078008797778067267:=0
def tw18244663111518583673:=0
def tw2347274733349556947:=0
def tw6877549672285627509:=0
def tw14005717043476751986:=0
def tw12322270787965489685:=0
def tw6159525653554634130:=0
def tw12536897797554493607:=0
def tw9266276148015992706:=0
def tw11808838706018231301:=0
def tw8503632424655658518:=0
def tw12963833528109327996:=0
def tw14379923274554962418:=0
def tw11792178180920394490:=0
def tw10135735052058685554:=0
def tw10464904862362438641:=0
def tw10818222893732406035:=0
def tw7166121811922965737:=0
def tw4424345309304854344:=0
def tw2320419792427849691:=0
def tw5114280344885122342:=0
def tw10114551046249695550:=0
def tw1494359907846700936:=0
def tw8460527959826026127:=0
def tw9539528717565902532:=0
def tw6048974788578547623:=0
def tw14506196910176586300:=0
def tw13735692288097764062:=0
def tw5667229641181456691:=0
def tw7534388200089329155:=0
def tw17682290875321226288:=0
def tw14219666273271087485:=0
def tw1620243162959111947:=0
def tw17239489857690838543:=0
def tw567743757878203188:=0
def tw12683717255097872727:=0
def tw3314329855747916150:=0
def tw11487646538492640953:=0
def tw11238737056560430042:=0
def tw5349396408742920389:=0
def tw4613057290488232186:=0
def tw9664967068410704962:=0
def tw13169427492114775986:=0
def tw6651377202075416537:=0
def tw11488164722627120019:=0
def tw2623140555039526901:=0
def tw6623079319730779614:=0
def tw806276739200304424:=0
def tw10680184950439672741:=0
def tw9893941332533952640:=0
def tw14838160376503415617:=0
def tw14649448103776137290:=0
def tw10301687015841694134:=0
def tw420446631076885395:=0
def tw4991111827649205511:=0
def tw5645962970393479504:=0
def tw10223760873867340093:=0
def tw11822422167796665423:=0
def tw13248504178332876110:=0
def tw17773348929325293560:=0
def tw15467092588322497533:=0
def tw17738188701840775576:=0
def tw11965118096973832573:=0
def tw2725273917697818806:=0
def tw16726465344324932205:=0
def tw4696000033735470766:=0
def tw6329157343998667269:=0
def tw4223856909904242795:=0
def tw385911084082093794:=0
def tw15695447719866635899:=0
def tw4560278202614032616:=0
def tw5219798154728093143:=0
def tw15923368346957055596:=0
def tw4280299037520822617:=0
def tw16818564775777858272:=0
def tw9306959939668476898:=0
def tw5058528689235412053:=0
def tw16788069381333309649:=0
def tw16923265295431008146:=0
def tw7473473171423641949:=0
def tw14892324128267455615:=0
def tw3434279950348613061:=0
def tw15353992968370356554:=0
def tw9847435911956667990:=0
def tw8650842639154314853:=0
def tw3587796524663296094:=0
def tw14448298815663565512:=0
def tw7676649129896084394:=0
def tw13189855876349137353:=0
def tw999863172869596527:=0
def tw15681864570175580719:=0
def tw1695499434026041961:=0
def tw14637462180524502134:=0
def tw13548882337441094431:=0
def tw14534632849013163051:=0
def tw11667707753359341404:=0
def tw17845099962689825742:=0
def tw18353516671095855628:=0
def tw7125485401695510382:=0
def tw7433505197434035125:=0
def tw6195016610466180198:=0
def tw6397306667746792353:=0
def tw6246336282903502958:=0
def tw14779829124946224578:=0
def tw12665585911459462003:=0
def tw11328263876071032042:=0
def tw4545095224333012281:=0
def tw17921214069000305337:=0
def tw15828258486611242306:=0
def tw5044171657485192253:=0
def tw5957072391560452720:=0
def tw16618479847514992170:=0
def tw8282350536708645066:=0
def tw18245131884221014785:=0
def tw6618854204977207827:=0
def tw5303426783024159986:=0
def tw15653411846455420966:=0
def tw3354578732460191567:=0
def tw13767315221346097607:=0
def tw10542019130160023968:=0
def tw4719725446970491192:=0
def tw3219819945440780439:=0
def tw11317179597925560794:=0
def tw17243179037082194001:=0
def tw5206716228933906580:=0
def tw13432737726529284075:=0
def tw2607220397117632423:=0
def tw10987004015411325111:=0
def tw5760634877904286009:=0
def tw10751041956652187721:=0
def tw1604310229267566090:=0
def tw12565532694025781285:=0
def tw5442642503741270757:=0
def tw1387948059241203065:=0
def tw1876935289563157344:=0
def tw18435022266888781180:=0
def tw12396154293279850438:=0
def tw11808662983353084051:=0
def tw15936307059486314209:=0
def tw16871434945895300307:=0
def tw7913297125306995215:=0
def tw2512580354429431782:=0
def tw5517484029770253041:=0
def tw6789712227667505264:=0
def tw14449091777689596956:=0
def tw17888871631435967789:=0
def tw1321519581410663645:=0
def tw4916165960866646479:=0
def tw4751948983684174300:=0
def tw14769612520022499840:=0
def tw13302510464224085799:=0
def tw4109632286763823788:=0
def tw10065183341987563225:=0
def tw10183680591403251766:=0
def tw8125342848883668048:=0
def tw16990683271266362014:=0
def tw14771617775035131733:=0
def tw1139724404718593581:=0
def tw15168748868435110384:=0
def tw6142946968232565339:=0
def tw8585188057095249548:=0
def tw16976503871901325439:=0
def tw1554867225630989050:=0
def tw11231567111140519638:=0
def tw8864094168884530591:=0
def tw17735999517809721172:=0
def tw8577008754834640645:=0
def tw2499550461375808444:=0
def tw17999030116305566783:=0
def tw12443911091150397855:=0
def tw12896291812703035765:=0
def tw1466777697099551083:=0
def tw14475301786000274589:=0
def tw15600730329312994460:=0
def tw7808283470091999274:=0
def tw931681283793025103:=0
def tw6579548386442557379:=0
def tw15786393336054024399:=0
def tw252894572335262545:=0
def tw3973810232845196999:=0
def tw1639115200879354927:=0
def tw7349168893734931835:=0
def tw16594616948714997433:=0
def tw13459750238706996137:=0
def tw11654228136131668051:=0
def tw3154679613936050427:=0
def tw4945508749713484461:=0
def tw10982021727697108976:=0
def tw4323568311823396765:=0
def tw12621620203218983898:=0
def tw7320220435043328188:=0
def tw6451540046652489653:=0
def tw12102587976495506132:=0
def tw18363577489273522504:=0
def tw4774509387859121262:=0
def tw14615725200308720282:=0
def tw9274153180722660058:=0
def tw6838299406003216997:=0
def tw14800466128043809037:=0
def tw11808269319803279613:=0
def tw16078739427596290538:=0
def tw1815508592538833603:=0
def tw2689801463254241036:=0
def tw1205814072349109498:=0
def tw7794516771570983722:=0
def tw2237811945563216323:=0
def tw4504781866667325187:=0
def tw6423522303655409366:=0
def tw760688262888230700:=0
def tw3936412639851918266:=0
def tw4883127786442378926:=0
def tw15977983929683246663:=0
def tw5836465317439930179:=0
def tw6292059757335989999:=0
def tw12350633525954222220:=0
def tw14342250437788049706:=0
def tw544516691405151652:=0
def tw5994083911341819137:=0
def tw8694125888205304094:=0
def tw2776224460661036438:=0
def tw17698301689594980690:=0
def tw2086355961051230365:=0
def tw11542766761263118978:=0
def tw10669093736889618501:=0
def tw17353219161328933576:=0
def tw13614708272590867336:=0
def tw1187870862750781351:=0
def tw12994716754677291208:=0
def tw11140495484621305932:=0
def tw14577098283386065306:=0
def tw1185739043065668058:=0
def tw12098548209371087141:=0
def tw6433368251251145013:=0
def tw6089831917239004125:=0
def tw9421050161523699421:=0
def tw8863778378127035402:=0
def tw275556725691348008:=0
def tw8516936441857190482:=0
def tw9762152008357889776:=0
def tw2573102992277379869:=0
def tw15354854439847997317:=0
def tw12123207941698417322:=0
def tw10331805588506190730:=0
def tw14202874170104724368:=0
def tw90271273560316709:=0
def tw13163271813379752359:=0
def tw11105976459409751363:=0
def tw14705675830592677689:=0
def tw4422197657342690519:=0
def tw9263779653801098606:=0
def tw6878899380774350530:=0
def tw9377156067228396352:=0
def tw13437177323687672843:=0
def tw6608629205967443998:=0
def tw12050268405312506975:=0
def tw3349982085684351857:=0
def tw11095471476017127269:=0
def tw7339540035182393116:=0
def tw4013619325909835309:=0
def tw8844567838216302701:=0
def tw16539701284363752694:=0
def tw4180797192518925829:=0
def tw8002059866998824060:=0
def tw12775894070614969071:=0
def tw728909040665343748:=0
def tw2910491530206537439:=0
def tw12392832559984867068:=0
def tw2351525653126344235:=0
def tw1522102746010917172:=0
def tw13764472485336772198:=0
def tw15749381280836383155:=0
def tw14595748724090356552:=0
def tw5412607759982528895:=0
def tw46333792158719198:=0
def tw18296877455519775193:=0
def tw1601176158562710825:=0
def tw15669928589811569606:=0
def tw7901562195625078509:=0
def tw7666659529860593699:=0
def tw9263631497937087561:=0
def tw9385297054130124261:=0
def tw13737082966179313005:=0
def tw11690714378513627605:=0
def tw4305895577345141031:=0
def tw14557492226746932294:=0
def tw91437516377325185:=0
def tw17843990668346774601:=0
def tw1940754836371227020:=0
def tw696131366862312858:=0
def tw8935363897144994989:=0
def tw16042353011225385845:=0
def tw16120700817249151392:=0
def tw4862443822163797912:=0
def tw5252555010190584058:=0
def tw12513575404774832389:=0
def tw12282988214746335443:=0
def tw17773485583646011078:=0
def tw5964276738588781677:=0
def tw5467930050423305321:=0
def tw1380994922661875156:=0
def tw11383786366310470308:=0
def tw7174538008227213016:=0
def tw11574448289899700222:=0
def tw7413888727669878848:=0
def tw15391604170714749677:=0
def tw11388710024623394834:=0
def tw17575448590057875221:=0
def tw7566097622815408620:=0
def tw11443863911306042952:=0
def tw15894004627599872209:=0
def tw11928496526972457008:=0
def tw12673811219717310885:=0
def tw7273266015201770279:=0
def tw16748721465340522215:=0
def tw14438437553822975820:=0
def tw12091265815959544713:=0
def tw10360202652578602374:=0
def tw14980915292889689710:=0
def tw8846206220414966138:=0
def tw11122022687004077056:=0
def tw17823113102901427286:=0
def tw16424718437782991677:=0
def tw14908099316391596964:=0
def tw4251746386616118563:=0
def tw16041445846955443510:=0
def tw14302663276142138291:=0
def tw13833699585667198649:=0
def tw670004615640095155:=0
def tw9717340056736482122:=0
def tw3031047884580348506:=0
def tw18260827188856646933:=0
def tw17320822470185833170:=0
def tw16928294489216368028:=0
def tw4890136594649597477:=0
def tw5265725256055438548:=0
def tw2696539691314324208:=0
def tw10772398558394904778:=0
def tw636136629050810416:=0
def tw7126421137504192999:=0
def tw7274245380292614773:=0
def tw2809422337665875644:=0
def tw2339654749072928865:=0
def tw5468013268499995718:=0
def tw13411983378594832607:=0
def tw13541230423834129839:=0
def tw7575855901392672293:=0
def tw5502731763067826417:=0
def tw15029828680013017485:=0
def tw4883720075354296218:=0
def tw6630525940354805276:=0
def tw5386910123819070317:=0
def tw8584116108621266091:=0
def tw18286493643769595789:=0
def tw15568692898599896204:=0
def tw12477018666465791013:=0
def tw7377291839816326321:=0
def tw4408618647920630631:=0
def tw3613495891751660119:=0
def tw4316721139824238318:=0
def tw14399169380055646684:=0
def tw3847571749895169125:=0
def tw17542208741958532251:=0
def tw6289114226757594934:=0
def tw1526497947892331294:=0
def tw94668331483817398:=0
def tw7815159631402365800:=0
def tw17595524748649616143:=0
def tw5148951869792093282:=0
def tw6884672942250520136:=0
def tw9188829250371852459:=0
def tw8605249992975466281:=0
def tw3081471496238129744:=0
def tw18133320379883362951:=0
def tw2178379563858724928:=0
def tw7274016981915295934:=0
def tw6186245366433875805:=0
def tw17240934489533403328:=0
def tw9763620547405105060:=0
def tw402457110330256913:=0
def tw9325944959318918314:=0
def tw3200874715364942302:=0
def tw6106912275542345235:=0
def tw7936973635276349443:=0
def tw1862004713221450628:=0
def tw1138253145554486254:=0
def tw6384931969730042331:=0
def tw3337626089036685304:=0
def tw1511395537199113082:=0
def tw13656852140951673938:=0
def tw11269298420372030637:=0
def tw14916564454858914518:=0
def tw4321436322592013364:=0
def tw7783373537900699298:=0
def tw10094417930558620915:=0
def tw12320134078045848484:=0
def tw7846293525547142883:=0
def tw1674640449446535903:=0
def tw2206908507841027995:=0
def tw14986490506401098696:=0
def tw9879408226699606987:=0
def tw5553142329803278434:=0
def tw3985328702350546122:=0
def tw9638755889994600753:=0
def tw4846104247194964132:=0
def tw11735325120749149992:=0
def tw14126833212828688796:=0
def tw4450803216999639394:=0
def tw5812882097455785390:=0
def tw10388500314586087811:=0
def tw11681421341799536905:=0
def tw11994423119024006858:=0
def tw10583897937571780229:=0
def tw15579276148174992756:=0
def tw8655521018062966635:=0
def tw10987343258663010016:=0
def tw12381662773407330970:=0
def tw9298654629609454590:=0
def tw4623207146227904355:=0
def tw5709749771651366905:=0
def tw15406337140568684480:=0
def tw174501651190701785:=0
def tw10892912256744360:=0
def tw7939639610152510464:=0
def tw14580210206516076370:=0
def tw18432801526374871472:=0
def tw11209729696161427251:=0
def tw2648376401232962088:=0
def tw9224970073863983026:=0
def tw2050279231443928921:=0
def tw9509660265148804355:=0
def tw5964635149807842357:=0
def tw11809611093473441383:=0
def tw9035906931770482288:=0
def tw4624268160839872016:=0
def tw11966356281849231811:=0
def tw3083069845601166736:=0
def tw11326379342543922262:=0
def tw13549764004003335197:=0
def tw12950742835937481063:=0
def tw18325870076082118117:=0
def tw10161346456742564635:=0
def tw14115207908339998407:=0
def tw6717618020803856823:=0
def tw2807777528995578938:=0
def tw1120684974801097438:=0
def tw9561758551128837777:=0
def tw14140873389621867099:=0
def tw15025244011323789735:=0
def tw1358671856765818823:=0
def tw10611354217586012584:=0
def tw17828918686414951147:=0
def tw12500766667992783557:=0
def tw8376735571803248683:=0
def tw3760966042759795577:=0
def tw3584869218362988802:=0
def tw11879767798041165096:=0
def tw9102981350903168001:=0
def tw8001931758008147129:=0
def tw9737755061354817467:=0
def tw10691415130453706235:=0
def tw10219783083833451425:=0
def tw13999443254314184940:=0
def tw8716194964293813888:=0
def tw3530214192104785228:=0
def tw13763806010206045561:=0
def tw12106940451214079027:=0
def tw12166672099718076967:=0
def tw2667476747536559697:=0
def tw7017608956989552719:=0
def tw10928434728731217608:=0
def tw14414862113456666470:=0
def tw2573394131912475453:=0
def tw10197961267047072382:=0
def tw11061808388658487456:=0
def tw13823062833922564059:=0
def tw4876209346488638833:=0
def tw11742400773050622353:=0
def tw1114802560370655212:=0
def tw12821516403379614313:=0
def tw16658739963005459062:=0
def tw17118736060577198901:=0
def tw18432646802636735976:=0
def tw7639852445528628090:=0
def tw4911091012218598730:=0
def tw7179836738558367233:=0
def tw11819388474022736651:=0
def tw13410443138280179405:=0
def tw1358423161961845730:=0
def tw12237998611874611132:=0
def tw5429542534627122806:=0
def tw10634113594712917041:=0
def tw7957684913824471483:=0
def tw18373677159036151363:=0
def tw7866934624843758031:=0
def tw1145772465550795538:=0
def tw190473229775670863:=0
def tw1109432433401169148:=0
def tw12493282667341415154:=0
def tw16222967319587736484:=0
def tw11575918130844948391:=0
def tw5917994893017491845:=0
def tw7936803576610362778:=0
def tw18248168457836513869:=0
def tw13490269366121620440:=0
def tw7470826841910392441:=0
def tw5624465017142016556:=0
def tw5330842057423280521:=0
def tw5863328664234363764:=0
def tw3666886190055488796:=0
def tw14478808218660730337:=0
def tw14605816101873513036:=0
def tw3584110411278512539:=0
def tw17535450932314090881:=0
def tw16169818495500928997:=0
def tw11707495792037881265:=0
def tw14706555924848576870:=0
def tw12261312527439385178:=0
def tw15042552355523041675:=0
def tw6036598943493383090:=0
def tw10649940672468635599:=0
def tw10482702623416056493:=0
def tw10559303493917756788:=0
def tw5224769390926539253:=0
def tw9285178772292966763:=0
def tw2365278900751960436:=0
def tw13431614859674399970:=0
def tw8784562733791484965:=0
def tw2113920249726048260:=0
def tw5506067340676091628:=0
def tw12088734162062214803:=0
def tw13972316249115141978:=0
def tw2281685499433707236:=0
def tw980996181109105606:=0
def tw13215186065359535905:=0
def tw13465693301875243469:=0
def tw11296459144980052738:=0
def tw16256851338258967664:=0
def tw14445427060251770941:=0
def tw2526126491791674075:=0
def tw3883711571243969726:=0
def tw13975052968995120887:=0
def tw1936032746583620837:=0
def tw1811694177900341813:=0
def tw14087792900020731131:=0
def tw17341385850818789853:=0
def tw9796799043900095629:=0
def tw9656904717281208885:=0
def tw17416281612814886685:=0
def tw12217775457690776649:=0
def tw12437589605053876885:=0
def tw7536316755262050336:=0
def tw13497132212182509311:=0
def tw17589814674382785018:=0
def tw3019812594655326755:=0
def tw4566716849636252980:=0
def tw7948513184157789182:=0
def tw5293594952326341963:=0
def tw12598913773337954383:=0
def tw9589874330225119446:=0
def tw16671545287769117928:=0
def tw13519694416776933296:=0
def tw1757572278762840943:=0
def tw2193894356907219719:=0
def tw1327547972815722791:=0
def tw947637703821496203:=0
def tw15929336416982391803:=0
def tw2450635347245269204:=0
def tw6431547596333393895:=0
def tw7234006247728775397:=0
def tw6042990619526697001:=0
def tw1795594834760607121:=0
def tw13840089307875050201:=0
def tw18136989016691778871:=0
def tw1648679720845930542:=0
def tw13464092277391235689:=0
def tw9083207158360895838:=0
def tw6350921604241111127:=0
def tw6265000612330615837:=0
def tw12409855375523306774:=0
def tw18340779843427467181:=0
def tw16038393055364798676:=0
def tw1926138134557357902:=0
def tw16617216875442326082:=0
def tw6456102651352241638:=0
def tw14525778751348667449:=0
def tw17708395020180331888:=0
def tw14939838172715388157:=0
def tw7362064350497533151:=0
def tw1516875178627033564:=0
def tw4707299323034023656:=0
def tw17478692471709027034:=0
def tw12991408524163519870:=0
def tw10302692843253569550:=0
def tw4589477318899493886:=0
def tw7727116743250665983:=0
def tw4411119144478383528:=0
def tw6666829326011177679:=0
def tw8190652002947560565:=0
def tw7280733854619434954:=0
def tw10661396609308661297:=0
def tw6080670175406197862:=0
def tw11073073053789953270:=0
def tw11908282580089767889:=0
def tw13629093468118958552:=0
def tw16135046492033091772:=0
def tw15630259522124177637:=0
def tw14294516031838104899:=0
def tw8661506420135633090:=0
def tw7208979192718205081:=0
def tw14550286443742713071:=0
def tw2776478283169584041:=0
def tw12987320108775563060:=0
def tw33736165239757715:=0
def tw17573315037838495116:=0
def tw15676614840684231565:=0
def tw9233501145818449297:=0
def tw10647657626490532622:=0
def tw8658618157298157169:=0
def tw10789423602532176608:=0
def tw16434244394799889983:=0
def tw4105057066134083553:=0
def tw16595363057085556271:=0
def tw6650769081997839080:=0
def tw7420566680984901347:=0
def tw3599053617542081939:=0
def tw5372351230554244489:=0
def tw11265410751445723000:=0
def tw4788986593062550212:=0
def tw962654086765213113:=0
def tw33924932752338238:=0
def tw15378012735750056445:=0
def tw10741924806132147266:=0
def tw14270445957854695502:=0
def tw16949180729470061111:=0
def tw15974126505272057915:=0
def tw8996426510307668159:=0
def tw16170513059473005230:=0
def tw4928902996977528373:=0
def tw2279307332347851007:=0
def tw16595603970564787090:=0
def tw10225449264942247226:=0
def tw6956602104163941389:=0
def tw3906065259505632779:=0
def tw16807371060762784575:=0
def tw3149639448034396954:=0
def tw18410855945792153652:=0
def tw13560886148022140900:=0
def tw12189159285600428898:=0
def tw15895852487428391451:=0
def tw12854688209083036667:=0
def tw9094394733692016440:=0
def tw15689667902641135598:=0
def tw12202833851852221151:=0
def tw3605372021667977199:=0
def tw15106724898589726101:=0
def tw3539089729944944085:=0
def tw4167929217868067428:=0
def tw1640117827753877293:=0
def tw13298919124560246740:=0
def tw14092015636316410705:=0
def tw16701397727148691880:=0
def tw17721826187683433465:=0
def tw3423972422342919591:=0
def tw12642394064593151560:=0
def tw10419872686606809081:=0
def tw14751661230910950785:=0
def tw17459829087242858262:=0
def tw15086119669751273570:=0
def tw14940055059544913234:=0
def tw7721627928945862298:=0
def tw13695512189735573999:=0
def tw13933881481386873036:=0
def tw4955392354444926098:=0
def tw15490695632021319670:=0
def tw15457760766376412110:=0
def tw17711143383583744167:=0
def tw11958488783728393228:=0
def tw6589955886043033333:=0
def tw12056991142690586696:=0
def tw15688115815455390479:=0
def tw5196839388323515299:=0
def tw6872960693756424552:=0
def tw10994101101501268138:=0
def tw1346704952443564319:=0
def tw18304326842445325097:=0
def tw14645224719229387884:=0
def tw15444308594075109556:=0
def tw16748414923149747194:=0
def tw16336949760362438416:=0
def tw10833024127974960581:=0
def tw2971812073867420578:=0
def tw8517537211174380670:=0
def tw824175342184460001:=0
def tw7389788136796711243:=0
def tw4712230526677621622:=0
def tw3428671384926608479:=0
def tw16907083847012061156:=0
def tw7031781442163005242:=0
def tw12928844138249964287:=0
def tw7435277288006100195:=0
def tw17037903954191552491:=0
def tw8841804405439987249:=0
def tw15239768650368580954:=0
def tw3176485752875766501:=0
def tw13081831570912646988:=0
def tw11566502603018273319:=0
def tw8216611722205091504:=0
def tw10053179730992798452:=0
def tw16179223002319049927:=0
def tw13436779877108570950:=0
def tw3882904957804115139:=0
def tw9998761397253111558:=0
def tw18362132320730744427:=0
def tw6484977958031044875:=0
def tw4329519857379635111:=0
def tw18129822138155986736:=0
def tw3888623515998292805:=0
def tw12101917254970168302:=0
def tw1975310467046969282:=0
def tw11589786337915393246:=0
def tw8279522257290306958:=0
def tw592060576766030659:=0
def tw2880381426025108141:=0
def tw13768264749650979301:=0
def tw10853592571186005666:=0
def tw14066923646679909933:=0
def tw12365056686201591953:=0
def tw1978358163528609151:=0
def tw4404253191499653055:=0
def tw2802575024582577535:=0
def tw8940441344004431484:=0
def tw11214980359665386555:=0
def tw14583972179775575073:=0
def tw7417030248301975702:=0
def tw3794093891209857735:=0
def tw17753845594668787889:=0
def tw8933283892641926116:=0
def tw6487657579773196929:=0
def tw8917621153376930553:=0
def tw2206567084706757557:=0
def tw16050472479424437794:=0
def tw16237144332226855737:=0
def tw15107466357919662695:=0
def tw18329652477386838049:=0
def tw6854985004365219093:=0
def tw2583549266265938978:=0
def tw249672030733853554:=0
def tw9721122384442147215:=0
def tw7536129635511606123:=0
def tw4872745574218703440:=0
def tw14859074405504918645:=0
def tw9935191235848491441:=0
def tw6245226594799008829:=0
def tw14233586498196078818:=0
def tw17165237198510370992:=0
def tw4364115421617389058:=0
def tw4569846047316419402:=0
def tw18025537733784017117:=0
def tw5908002568274008954:=0
def tw1004086553702671093:=0
def tw11514968966585957342:=0
def tw8060014411088815740:=0
def tw6823028619912562350:=0
def tw1617668993932365703:=0
def tw6800249254791548152:=0
def tw8254563580661521441:=0
def tw6733466486587914515:=0
def tw17200137824922348031:=0
def tw16046170069333256323:=0
def tw4409450632301682241:=0
def tw11289034108574497655:=0
def tw17684592354781833281:=0
def tw8884523838096858741:=0
def tw7990266468596979384:=0
def tw5220438027101091749:=0
def tw11930742003556520732:=0
def tw4248547895596770838:=0
def tw18162428479669888071:=0
def tw3727478125322473165:=0
def tw14681683831685325832:=0
def tw7358114190528548045:=0
def tw5449037670474350132:=0
def tw10526172969893161920:=0
def tw12349763687489147578:=0
def tw7618834824865203416:=0
def tw3296501971993241983:=0
def tw2486478576709430757:=0
def tw15980557789182015733:=0
def tw443499269687867047:=0
def tw12613473583582296535:=0
def tw12176471300369101383:=0
def tw16796571108326389815:=0
def tw10218496513878737978:=0
def tw15014579262029593364:=0
def tw16121601586235482216:=0
def tw12989582165495897763:=0
def tw12271399452873817606:=0
def tw9840146988086774360:=0
def tw16124950911738447551:=0
def tw5700017163549288953:=0
def tw15220223859545369827:=0
def tw10978971178418258615:=0
def tw12076941735149625469:=0
def tw4727645696830391546:=0
def tw11828578210350816587:=0
def tw2760820335561596292:=0
def tw12315360076306178912:=0
def tw5761083248315430075:=0
def tw18387639944913677419:=0
def tw16200013986136884500:=0
def tw893761619798856218:=0
def tw5685310006815169578:=0
def tw15127809910905478054:=0
def tw16278934881371795702:=0
def tw14302104575407195587:=0
def tw1442626260060042374:=0
def tw3681387513656182787:=0
def tw13180079042576010175:=0
def tw11106940846775330740:=0
def tw12970996422781560637:=0
def tw9758102709374389989:=0
def tw15936870804464326732:=0
def tw14008764888506228525:=0
def tw13515229845530652682:=0
def tw833058956042831379:=0
def tw3735055721765766455:=0
def tw17848521664656131153:=0
def tw16903395360055590377:=0
def tw4660147164797405338:=0
def tw2553059568240660422:=0
def tw2118672711851451804:=0
def tw91914241373585333:=0
def tw7226699506351867665:=0
def tw12443289453880093615:=0
def tw13834994809302030301:=0
def tw15594794752009507586:=0
def tw6284198540312806654:=0
def tw8085590032819370797:=0
def tw15959819241183422627:=0
def tw13307088425036328728:=0
def tw5662477541449339170:=0
def tw11837841450492962529:=0
def tw10232852925391850628:=0
def tw12222382435314962576:=0
def tw10512534511073361225:=0
def tw16273851106661054365:=0
def tw15585455194481050833:=0
def tw13426457161078117892:=0
def tw7641714671174816795:=0
def tw9262432079386845381:=0
def tw17219097728857862010:=0
def tw10514040833204963760:=0
def tw17111827250456923333:=0
def tw3927121696558100262:=0
def tw14253938388831471335:=0
def tw15893931604333894927:=0
def tw3526019576467215739:=0
def tw2965941347707536552:=0
def tw8375786201862108730:=0
def tw5510158520542606175:=0
def tw13401343127880403267:=0
def tw17635323835936938977:=0
def tw4357425115283359741:=0
def tw14346129333090099925:=0
def tw5164044359932794143:=0
def tw16496902232305561815:=0
def tw13649388978144551299:=0
def tw4791912331572873801:=0
def tw13904822258366165513:=0
def tw11491051193469371922:=0
def tw64987508141424868:=0
def tw14828190032332465086:=0
def tw2443297654296409719:=0
def tw5509814730758742002:=0
def tw8306368225191899277:=0
def tw7438954623811061207:=0
def tw1968108857034096461:=0
def tw17009418593235138811:=0
def tw6891235249928153723:=0
def tw18304884388725686523:=0
def tw5993442278328345390:=0
def tw14339374145641475639:=0
def tw12666609624958891618:=0
def tw17820678988817801472:=0
def tw6621975037854864546:=0
def tw7151494266483781800:=0
def tw11144006118332064056:=0
def tw388742617177786388:=0
def tw10787265345477527577:=0
def tw13681617531219063684:=0
def tw13899657068642071169:=0
def tw9787051969375188184:=0
def tw11067045819946441660:=0
def tw2098902026522609277:=0
def tw13383506339058890867:=0
def tw4050052493274093472:=0
def tw4694511597841438500:=0
def tw10320163816322564458:=0
def tw7657434088924481115:=0
def tw7465371675327787866:=0
def tw10482939614372263427:=0
def tw391714052825331134:=0
def tw6499907851089629678:=0
def tw3161155563881865548:=0
def tw15023519772863650756:=0
def tw13838830090182653233:=0
def tw6245120753478768630:=0
def tw8816835827174046987:=0
def tw7550276135138632271:=0
def tw5125332643492646871:=0
def tw6844218019375553892:=0
def tw8060286346401582493:=0
def tw9997271389138631078:=0
def tw7918609167036136937:=0
def tw530286339382161188:=0
def tw12386859031806961807:=0
def tw8277471676229447330:=0
def tw17726059028393574321:=0
def tw3623020164059862918:=0
def tw9323077732426307841:=0
def tw4875177994993565992:=0
def tw14612337913875295669:=0
def tw14623110174905065469:=0
def tw13761474265939422143:=0
def tw16560516043888183639:=0
def tw1470684359615148443:=0
def tw12543972408753564771:=0
def tw9232023468536415344:=0
def tw7729322525122973707:=0
def tw2054431008257767530:=0
def tw13735812427255337987:=0
def tw6808283391562641312:=0
def tw17794020763559158390:=0
def tw3359635043935036243:=0
def tw10732167090607169462:=0
def tw15451812641980811037:=0
def tw7484735693716804464:=0
def tw50800909245142609:=0
def tw7148323960665352169:=0
def tw14386821363174521348:=0
def tw12778147887286731916:=0
def tw2510547800488527383:=0
def tw14367315529758436599:=0
def tw12772992578835075828:=0
def tw2370056017201555829:=0
def tw5796688244223528107:=0
def tw4918833905657127847:=0
def tw8139243300908834861:=0
def tw11349203102113095053:=0
def tw13409123642536408773:=0
def tw13021966938321251625:=0
def tw8738923999017593824:=0
def tw799853098170219447:=0
def tw7064922247449883263:=0
def tw8325348799274530534:=0
def tw10906251661837086109:=0
def tw1193161727164040422:=0
def tw8998512673340186964:=0
def tw4021934360140916605:=0
def tw696785568164247636:=0
def tw13883505788471342866:=0
def tw17197946255194670286:=0
def tw3367407966043540729:=0
def tw131927607857768729:=0
def tw16985727103724620919:=0
def tw14739028092435768659:=0
def tw15402705259858713582:=0
def tw17371793629745722318:=0
def tw16157343395393626248:=0
def tw13950800208709297182:=0
def tw9215665916836775150:=0
def tw16435133567151018489:=0
def tw13537568710086784199:=0
def tw2462894644653952630:=0
def tw2044256074829349232:=0
def tw18023286802939334132:=0
def tw4616021039155482579:=0
def tw16817777021868696690:=0
def tw14375691242909988240:=0
def tw5975043221152314298:=0
def tw6330989815524116601:=0
def tw10177652047536725134:=0
def tw4029298935507837115:=0
def tw2872359324332286834:=0
def tw2517846047738371972:=0
def tw9676746081839330268:=0
def tw2277931338554306947:=0
def tw10255913315733434430:=0
def tw13169623391239705145:=0
def tw17618342133419476909:=0
def tw18399974399862478302:=0
def tw3150978155640262509:=0
def tw971465433325272336:=0
def tw11482592389106505537:=0
def tw9322593669503643951:=0
def tw11672851487585068014:=0
def tw11288968834193276327:=0
def tw17985816975976532280:=0
def tw5347250688101753717:=0
def tw3942419152786623703:=0
def tw7902645182078265216:=0
def tw4842993485516010480:=0
def tw203772724071070295:=0
def tw149568548974318985:=0
def tw3658548150184363327:=0
def tw16821490002087289612:=0
def tw13794495779899614132:=0
def tw16099854987399920227:=0
def tw8691024463383327857:=0
def tw7977543541298162795:=0
def tw15255116735453957165:=0
def tw3375973474741417329:=0
def tw18142332939123354099:=0
def tw10330377716174984642:=0
def tw17132762704370496751:=0
def tw14410701567900441388:=0
def tw6297917659891521653:=0
def tw6670414633963688115:=0
def tw8814856327031660269:=0
def tw7523926450442603266:=0
def tw12836772183752805030:=0
def tw10062581204172873206:=0
def tw13002766602605694985:=0
def tw10243687285429393565:=0
def tw14817004564005794044:=0
def tw11644252281277285394:=0
def tw7392618682288361919:=0
def tw972903690369789952:=0
def tw6928465482713011708:=0
def tw12425397896975369037:=0
def tw10531831392924188249:=0
def tw2713125625577854909:=0
def tw6008890616975946975:=0
def tw7308239667207543826:=0
def tw16666284109215790270:=0
def tw13735464471034712403:=0
def tw9032894842128696384:=0
def tw12407107094337159386:=0
def tw2585495525057708450:=0
def tw16745543835865892986:=0
def tw12016035110232337044:=0
def tw12771396511217800203:=0
def tw17322269016909362895:=0
def tw15565557261416489686:=0
def tw13052521019526311326:=0
def tw818620201803933437:=0
def tw8599353298035601260:=0
def tw5662344159597411744:=0
def tw7819129771243586108:=0
def tw13723567891737932751:=0
def tw15681876459742663403:=0
def tw4593159136987646954:=0
def tw12781591348018092513:=0
def tw9686487070917692216:=0
def tw3028903131618099583:=0
def tw13080388707481267952:=0
def tw2940132641808206189:=0
def tw8007583350373992061:=0
def tw5469795836191387661:=0
def tw15034107721073260322:=0
def tw1929661674519237115:=0
def tw2704061538005962080:=0
def tw9902849939673349682:=0
def tw9868360443248058235:=0
def tw349753751634957484:=0
def tw15629734412863043241:=0
def tw10119380662563758530:=0
def tw6167786102145695160:=0
def tw16929424571030654976:=0
def tw4055695951717698312:=0
def tw7097531107077905938:=0
def tw11714961801427514731:=0
def tw18043311918812289345:=0
def tw1767990938842411247:=0
def tw3439762160817895381:=0
def tw8550582182657507840:=0
def tw14423014912887816421:=0
def tw3322097491789309312:=0
def tw16992060235523383564:=0
def tw18210673692708583846:=0
def tw4347572699653477241:=0
def tw6898787762018294842:=0
def tw1010440465007550517:=0
def tw4679126004012972422:=0
def tw6133692819291296489:=0
def tw909715050895284800:=0
def tw3429318144457490483:=0
def tw16190091598006386594:=0
def tw18207961960085209326:=0
def tw1865576317172766283:=0
def tw18280861725029714656:=0
def tw14736451745156862225:=0
def tw3902718662824099778:=0
def tw9219260350791647945:=0
def tw7718686541806956105:=0
def tw1872744687385199830:=0
def tw4313030301492111434:=0
def tw881892684251700679:=0
def tw357198764962110797:=0
def tw3783637876757592051:=0
def tw2056748116445072234:=0
def tw9898764550769315566:=0
def tw8203326138480381974:=0
def tw14036977242624421334:=0
def tw13782441079235954347:=0
def tw12435367002537987454:=0
def tw8330572149615597656:=0
def tw854694420728783737:=0
def tw10650163139430017312:=0
def tw15369723591748817732:=0
def tw4715678004783063518:=0
def tw11925554738912440287:=0
def tw8106025712763238407:=0
def tw16723380605113155957:=0
def tw5935119099228900953:=0
def tw7323784865765332018:=0
def tw3027105972874483462:=0
def tw18187755805155267503:=0
def tw2237741784126207131:=0
def tw12583546348698125900:=0
def tw3553356926929323325:=0
def tw14345781770762957908:=0
def tw2917717542367274054:=0
def tw17643773359039178683:=0
def tw10391952442298415050:=0
def tw15591141405580419648:=0
def tw14398720824125871895:=0
def tw7970300498358183795:=0
def tw4955160041561598292:=0
def tw2017153085824695121:=0
def tw15240751782013278363:=0
def tw18115114959078174894:=0
def tw11954707662163351325:=0
def tw11429398796454999819:=0
def tw6520587550009228742:=0
def tw3709788235833961628:=0
def tw12072062242304702474:=0
end PySem.W.Fast
open PySem PySem.W PyProof.Rows
set_option maxHeartbeats 0 in
theorem PySem.Challenge.cw_outweave_k32_ways_walked_holds : PySem.Challenge.rw_outweave_k32_ways_walked.Holds := by
  w_on; o_law; k_head; (case hw => w_witness2)
  k_fill
  refine L2.walk_ofB (l := PySem.Challenge.rw_outweave_k32_ways_walked) (n := 63) (k := 4) (x := "_law_script") (CX := fun _ => L2.CX0) (sp := fun w => LI.spLaw _) rfl (by decide) rfl ⟨rfl, by decide, by decide⟩ (fun w h Y => PySem.W.kIn_of Y) ?F (fun _ _ a ns hl hb _ hS => ⟨a, ns, rfl, hS, hl, hb, fun _ => rfl⟩) (fun _ _ _ _ _ h => h)
  case F =>
    intro w mg fa h KX G hmg
    refine' LW.all_mk LW.law_true KX G hmg ?gc_Listed ?a1_Listed_init ?a5_Listed_init ?a2_Listed_init ?a3_Listed_init ?a4_Listed_init ?a1_Listed_first_node ?a5_Listed_first_node ?a2_Listed_first_node ?a3_Listed_first_node ?a4_Listed_first_node ?a1_Listed_last_at ?a5_Listed_last_at ?a2_Listed_last_at ?a3_Listed_last_at ?a4_Listed_last_at ?a1_Listed_nodes_at ?a5_Listed_nodes_at ?a2_Listed_nodes_at ?a3_Listed_nodes_at ?a4_Listed_nodes_at ?a1_Listed_moves_from ?a5_Listed_moves_from ?a2_Listed_moves_from ?a3_Listed_moves_from ?a4_Listed_moves_from ?a1_Listed_is_end ?a5_Listed_is_end ?a2_Listed_is_end ?a3_Listed_is_end ?a4_Listed_is_end ?a1_walked ?a2_walked ?a3_walked ?a4_walked ?a1_lw_cell_at ?a2_lw_cell_at ?a3_lw_cell_at ?a4_lw_cell_at ?a1_lw_mix ?a2_lw_mix ?a3_lw_mix ?a4_lw_mix ?a1_lw_whole ?a2_lw_whole ?a3_lw_whole ?a4_lw_whole ?a1_lw_sizes ?a2_lw_sizes ?a3_lw_sizes ?a4_lw_sizes ?a1_lw_nodes ?a2_lw_nodes ?a3_lw_nodes ?a4_lw_nodes ?a1_lw_moves ?a2_lw_moves ?a3_lw_moves ?a4_lw_moves ?a1_lw_ends ?a2_lw_ends ?a3_lw_ends ?a4_lw_ends ?a1_lw_walked ?a2_lw_walked ?a3_lw_walked ?a4_lw_walked ?a1_lw_row ?a2_lw_row ?a3_lw_row ?a4_lw_row ?a1_lw_spoilt ?a2_lw_spoilt ?a3_lw_spoilt ?a4_lw_spoilt ?a1_lw_told ?a2_lw_told ?a3_lw_told ?a4_lw_told ?a1_lw_truth ?a2_lw_truth ?a3_lw_truth ?a4_lw_truth ?a1_lw_methods ?a2_lw_methods ?a3_lw_methods ?a4_lw_methods ?a1_law ?a2_law ?a3_law ?a4_law ?z_bool ?z_int ?z_isinstance ?z_len ?z_list ?z_range ?pg_Listed ?hd_Listed ?po_Listed ?sa_Listed ?na_Listed_sizes ?na_Listed_steps ?na_Listed_shut ?mi_Listed ?kc_Listed
    (case gc_Listed => k_is); (case a1_Listed_init => k_is); (case a5_Listed_init => k_is); (case a2_Listed_init => k_is); (case a3_Listed_init => k_is); (case a4_Listed_init => k_is); (case a1_Listed_first_node => k_is); (case a5_Listed_first_node => k_is); (case a2_Listed_first_node => k_is); (case a3_Listed_first_node => k_is); (case a4_Listed_first_node => k_is); (case a1_Listed_last_at => k_is); (case a5_Listed_last_at => k_is); (case a2_Listed_last_at => k_is); (case a3_Listed_last_at => k_is); (case a4_Listed_last_at => k_is); (case a1_Listed_nodes_at => k_is); (case a5_Listed_nodes_at => k_is); (case a2_Listed_nodes_at => k_is); (case a3_Listed_nodes_at => k_is); (case a4_Listed_nodes_at => k_is); (case a1_Listed_moves_from => k_is); (case a5_Listed_moves_from => k_is); (case a2_Listed_moves_from => k_is); (case a3_Listed_moves_from => k_is); (case a4_Listed_moves_from => k_is); (case a1_Listed_is_end => k_is); (case a5_Listed_is_end => k_is); (case a2_Listed_is_end => k_is); (case a3_Listed_is_end => k_is); (case a4_Listed_is_end => k_is); (case a1_walked => k_is); (case a2_walked => k_is); (case a3_walked => k_is); (case a4_walked => k_is); (case a1_lw_cell_at => k_is); (case a2_lw_cell_at => k_is); (case a3_lw_cell_at => k_is); (case a4_lw_cell_at => k_is); (case a1_lw_mix => k_is); (case a2_lw_mix => k_is); (case a3_lw_mix => k_is); (case a4_lw_mix => k_is); (case a1_lw_whole => k_is); (case a2_lw_whole => k_is); (case a3_lw_whole => k_is); (case a4_lw_whole => k_is); (case a1_lw_sizes => k_is); (case a2_lw_sizes => k_is); (case a3_lw_sizes => k_is); (case a4_lw_sizes => k_is); (case a1_lw_nodes => k_is); (case a2_lw_nodes => k_is); (case a3_lw_nodes => k_is); (case a4_lw_nodes => k_is); (case a1_lw_moves => k_is); (case a2_lw_moves => k_is); (case a3_lw_moves => k_is); (case a4_lw_moves => k_is); (case a1_lw_ends => k_is); (case a2_lw_ends => k_is); (case a3_lw_ends => k_is); (case a4_lw_ends => k_is); (case a1_lw_walked => k_is); (case a2_lw_walked => k_is); (case a3_lw_walked => k_is); (case a4_lw_walked => k_is); (case a1_lw_row => k_is); (case a2_lw_row => k_is); (case a3_lw_row => k_is); (case a4_lw_row => k_is); (case a1_lw_spoilt => k_is); (case a2_lw_spoilt => k_is); (case a3_lw_spoilt => k_is); (case a4_lw_spoilt => k_is); (case a1_lw_told => k_is); (case a2_lw_told => k_is); (case a3_lw_told => k_is); (case a4_lw_told => k_is); (case a1_lw_truth => k_is); (case a2_lw_truth => k_is); (case a3_lw_truth => k_is); (case a4_lw_truth => k_is); (case a1_lw_methods => k_is); (case a2_lw_methods => k_is); (case a3_lw_methods => k_is); (case a4_lw_methods => k_is); (case a1_law => k_is); (case a2_law => k_is); (case a3_law => k_is); (case a4_law => k_is); (case z_bool => k_is); (case z_int => k_is); (case z_isinstance => k_is); (case z_len => k_is); (case z_list => k_is); (case z_range => k_is); (case pg_Listed => k_is); (case hd_Listed => k_is); (case po_Listed => k_is); (case sa_Listed => k_is); (case na_Listed_sizes => k_is); (case na_Listed_steps => k_is); (case na_Listed_shut => k_is); (case mi_Listed => k_is); (case kc_Listed => k_is)

