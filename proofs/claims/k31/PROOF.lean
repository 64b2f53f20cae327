import PyProof.Rows.All
import Wide.All
import OpenK.AllK
import Wide.FinOn
import HandS.ForMost
import HandS.ForExc
import HandS.Wide
import HandS.EndBits
import HandS.Flow
import HandS.Style
import HandS.Zip
import HandS.Deep
import HandS.Codes
import HandS.IsInst
import HandS.FStr
import HandS.Conv
import KE.KeyNested
import HandS.TupAny
import HandS.Walk
import HandS.Dict
import PyProof.Draws
import HandS.More
import HandS.NoneIn
import KE.DatumOrd
import PyProof.Rows.RowBridgeK
import HandS.TupLen
import KE.SortData
import PyProof.Rows.StrLawsPart
import PyProof.StrLawsIn
import HandS.DictEq
import KE.KDictKeyed
import HandS.SetFor
import HandS.Iter
import KE.DataMinKey
import HandS.StrMore
import HandS.Replace
import HandS.ReplaceList
import PyProof.ToksMono
import HandS.Defaults
import HandS.Exc
import PyProof.StrLawsFirst
import KE.KEqDict
import HandS.Rev
import PySem.Challenge.RW_outweave_k31_prices_and_least_ways
set_option Elab.async false
set_option synthInstance.maxSize 10000
set_option linter.all false
set_option maxRecDepth 100000
set_option exponentiation.threshold 20000
set_option maxHeartbeats 4000000
namespace LI
open PySem L2

inductive D where
  | gone
  | non
  | bl (b : Bool)
  | int (i : Int)
  | str (s : List Nat)
  | scr (ns : List Int)
  | kst (ss : List (List Nat))
  | key (ks : List Key)
  | tup (ds : List D)
  | lst (o : Bool) (ds : List D)
  | dK (o : Bool) (ks : List Key) (ds : List D)
  | dT (o : Bool) (ks : List (List Key)) (ds : List D)
  | dN (o : Bool) (ks : List NestedKey) (ds : List D)
  | obj (o : Bool) (c : Nat) (fs : List Str) (ds : List D)

abbrev FP := Addr → Nat
def one (a : Addr) : FP := fun b => if b = a then 1 else 0
def fz : FP := fun _ => 0
def fa (S T : FP) : FP := fun b => S b + T b
def Ex (H H' : Hp) : Prop := ∀ a o, H a = some o → H' a = some o
theorem Ex.refl (H : Hp) : Ex H H := fun _ _ h => h
theorem Ex.trans {H H1 H2 : Hp} (a : Ex H H1) (b : Ex H1 H2) : Ex H H2 := fun x o h => b x o (a x o h)

structure LC where
  K : PySem.W.Frag
  cl : Nat → Addr
  w : World

mutual
/-- the value is the key -/
def NkRep (K : PySem.W.Frag) (P : Hp) : NestedKey → V → Prop
  | .none, v => v = .non
  | .num i, v => v = .int i
  | .text x, v => v = .str x
  | .tup ks, v => ∃ a xs, v = .ref a ∧ SqT K P a xs ∧ NkAll K P ks xs
def NkAll (K : PySem.W.Frag) (P : Hp) : List NestedKey → List V → Prop
  | [], xs => xs = []
  | k :: ks, xs => ∃ y ys, xs = y :: ys ∧ NkRep K P k y ∧ NkAll K P ks ys
end
structure NkOk (K : PySem.W.Frag) (P : Hp) (a : Addr) (ks : List NestedKey) (bs : List Addr) : Prop where
  ne : (a == sysModules) = false
  len : ks.length = bs.length
  le : ks.length ≤ sizeLine
  nd : ks.Nodup
  at_ : ∀ p ∈ ks.zip bs, NkRep K P p.1 (.ref p.2) ∧ p.1.depth ≤ 8
abbrev DnE (w : World) : List (NestedKey × Addr × V) → List DictEntry → Prop := Paired fun p e => e.hash = p.1.hash w ∧ e.key = .ref p.2.1 ∧ RelV p.2.2 e.val
def DnObj (w : World) (l : List (NestedKey × Addr × V)) (o : Obj) : Prop := o.ExactDict ∧ ∃ es ep, o.data = .dict es ep ∧ DnE w l es.toList
def exO (a : Addr) (o : Obj) : HO := .ext fun h => h.get? a = some o
def DnAt (w : World) (H : Hp) (a : Addr) (l : List (NestedKey × Addr × V)) : Prop := ∃ o, H a = some (exO a o) ∧ DnObj w l o
theorem DnAt.of {w : World} {H H' : Hp} {a : Addr} {l : List (NestedKey × Addr × V)} (h : DnAt w H a l) (k : ∀ o, H a = some o → H' a = some o) : DnAt w H' a l := let ⟨o, h1, h2⟩ := h; ⟨o, k _ h1, h2⟩

mutual
def Rep (c : LC) (P H : Hp) : D → V → FP → Prop
  | .gone, _, S => S = fz
  | .non, v, S => v = .non ∧ S = fz
  | .bl b, v, S => v = .bl b ∧ S = fz
  | .int i, v, S => v = .int i ∧ S = fz
  | .str s, v, S => v = .str ⟨s.toArray⟩ ∧ S = fz
  | .scr ns, v, S => ∃ a, v = .ref a ∧ SqL c.K P a (ns.map V.int) ∧ S = fz
  | .kst ss, v, S => ∃ a, v = .ref a ∧ SqT c.K P a (ss.map fun s => V.str ⟨s.toArray⟩) ∧ S = fz
  | .key ks, v, S => ∃ a, v = .ref a ∧ P a = some (.tup (ks.map kV)) ∧ S = fz
  | .tup ds, v, S => ∃ a xs, v = .ref a ∧ SqT c.K P a xs ∧ RepL c P H ds xs S
  | .lst true ds, v, S => ∃ a xs T, v = .ref a ∧ H a = some (.lst xs) ∧ RepL c P H ds xs T ∧ S = fa (one a) T
  | .lst false ds, v, S => ∃ a xs, v = .ref a ∧ P a = some (.lst xs) ∧ RepL c P H ds xs S
  | .dK true ks ds, v, S => ∃ a xs T, v = .ref a ∧ H a = some (.dK (ks.zip xs)) ∧ ks.length = xs.length ∧ RepL c P H ds xs T ∧ S = fa (one a) T
  | .dK false ks ds, v, S => ∃ a xs, v = .ref a ∧ P a = some (.dK (ks.zip xs)) ∧ ks.length = xs.length ∧ RepL c P H ds xs S
  | .dT true ks ds, v, S => ∃ a xs T, v = .ref a ∧ H a = some (.dT (ks.zip xs)) ∧ ks.length = xs.length ∧ RepL c P H ds xs T ∧ S = fa (one a) T
  | .dT false ks ds, v, S => ∃ a xs, v = .ref a ∧ P a = some (.dT (ks.zip xs)) ∧ ks.length = xs.length ∧ RepL c P H ds xs S
  | .dN true ks ds, v, S => ∃ a bs xs T, v = .ref a ∧ DnAt c.w H a (ks.zip (bs.zip xs)) ∧ NkOk c.K P a ks bs ∧ ks.length = xs.length ∧ RepL c P H ds xs T ∧ S = fa (one a) T
  | .dN false ks ds, v, S => ∃ a bs xs, v = .ref a ∧ DnAt c.w P a (ks.zip (bs.zip xs)) ∧ NkOk c.K P a ks bs ∧ ks.length = xs.length ∧ RepL c P H ds xs S
  | .obj true k fs ds, v, S => ∃ a dx xs T, v = .ref a ∧ H a = some (.ins (c.cl k) dx (fs.zip xs)) ∧ fs.length = xs.length ∧ RepL c P H ds xs T ∧ S = fa (one a) T
  | .obj false k fs ds, v, S => ∃ a dx xs, v = .ref a ∧ P a = some (.ins (c.cl k) dx (fs.zip xs)) ∧ fs.length = xs.length ∧ RepL c P H ds xs S
def RepL (c : LC) (P H : Hp) : List D → List V → FP → Prop
  | [], xs, S => xs = [] ∧ S = fz
  | d :: ds, xs, S => ∃ y ys T U, xs = y :: ys ∧ Rep c P H d y T ∧ RepL c P H ds ys U ∧ S = fa T U
end
mutual
/-- nothing in it is owned -/
def frz : D → Bool
  | .tup ds => frzL ds
  | .lst o ds => !o && frzL ds
  | .dK o _ ds => !o && frzL ds
  | .dT o _ ds => !o && frzL ds
  | .dN o _ ds => !o && frzL ds
  | .obj o _ _ ds => !o && frzL ds
  | _ => true
def frzL : List D → Bool
  | [] => true
  | d :: ds => frz d && frzL ds
end
mutual
/-- the same, owned by none -/
def ice : D → D
  | .tup ds => .tup (iceL ds)
  | .lst _ ds => .lst false (iceL ds)
  | .dK _ ks ds => .dK false ks (iceL ds)
  | .dT _ ks ds => .dT false ks (iceL ds)
  | .dN _ ks ds => .dN false ks (iceL ds)
  | .obj _ k fs ds => .obj false k fs (iceL ds)
  | d => d
def iceL : List D → List D
  | [] => []
  | d :: ds => ice d :: iceL ds
end
mutual
/-- no list, dict or instance in it that is frozen -/
def noIce : D → Bool
  | .scr _ => false
  | .tup ds => noIceL ds
  | .lst o ds => o && noIceL ds
  | .dK o _ ds => o && noIceL ds
  | .dT o _ ds => o && noIceL ds
  | .dN o _ ds => o && noIceL ds
  | .obj o _ _ ds => o && noIceL ds
  | _ => true
def noIceL : List D → Bool
  | [] => true
  | d :: ds => noIce d && noIceL ds
end
theorem fa_fz (S : FP) : fa S fz = S := by funext b; simp [fa, fz]
theorem fz_fa (S : FP) : fa fz S = S := by funext b; simp [fa, fz]

theorem sqt_mono {K : PySem.W.Frag} {H H' : Hp} {a : Addr} {xs : List V} (e : Ex H H') (h : SqT K H a xs) : SqT K H' a xs := by
  rcases h with (h | ⟨o, h⟩) | h
  · exact .inl (.inl (e _ _ h))
  · exact .inl (.inr ⟨o, e _ _ h⟩)
  · exact .inr h
theorem sql_mono {K : PySem.W.Frag} {H H' : Hp} {a : Addr} {xs : List V} (e : Ex H H') (h : SqL K H a xs) : SqL K H' a xs := by
  rcases h with (h | ⟨o, h⟩) | h
  · exact .inl (.inl (e _ _ h))
  · exact .inl (.inr ⟨o, e _ _ h⟩)
  · exact .inr h

mutual
theorem NkRep.mono {K : PySem.W.Frag} {P P' : Hp} (e : ∀ (a : Addr) (xs : List V), SqT K P a xs → SqT K P' a xs) : ∀ (k : NestedKey) (v : V), NkRep K P k v → NkRep K P' k v
  | .none, v, h => h
  | .num _, v, h => h
  | .text _, v, h => h
  | .tup ks, v, ⟨a, xs, h1, h2, h3⟩ => ⟨a, xs, h1, e a xs h2, NkAll.mono e ks xs h3⟩
theorem NkAll.mono {K : PySem.W.Frag} {P P' : Hp} (e : ∀ (a : Addr) (xs : List V), SqT K P a xs → SqT K P' a xs) : ∀ (ks : List NestedKey) (vs : List V), NkAll K P ks vs → NkAll K P' ks vs
  | [], vs, h => h
  | k :: ks, vs, ⟨y, ys, h1, h2, h3⟩ => ⟨y, ys, h1, NkRep.mono e k y h2, NkAll.mono e ks ys h3⟩
end
theorem NkOk.mono {K : PySem.W.Frag} {P P' : Hp} {a : Addr} {ks : List NestedKey} {bs : List Addr} (h : NkOk K P a ks bs) (e : ∀ (a : Addr) (xs : List V), SqT K P a xs → SqT K P' a xs) : NkOk K P' a ks bs :=
  ⟨h.ne, h.len, h.le, h.nd, fun p hp => ⟨NkRep.mono e _ _ (h.at_ p hp).1, (h.at_ p hp).2⟩⟩
mutual
theorem Rep.mono {c : LC} {P H P' H' : Hp} (eP : Ex P P') : ∀ (d : D) (v : V) (S : FP), (∀ a o, 0 < S a → H a = some o → H' a = some o) → Rep c P H d v S → Rep c P' H' d v S
  | .gone, v, S, _, h => h
  | .non, v, S, _, h => h
  | .bl _, v, S, _, h => h
  | .int _, v, S, _, h => h
  | .str _, v, S, _, h => h
  | .scr ns, v, S, k, ⟨a, e, q, z⟩ => ⟨a, e, sql_mono eP q, z⟩
  | .kst ss, v, S, k, ⟨a, e, q, z⟩ => ⟨a, e, sqt_mono eP q, z⟩
  | .key ks, v, S, k, ⟨a, e, q, z⟩ => ⟨a, e, eP _ _ q, z⟩
  | .tup ds, v, S, k, ⟨a, xs, e, q, r⟩ => ⟨a, xs, e, sqt_mono eP q, RepL.mono eP ds xs S k r⟩
  | .lst true ds, v, S, k, ⟨a, xs, T, e, q, r, f⟩ => ⟨a, xs, T, e, k _ _ (by rw [f]; simp [fa, one]; omega) q, RepL.mono eP ds xs T (fun b o hb => k b o (by rw [f]; simp only [fa]; omega)) r, f⟩
  | .lst false ds, v, S, k, ⟨a, xs, e, q, r⟩ => ⟨a, xs, e, eP _ _ q, RepL.mono eP ds xs S k r⟩
  | .dK true ks ds, v, S, k, ⟨a, xs, T, e, q, n, r, f⟩ => ⟨a, xs, T, e, k _ _ (by rw [f]; simp [fa, one]; omega) q, n, RepL.mono eP ds xs T (fun b o hb => k b o (by rw [f]; simp only [fa]; omega)) r, f⟩
  | .dK false ks ds, v, S, k, ⟨a, xs, e, q, n, r⟩ => ⟨a, xs, e, eP _ _ q, n, RepL.mono eP ds xs S k r⟩
  | .dT true ks ds, v, S, k, ⟨a, xs, T, e, q, n, r, f⟩ => ⟨a, xs, T, e, k _ _ (by rw [f]; simp [fa, one]; omega) q, n, RepL.mono eP ds xs T (fun b o hb => k b o (by rw [f]; simp only [fa]; omega)) r, f⟩
  | .dT false ks ds, v, S, k, ⟨a, xs, e, q, n, r⟩ => ⟨a, xs, e, eP _ _ q, n, RepL.mono eP ds xs S k r⟩
  | .dN true ks ds, v, S, k, ⟨a, bs, xs, T, e, q, z, n, r, f⟩ => ⟨a, bs, xs, T, e, q.of fun o h => k a o (by rw [f]; simp [fa, one]; omega) h, z.mono fun _ _ => sqt_mono eP, n, RepL.mono eP ds xs T (fun b o hb => k b o (by rw [f]; simp only [fa]; omega)) r, f⟩
  | .dN false ks ds, v, S, k, ⟨a, bs, xs, e, q, z, n, r⟩ => ⟨a, bs, xs, e, q.of fun o h => eP a o h, z.mono fun _ _ => sqt_mono eP, n, RepL.mono eP ds xs S k r⟩
  | .obj true _ fs ds, v, S, k, ⟨a, dx, xs, T, e, q, n, r, f⟩ => ⟨a, dx, xs, T, e, k _ _ (by rw [f]; simp [fa, one]; omega) q, n, RepL.mono eP ds xs T (fun b o hb => k b o (by rw [f]; simp only [fa]; omega)) r, f⟩
  | .obj false _ fs ds, v, S, k, ⟨a, dx, xs, e, q, n, r⟩ => ⟨a, dx, xs, e, eP _ _ q, n, RepL.mono eP ds xs S k r⟩
theorem RepL.mono {c : LC} {P H P' H' : Hp} (eP : Ex P P') : ∀ (ds : List D) (xs : List V) (S : FP), (∀ a o, 0 < S a → H a = some o → H' a = some o) → RepL c P H ds xs S → RepL c P' H' ds xs S
  | [], xs, S, _, h => h
  | d :: ds, xs, S, k, ⟨y, ys, T, U, e, r, rs, f⟩ => ⟨y, ys, T, U, e, Rep.mono eP d y T (fun b o hb => k b o (by rw [f]; simp only [fa]; omega)) r, RepL.mono eP ds ys U (fun b o hb => k b o (by rw [f]; simp only [fa]; omega)) rs, f⟩
end
mutual
theorem Rep.frz0 {c : LC} {P H : Hp} : ∀ (d : D) (v : V) (S : FP), frz d = true → Rep c P H d v S → S = fz
  | .gone, v, S, _, h => h
  | .non, v, S, _, h => h.2
  | .bl _, v, S, _, h => h.2
  | .int _, v, S, _, h => h.2
  | .str _, v, S, _, h => h.2
  | .scr ns, v, S, k, ⟨a, e, q, z⟩ => z
  | .kst ss, v, S, k, ⟨a, e, q, z⟩ => z
  | .key ks, v, S, k, ⟨a, e, q, z⟩ => z
  | .tup ds, v, S, k, ⟨a, xs, e, q, r⟩ => RepL.frz0 ds xs S k r
  | .lst true ds, v, S, k, _ => by simp [frz] at k
  | .lst false ds, v, S, k, ⟨a, xs, e, q, r⟩ => RepL.frz0 ds xs S (by simpa [frz] using k) r
  | .dK true ks ds, v, S, k, _ => by simp [frz] at k
  | .dK false ks ds, v, S, k, ⟨a, xs, e, q, n, r⟩ => RepL.frz0 ds xs S (by simpa [frz] using k) r
  | .dT true ks ds, v, S, k, _ => by simp [frz] at k
  | .dT false ks ds, v, S, k, ⟨a, xs, e, q, n, r⟩ => RepL.frz0 ds xs S (by simpa [frz] using k) r
  | .dN true ks ds, v, S, k, _ => by simp [frz] at k
  | .dN false ks ds, v, S, k, ⟨a, bs, xs, e, q, z, n, r⟩ => RepL.frz0 ds xs S (by simpa [frz] using k) r
  | .obj true _ fs ds, v, S, k, _ => by simp [frz] at k
  | .obj false _ fs ds, v, S, k, ⟨a, dx, xs, e, q, n, r⟩ => RepL.frz0 ds xs S (by simpa [frz] using k) r
theorem RepL.frz0 {c : LC} {P H : Hp} : ∀ (ds : List D) (xs : List V) (S : FP), frzL ds = true → RepL c P H ds xs S → S = fz
  | [], xs, S, _, h => h.2
  | d :: ds, xs, S, k, ⟨y, ys, T, U, e, r, rs, f⟩ => by
    simp only [frzL, Bool.and_eq_true] at k
    rw [f, Rep.frz0 d y T k.1 r, RepL.frz0 ds ys U k.2 rs, fa_fz]
end
mutual
theorem Rep.ice {c : LC} {P H P' H' : Hp} (eP : Ex P P') : ∀ (d : D) (v : V) (S : FP), (∀ a o, 0 < S a → H a = some o → P' a = some o) → Rep c P H d v S → Rep c P' H' (ice d) v fz
  | .gone, v, S, _, h => rfl
  | .non, v, S, _, h => ⟨h.1, rfl⟩
  | .bl _, v, S, _, h => ⟨h.1, rfl⟩
  | .int _, v, S, _, h => ⟨h.1, rfl⟩
  | .str _, v, S, _, h => ⟨h.1, rfl⟩
  | .scr ns, v, S, k, ⟨a, e, q, z⟩ => ⟨a, e, sql_mono eP q, rfl⟩
  | .kst ss, v, S, k, ⟨a, e, q, z⟩ => ⟨a, e, sqt_mono eP q, rfl⟩
  | .key ks, v, S, k, ⟨a, e, q, z⟩ => ⟨a, e, eP _ _ q, rfl⟩
  | .tup ds, v, S, k, ⟨a, xs, e, q, r⟩ => ⟨a, xs, e, sqt_mono eP q, RepL.ice eP ds xs S k r⟩
  | .lst true ds, v, S, k, ⟨a, xs, T, e, q, r, f⟩ => ⟨a, xs, e, k _ _ (by rw [f]; simp [fa, one]; omega) q, RepL.ice eP ds xs T (fun b o hb => k b o (by rw [f]; simp only [fa]; omega)) r⟩
  | .lst false ds, v, S, k, ⟨a, xs, e, q, r⟩ => ⟨a, xs, e, eP _ _ q, RepL.ice eP ds xs S k r⟩
  | .dK true ks ds, v, S, k, ⟨a, xs, T, e, q, n, r, f⟩ => ⟨a, xs, e, k _ _ (by rw [f]; simp [fa, one]; omega) q, n, RepL.ice eP ds xs T (fun b o hb => k b o (by rw [f]; simp only [fa]; omega)) r⟩
  | .dK false ks ds, v, S, k, ⟨a, xs, e, q, n, r⟩ => ⟨a, xs, e, eP _ _ q, n, RepL.ice eP ds xs S k r⟩
  | .dT true ks ds, v, S, k, ⟨a, xs, T, e, q, n, r, f⟩ => ⟨a, xs, e, k _ _ (by rw [f]; simp [fa, one]; omega) q, n, RepL.ice eP ds xs T (fun b o hb => k b o (by rw [f]; simp only [fa]; omega)) r⟩
  | .dT false ks ds, v, S, k, ⟨a, xs, e, q, n, r⟩ => ⟨a, xs, e, eP _ _ q, n, RepL.ice eP ds xs S k r⟩
  | .dN true ks ds, v, S, k, ⟨a, bs, xs, T, e, q, z, n, r, f⟩ => ⟨a, bs, xs, e, q.of fun o h => k a o (by rw [f]; simp [fa, one]; omega) h, z.mono fun _ _ => sqt_mono eP, n, RepL.ice eP ds xs T (fun b o hb => k b o (by rw [f]; simp only [fa]; omega)) r⟩
  | .dN false ks ds, v, S, k, ⟨a, bs, xs, e, q, z, n, r⟩ => ⟨a, bs, xs, e, q.of fun o h => eP a o h, z.mono fun _ _ => sqt_mono eP, n, RepL.ice eP ds xs S k r⟩
  | .obj true _ fs ds, v, S, k, ⟨a, dx, xs, T, e, q, n, r, f⟩ => ⟨a, dx, xs, e, k _ _ (by rw [f]; simp [fa, one]; omega) q, n, RepL.ice eP ds xs T (fun b o hb => k b o (by rw [f]; simp only [fa]; omega)) r⟩
  | .obj false _ fs ds, v, S, k, ⟨a, dx, xs, e, q, n, r⟩ => ⟨a, dx, xs, e, eP _ _ q, n, RepL.ice eP ds xs S k r⟩
theorem RepL.ice {c : LC} {P H P' H' : Hp} (eP : Ex P P') : ∀ (ds : List D) (xs : List V) (S : FP), (∀ a o, 0 < S a → H a = some o → P' a = some o) → RepL c P H ds xs S → RepL c P' H' (iceL ds) xs fz
  | [], xs, S, _, h => ⟨h.1, rfl⟩
  | d :: ds, xs, S, k, ⟨y, ys, T, U, e, r, rs, f⟩ => ⟨y, ys, fz, fz, e, Rep.ice eP d y T (fun b o hb => k b o (by rw [f]; simp only [fa]; omega)) r, RepL.ice eP ds ys U (fun b o hb => k b o (by rw [f]; simp only [fa]; omega)) rs, (fa_fz fz).symm⟩
end
mutual
/-- what is owned stands in the heap -/
theorem Rep.there {c : LC} {P H : Hp} : ∀ (d : D) (v : V) (S : FP), Rep c P H d v S → ∀ a, 0 < S a → H a ≠ none
  | .gone, v, S, h => fun a p => by rw [show S = fz from h] at p; simp [fz] at p
  | .non, v, S, h => fun a p => by rw [h.2] at p; simp [fz] at p
  | .bl _, v, S, h => fun a p => by rw [h.2] at p; simp [fz] at p
  | .int _, v, S, h => fun a p => by rw [h.2] at p; simp [fz] at p
  | .str _, v, S, h => fun a p => by rw [h.2] at p; simp [fz] at p
  | .scr ns, v, S, ⟨a, e, q, z⟩ => fun b p => by rw [z] at p; simp [fz] at p
  | .kst ss, v, S, ⟨a, e, q, z⟩ => fun b p => by rw [z] at p; simp [fz] at p
  | .key ks, v, S, ⟨a, e, q, z⟩ => fun b p => by rw [z] at p; simp [fz] at p
  | .tup ds, v, S, ⟨a, xs, e, q, r⟩ => RepL.there ds xs S r
  | .lst true ds, v, S, ⟨a, xs, T, e, q, r, f⟩ => fun b p => by
    by_cases z : b = a
    · rw [z, q]; simp
    · exact RepL.there ds xs T r b (by rw [f] at p; simpa [fa, one, z] using p)
  | .lst false ds, v, S, ⟨a, xs, e, q, r⟩ => RepL.there ds xs S r
  | .dK true ks ds, v, S, ⟨a, xs, T, e, q, n, r, f⟩ => fun b p => by
    by_cases z : b = a
    · rw [z, q]; simp
    · exact RepL.there ds xs T r b (by rw [f] at p; simpa [fa, one, z] using p)
  | .dK false ks ds, v, S, ⟨a, xs, e, q, n, r⟩ => RepL.there ds xs S r
  | .dT true ks ds, v, S, ⟨a, xs, T, e, q, n, r, f⟩ => fun b p => by
    by_cases z : b = a
    · rw [z, q]; simp
    · exact RepL.there ds xs T r b (by rw [f] at p; simpa [fa, one, z] using p)
  | .dT false ks ds, v, S, ⟨a, xs, e, q, n, r⟩ => RepL.there ds xs S r
  | .dN true ks ds, v, S, ⟨a, bs, xs, T, e, q, _, n, r, f⟩ => fun b p => by
    by_cases z : b = a
    · obtain ⟨_, q, _⟩ := q; rw [z, q]; simp
    · exact RepL.there ds xs T r b (by rw [f] at p; simpa [fa, one, z] using p)
  | .dN false ks ds, v, S, ⟨a, bs, xs, e, q, _, n, r⟩ => RepL.there ds xs S r
  | .obj true _ fs ds, v, S, ⟨a, dx, xs, T, e, q, n, r, f⟩ => fun b p => by
    by_cases z : b = a
    · rw [z, q]; simp
    · exact RepL.there ds xs T r b (by rw [f] at p; simpa [fa, one, z] using p)
  | .obj false _ fs ds, v, S, ⟨a, dx, xs, e, q, n, r⟩ => RepL.there ds xs S r
theorem RepL.there {c : LC} {P H : Hp} : ∀ (ds : List D) (xs : List V) (S : FP), RepL c P H ds xs S → ∀ a, 0 < S a → H a ≠ none
  | [], xs, S, h => fun a p => by rw [h.2] at p; simp [fz] at p
  | d :: ds, xs, S, ⟨y, ys, T, U, e, r, rs, f⟩ => fun a p => by
    rw [f] at p
    by_cases z : 0 < T a
    · exact Rep.there d y T r a z
    · exact RepL.there ds ys U rs a (by simp only [fa] at p; omega)
end
def notTup : HO → Bool
  | .lst _ => true
  | .dK _ => true
  | .dT _ => true
  | .ins .. => true
  | .ext _ => true
  | _ => false
mutual
/-- what is owned is no tuple -/
theorem Rep.nt {c : LC} {P H : Hp} : ∀ (d : D) (v : V) (S : FP), Rep c P H d v S → ∀ a, 0 < S a → ∃ o, H a = some o ∧ notTup o = true
  | .gone, v, S, h => fun a p => by rw [show S = fz from h] at p; simp [fz] at p
  | .non, v, S, h => fun a p => by rw [h.2] at p; simp [fz] at p
  | .bl _, v, S, h => fun a p => by rw [h.2] at p; simp [fz] at p
  | .int _, v, S, h => fun a p => by rw [h.2] at p; simp [fz] at p
  | .str _, v, S, h => fun a p => by rw [h.2] at p; simp [fz] at p
  | .scr ns, v, S, ⟨a, e, q, z⟩ => fun b p => by rw [z] at p; simp [fz] at p
  | .kst ss, v, S, ⟨a, e, q, z⟩ => fun b p => by rw [z] at p; simp [fz] at p
  | .key ks, v, S, ⟨a, e, q, z⟩ => fun b p => by rw [z] at p; simp [fz] at p
  | .tup ds, v, S, ⟨a, xs, e, q, r⟩ => RepL.nt ds xs S r
  | .lst true ds, v, S, ⟨a, xs, T, e, q, r, f⟩ => fun b p => by
    by_cases z : b = a
    · rw [z]; exact ⟨_, q, rfl⟩
    · exact RepL.nt ds xs T r b (by rw [f] at p; simpa [fa, one, z] using p)
  | .lst false ds, v, S, ⟨a, xs, e, q, r⟩ => RepL.nt ds xs S r
  | .dK true ks ds, v, S, ⟨a, xs, T, e, q, n, r, f⟩ => fun b p => by
    by_cases z : b = a
    · rw [z]; exact ⟨_, q, rfl⟩
    · exact RepL.nt ds xs T r b (by rw [f] at p; simpa [fa, one, z] using p)
  | .dK false ks ds, v, S, ⟨a, xs, e, q, n, r⟩ => RepL.nt ds xs S r
  | .dT true ks ds, v, S, ⟨a, xs, T, e, q, n, r, f⟩ => fun b p => by
    by_cases z : b = a
    · rw [z]; exact ⟨_, q, rfl⟩
    · exact RepL.nt ds xs T r b (by rw [f] at p; simpa [fa, one, z] using p)
  | .dT false ks ds, v, S, ⟨a, xs, e, q, n, r⟩ => RepL.nt ds xs S r
  | .dN true ks ds, v, S, ⟨a, bs, xs, T, e, q, _, n, r, f⟩ => fun b p => by
    by_cases z : b = a
    · obtain ⟨_, q, _⟩ := q; rw [z]; exact ⟨_, q, rfl⟩
    · exact RepL.nt ds xs T r b (by rw [f] at p; simpa [fa, one, z] using p)
  | .dN false ks ds, v, S, ⟨a, bs, xs, e, q, _, n, r⟩ => RepL.nt ds xs S r
  | .obj true _ fs ds, v, S, ⟨a, dx, xs, T, e, q, n, r, f⟩ => fun b p => by
    by_cases z : b = a
    · rw [z]; exact ⟨_, q, rfl⟩
    · exact RepL.nt ds xs T r b (by rw [f] at p; simpa [fa, one, z] using p)
  | .obj false _ fs ds, v, S, ⟨a, dx, xs, e, q, n, r⟩ => RepL.nt ds xs S r
theorem RepL.nt {c : LC} {P H : Hp} : ∀ (ds : List D) (xs : List V) (S : FP), RepL c P H ds xs S → ∀ a, 0 < S a → ∃ o, H a = some o ∧ notTup o = true
  | [], xs, S, h => fun a p => by rw [h.2] at p; simp [fz] at p
  | d :: ds, xs, S, ⟨y, ys, T, U, e, r, rs, f⟩ => fun a p => by
    rw [f] at p
    by_cases z : 0 < T a
    · exact Rep.nt d y T r a z
    · exact RepL.nt ds ys U rs a (by simp only [fa] at p; omega)
end
theorem sqt_thaw {K : PySem.W.Frag} {H H' : Hp} {a : Addr} {xs : List V} (e : ∀ b o, H b = some o → notTup o = false → H' b = some o) (h : SqT K H a xs) : SqT K H' a xs := by
  rcases h with (h | ⟨o, h⟩) | h
  · exact .inl (.inl (e _ _ h rfl))
  · exact .inl (.inr ⟨o, e _ _ h rfl⟩)
  · exact .inr h
mutual
/-- what holds no frozen list asks of the frozen things for the tuples alone -/
theorem Rep.thaw {c : LC} {P P' H : Hp} (e : ∀ b o, P b = some o → notTup o = false → P' b = some o) : ∀ (d : D) (v : V) (S : FP), noIce d = true → Rep c P H d v S → Rep c P' H d v S
  | .gone, v, S, _, h => h
  | .non, v, S, _, h => h
  | .bl _, v, S, _, h => h
  | .int _, v, S, _, h => h
  | .str _, v, S, _, h => h
  | .scr ns, v, S, n, _ => by simp [noIce] at n
  | .kst ss, v, S, _, ⟨a, e1, q, z⟩ => ⟨a, e1, sqt_thaw e q, z⟩
  | .key ks, v, S, _, ⟨a, e1, q, z⟩ => ⟨a, e1, e _ _ q rfl, z⟩
  | .tup ds, v, S, n, ⟨a, xs, e1, q, r⟩ => ⟨a, xs, e1, sqt_thaw e q, RepL.thaw e ds xs S (by simpa [noIce] using n) r⟩
  | .lst true ds, v, S, n, ⟨a, xs, T, e1, q, r, f⟩ => ⟨a, xs, T, e1, q, RepL.thaw e ds xs T (by simpa [noIce] using n) r, f⟩
  | .lst false ds, v, S, n, _ => by simp [noIce] at n
  | .dK true ks ds, v, S, n, ⟨a, xs, T, e1, q, l, r, f⟩ => ⟨a, xs, T, e1, q, l, RepL.thaw e ds xs T (by simpa [noIce] using n) r, f⟩
  | .dK false ks ds, v, S, n, _ => by simp [noIce] at n
  | .dT true ks ds, v, S, n, ⟨a, xs, T, e1, q, l, r, f⟩ => ⟨a, xs, T, e1, q, l, RepL.thaw e ds xs T (by simpa [noIce] using n) r, f⟩
  | .dT false ks ds, v, S, n, _ => by simp [noIce] at n
  | .dN true ks ds, v, S, n, ⟨a, bs, xs, T, e1, q, z, l, r, f⟩ => ⟨a, bs, xs, T, e1, q, z.mono fun _ _ => sqt_thaw e, l, RepL.thaw e ds xs T (by simpa [noIce] using n) r, f⟩
  | .dN false ks ds, v, S, n, _ => by simp [noIce] at n
  | .obj true _ fs ds, v, S, n, ⟨a, dx, xs, T, e1, q, l, r, f⟩ => ⟨a, dx, xs, T, e1, q, l, RepL.thaw e ds xs T (by simpa [noIce] using n) r, f⟩
  | .obj false _ fs ds, v, S, n, _ => by simp [noIce] at n
theorem RepL.thaw {c : LC} {P P' H : Hp} (e : ∀ b o, P b = some o → notTup o = false → P' b = some o) : ∀ (ds : List D) (xs : List V) (S : FP), noIceL ds = true → RepL c P H ds xs S → RepL c P' H ds xs S
  | [], xs, S, _, h => h
  | d :: ds, xs, S, n, ⟨y, ys, T, U, e1, r, rs, f⟩ => by
    rw [noIceL, Bool.and_eq_true] at n
    exact ⟨y, ys, T, U, e1, Rep.thaw e d y T n.1 r, RepL.thaw e ds ys U n.2 rs, f⟩
end
end LI

namespace LI
open PySem L2

structure En where
  P0 : Hp
  H0 : Hp
  S0 : FP
  kp : List Bool
  vs : List V
  hv : ∀ i : Nat, kp[i]? = some true → ∃ v, vs[i]? = some v
  xw : WX

def RepO (c : LC) (P H : Hp) (d : D) : Option V → FP → Prop
  | some v, T => Rep c P H d v T
  | none, T => d = .gone ∧ T = fz
def RepE (c : LC) (P H : Hp) : List D → St → FP → Prop
  | [], [], S => S = fz
  | d :: ds, ov :: σ, S => ∃ T U, RepO c P H d ov T ∧ RepE c P H ds σ U ∧ S = fa T U
  | _, _, _ => False

structure Wd (c : LC) (E : En) (P : Hp) (S T : FP) (σ : St) (H : Hp) (ρ : List D) : Prop where
  env : RepE c P H ρ σ S
  le : ∀ a, S a + T a ≤ 1
  out : ∀ a, 0 < S a + T a → P a = none
  th : ∀ a, 0 < T a → H a ≠ none
  ph : Ex P H
  p0 : Ex E.P0 P
  fr : ∀ a o, E.S0 a = 0 → E.H0 a = some o → H a = some o
  np : ∀ a, P a ≠ none → E.P0 a ≠ none ∨ 0 < E.S0 a ∨ E.H0 a = none
  ns : ∀ a, 0 < S a + T a → 0 < E.S0 a ∨ E.H0 a = none
  kp : ∀ (i : Nat) (v : V), E.kp[i]? = some true → E.vs[i]? = some v → σ[i]? = some (some v)

structure Gr (P H P' H' : Hp) : Prop where
  p : Ex P P'
  h : Ex H H'
  ph : Ex P' H'
  new : ∀ a, P' a ≠ none → P a ≠ none ∨ H a = none
theorem Gr.refl {P H : Hp} (e : Ex P H) : Gr P H P H := ⟨.refl _, .refl _, e, fun _ h => .inl h⟩
theorem Gr.trans {P H P1 H1 P2 H2 : Hp} (a : Gr P H P1 H1) (b : Gr P1 H1 P2 H2) : Gr P H P2 H2 :=
  ⟨a.p.trans b.p, a.h.trans b.h, b.ph, fun x h => by
    rcases b.new x h with q | q
    · exact a.new x q
    · cases z : H x with
      | none => exact .inr rfl
      | some o => rw [a.h x o z] at q; cases q⟩

theorem RepO.mono {c : LC} {P H P' H' : Hp} (eP : Ex P P') {d : D} {v : Option V} {S : FP} (k : ∀ a o, 0 < S a → H a = some o → H' a = some o) (h : RepO c P H d v S) : RepO c P' H' d v S := by
  cases v with
  | none => exact h
  | some v => exact Rep.mono eP d v S k h
theorem RepE.mono {c : LC} {P H P' H' : Hp} (eP : Ex P P') : ∀ (ρ : List D) (σ : St) (S : FP), (∀ a o, 0 < S a → H a = some o → H' a = some o) → RepE c P H ρ σ S → RepE c P' H' ρ σ S
  | [], [], S, _, h => h
  | d :: ds, v :: σ, S, k, ⟨T, U, r, rs, f⟩ => ⟨T, U, RepO.mono eP (fun b o hb => k b o (by rw [f]; simp only [fa]; omega)) r, RepE.mono eP ds σ U (fun b o hb => k b o (by rw [f]; simp only [fa]; omega)) rs, f⟩
  | [], _ :: _, _, _, h => h.elim
  | _ :: _, [], _, _, h => h.elim
theorem RepO.there {c : LC} {P H : Hp} {d : D} {v : Option V} {S : FP} (h : RepO c P H d v S) : ∀ a, 0 < S a → H a ≠ none := by
  cases v with
  | none => intro a p; rw [h.2] at p; simp [fz] at p
  | some v => exact Rep.there d v S h
theorem RepE.there {c : LC} {P H : Hp} : ∀ (ρ : List D) (σ : St) (S : FP), RepE c P H ρ σ S → ∀ a, 0 < S a → H a ≠ none
  | [], [], S, h => fun a p => by rw [show S = fz from h] at p; simp [fz] at p
  | d :: ds, v :: σ, S, ⟨T, U, r, rs, f⟩ => fun a p => by
    rw [f] at p
    by_cases z : 0 < T a
    · exact r.there a z
    · exact RepE.there ds σ U rs a (by simp only [fa] at p; omega)
  | [], _ :: _, _, h => h.elim
  | _ :: _, [], _, h => h.elim
theorem RepE.len {c : LC} {P H : Hp} : ∀ (ρ : List D) (σ : St) (S : FP), RepE c P H ρ σ S → ρ.length = σ.length
  | [], [], _, _ => rfl
  | _ :: ds, _ :: σ, _, ⟨_, U, _, rs, _⟩ => by simp [RepE.len ds σ U rs]
  | [], _ :: _, _, h => h.elim
  | _ :: _, [], _, h => h.elim

section
variable {c : LC} {E : En} {P P' : Hp} {S T : FP} {σ : St} {H H' : Hp} {ρ : List D}
theorem Wd.grow (w : Wd c E P S T σ H ρ) (g : Gr P H P' H') : Wd c E P' S T σ H' ρ where
  env := w.env.mono g.p ρ σ S (fun a o _ h => g.h a o h)
  le := w.le
  out := fun a h => by
    cases z : P' a with
    | none => rfl
    | some o =>
      rcases g.new a (by rw [z]; simp) with q | q
      · exact absurd (w.out a h) q
      · by_cases hT : 0 < T a
        · exact absurd q (w.th a hT)
        · exact absurd q (RepE.there ρ σ S w.env a (by omega))
  th := fun a h z => by
    cases q : H a with
    | none => exact w.th a h q
    | some o => rw [g.h a o q] at z; cases z
  ph := g.ph
  p0 := w.p0.trans g.p
  fr := fun a o h1 h2 => g.h a o (w.fr a o h1 h2)
  np := fun a h => by
    rcases g.new a h with q | q
    · exact w.np a q
    · cases z : E.H0 a with
      | none => exact .inr (.inr rfl)
      | some o =>
        by_cases hs : E.S0 a = 0
        · rw [w.fr a o hs z] at q; cases q
        · exact .inr (.inl (by omega))
  ns := w.ns
  kp := w.kp
theorem Wd.aside (w : Wd c E P S T σ H ρ) (g : Gr P H P' H') {U : FP} (h1 : ∀ a, U a ≤ 1) (h2 : ∀ a, 0 < U a → H a = none ∧ P' a = none) (h3 : ∀ a, 0 < U a → H' a ≠ none) : Wd c E P' S (fa T U) σ H' ρ := by
  have w' := w.grow g
  have hS : ∀ a, 0 < U a → S a = 0 ∧ T a = 0 := fun a h => by
    have n := (h2 a h).1
    refine ⟨?_, ?_⟩
    · rcases Nat.eq_zero_or_pos (S a) with z | z
      · exact z
      · exact absurd n (RepE.there ρ σ S w.env a z)
    · rcases Nat.eq_zero_or_pos (T a) with z | z
      · exact z
      · exact absurd n (w.th a z)
  refine ⟨w'.env, fun a => ?_, fun a h => ?_, fun a h => ?_, w'.ph, w'.p0, w'.fr, w'.np, fun a h => ?_, w'.kp⟩
  · by_cases z : 0 < U a
    · have := hS a z; have := h1 a; simp only [fa]; omega
    · have := w.le a; simp only [fa]; omega
  · by_cases z : 0 < U a
    · exact (h2 a z).2
    · exact w'.out a (by simp only [fa] at h; omega)
  · by_cases z : 0 < U a
    · exact h3 a z
    · exact w'.th a (by simp only [fa] at h; omega)
  · by_cases z : 0 < U a
    · have n := (h2 a z).1
      cases q : E.H0 a with
      | none => exact .inr rfl
      | some o =>
        by_cases hs : E.S0 a = 0
        · rw [w.fr a o hs q] at n; cases n
        · exact .inl (by omega)
    · exact w'.ns a (by simp only [fa] at h; omega)
end

abbrev RM := List D → Option D
abbrev GM := List D → Option (D × List D)
abbrev BM := List D → Option Bool
abbrev BGM := List D → Option (Bool × List D)
def RQ (c : LC) (P H : Hp) (d : D) (Q : VK) : Prop := ∀ v H' P' U, Gr P H P' H' → Rep c P' H' d v U → Q v H'
def FQ (c : LC) (P H : Hp) (d : D) (Q : VK) : Prop := ∀ v H' P' U, Gr P H P' H' → Rep c P' H' d v U → (∀ a, U a ≤ 1) → (∀ a, 0 < U a → H a = none ∧ P' a = none) → Q v H'
def tR (c : LC) (E : En) (m : RM) : TE := fun σ H Q => ∃ P S T ρ d, Wd c E P S T σ H ρ ∧ m ρ = some d ∧ RQ c P H d Q
def tF (c : LC) (E : En) (m : RM) : TE := fun σ H Q => ∃ P S T ρ d, Wd c E P S T σ H ρ ∧ m ρ = some d ∧ FQ c P H d Q
def tG (c : LC) (E : En) (m : GM) : TE := fun σ H Q => ∃ P S T ρ d ρ', Wd c E P S T σ H ρ ∧ m ρ = some (d, ρ') ∧
  ∀ v H' P' S' U, Wd c E P' S' (fa T U) σ H' ρ' → Ex P P' → Rep c P' H' d v U → (∀ a o, 0 < T a → H a = some o → H' a = some o) → Q v H'
def tT (c : LC) (E : En) (m : BM) : TT := fun σ H Q => ∃ P S T ρ b, Wd c E P S T σ H ρ ∧ m ρ = some b ∧ ∀ H' P', Gr P H P' H' → Q b H'
theorem PE_imp {X : Cx} {e : Expr} {t t' : TE} (h : PE X e t) (k : ∀ σ H Q, t' σ H Q → t σ H Q) : PE X e t' := ⟨fun pins s σ H Q I q => h.run pins s σ H Q I (k σ H Q q)⟩
theorem PT_imp {X : Cx} {e : Expr} {t t' : TT} (h : PT X e t) (k : ∀ σ H Q, t' σ H Q → t σ H Q) : PT X e t' := ⟨fun pins s σ H Q I q => h.run pins s σ H Q I (k σ H Q q)⟩
theorem PW_imp {X : Cx} {e : Expr} {t t' : TT} (h : PW X e t) (k : ∀ σ H Q, t' σ H Q → t σ H Q) : PW X e t' := ⟨fun whole pins s σ H Q I q => h.run whole pins s σ H Q I (k σ H Q q)⟩
theorem PA_imp {X : Cx} {e : List Expr} {t t' : TA} (h : PA X e t) (k : ∀ σ H Q, t' σ H Q → t σ H Q) : PA X e t' := ⟨fun pos pins s σ H Q I q => h.run pos pins s σ H Q I (k σ H Q q)⟩
theorem PS_imp {X : Cx} {e : Stmt} {t t' : TS} (h : PS X e t) (k : ∀ D σ H, t' D σ H → t D σ H) : PS X e t' := ⟨fun pins s σ H D I q => h.run pins s σ H D I (k D σ H q)⟩
theorem PSs_imp {X : Cx} {e : List Stmt} {t t' : TS} (h : PSs X e t) (k : ∀ D σ H, t' D σ H → t D σ H) : PSs X e t' := ⟨fun pins s σ H D I q => h.run pins s σ H D I (k D σ H q)⟩

section
variable {c : LC} {E : En} {P P' : Hp} {S T : FP} {σ : St} {H H' : Hp} {ρ : List D} {X : Cx} {e : Expr} {m : RM}
theorem FQ.of_R {d : D} {Q : VK} (h : RQ c P H d Q) : FQ c P H d Q := fun v H' P' U g r _ _ => h v H' P' U g r
theorem FQ.flat {d : D} {v : V} {Q : VK} (h : FQ c P H d Q) (e : Ex P H) (r : Rep c P H d v fz) : Q v H :=
  h v H P fz (.refl e) r (fun _ => Nat.zero_le _) fun a p => by simp [fz] at p
theorem r_f (h : PE X e (tF c E m)) : PE X e (tR c E m) := PE_imp h fun σ H Q ⟨P, S, T, ρ, d, w, hm, q⟩ => ⟨P, S, T, ρ, d, w, hm, .of_R q⟩
def upF (m : RM) : GM := fun ρ => (m ρ).map fun d => (d, ρ)
def upR (m : RM) : GM := fun ρ => (m ρ).bind fun d => if frz d = true then some (d, ρ) else none
theorem g_f (h : PE X e (tF c E m)) : PE X e (tG c E (upF m)) := PE_imp h fun σ H Q ⟨P, S, T, ρ, d, ρ', w, hm, q⟩ => by
  unfold upF at hm
  cases hd : m ρ with
  | none => rw [hd] at hm; cases hm
  | some d1 =>
    rw [hd] at hm
    cases hm
    exact ⟨P, S, T, ρ, d, w, hd, fun v H' P' U g r u1 u2 => q v H' P' S U (w.aside g u1 u2 (Rep.there d v U r)) g.p r fun a o _ h => g.h a o h⟩
theorem g_r (h : PE X e (tR c E m)) : PE X e (tG c E (upR m)) := PE_imp h fun σ H Q ⟨P, S, T, ρ, d, ρ', w, hm, q⟩ => by
  unfold upR at hm
  cases hd : m ρ with
  | none => rw [hd] at hm; cases hm
  | some d1 =>
    rw [hd] at hm
    simp only [Option.bind_some] at hm
    split at hm
    · rename_i hf
      cases hm
      refine ⟨P, S, T, ρ, d, w, hd, fun v H' P' U g r => ?_⟩
      have e := Rep.frz0 d v U hf r
      subst e
      exact q v H' P' S fz (w.aside g (fun _ => Nat.zero_le _) (fun a p => by simp [fz] at p) (fun a p => by simp [fz] at p)) g.p r fun a o _ h => g.h a o h
    · cases hm
def coldM (m : RM) : RM := fun ρ => (m ρ).map ice
theorem f_cold (h : PE X e (tF c E m)) : PE X e (tF c E (coldM m)) := PE_imp h fun σ H Q ⟨P, S, T, ρ, d, w, hm, q⟩ => by
  unfold coldM at hm
  cases hd : m ρ with
  | none => rw [hd] at hm; cases hm
  | some d1 =>
    rw [hd] at hm
    cases hm
    refine ⟨P, S, T, ρ, d1, w, hd, fun v H' P' U g r u1 u2 => ?_⟩
    have r2 : Rep c (fun a => if 0 < U a then H' a else P' a) H' (ice d1) v fz := Rep.ice (fun a o z => by
        by_cases hu : 0 < U a
        · rw [(u2 a hu).2] at z; cases z
        · simp [hu, z]) d1 v U (fun a o hu hh => by simp [hu, hh]) r
    refine q v H' _ fz ⟨fun a o z => ?_, g.h, fun a o z => ?_, fun a z => ?_⟩ r2 (fun _ => Nat.zero_le _) (fun a p => by simp [fz] at p)
    · by_cases hu : 0 < U a
      · have := (u2 a hu).2; rw [g.p a o z] at this; cases this
      · simp [hu, g.p a o z]
    · by_cases hu : 0 < U a
      · simpa [hu] using z
      · exact g.ph a o (by simpa [hu] using z)
    · by_cases hu : 0 < U a
      · exact .inr (u2 a hu).1
      · exact g.new a (by simpa [hu] using z)
end
end LI

namespace LI
open PySem L2

def LIM : Nat := 4000000
theorem lim_le {n : Nat} (h : n ≤ LIM) : n ≤ sizeLine := Nat.le_trans h (by decide)
theorem lim_lt {n : Nat} (h : n < LIM) : n < sizeLine := Nat.lt_of_lt_of_le h (by decide)

theorem RepL.length {c : LC} {P H : Hp} : ∀ {ds : List D} {xs : List V} {S : FP}, RepL c P H ds xs S → ds.length = xs.length
  | [], xs, S, h => by rw [h.1]; rfl
  | d :: ds, xs, S, ⟨y, ys, T, U, e, _, rs, _⟩ => by rw [e]; simp [RepL.length rs]
theorem RepL.append {c : LC} {P H : Hp} : ∀ {ds es : List D} {xs ys : List V} {S T : FP}, RepL c P H ds xs S → RepL c P H es ys T → RepL c P H (ds ++ es) (xs ++ ys) (fa S T)
  | [], es, xs, ys, S, T, h, k => by rw [h.1, h.2, fz_fa]; exact k
  | d :: ds, es, xs, ys, S, T, ⟨y, zs, A, B, e, r, rs, f⟩, k => by
    rw [e, f]
    exact ⟨y, zs ++ ys, A, fa B T, rfl, r, RepL.append rs k, by funext a; simp only [fa]; omega⟩
theorem RepL.get {c : LC} {P H : Hp} : ∀ {ds : List D} {xs : List V} {S : FP} {i : Nat} {d : D}, RepL c P H ds xs S → ds[i]? = some d → ∃ x T, xs[i]? = some x ∧ Rep c P H d x T ∧ ∀ a, T a ≤ S a
  | [], xs, S, i, d, h, e => by simp at e
  | d0 :: ds, xs, S, 0, d, ⟨y, zs, A, B, e, r, rs, f⟩, q => by
    simp at q; subst q
    exact ⟨y, A, by rw [e]; rfl, r, fun a => by rw [f]; simp only [fa]; omega⟩
  | d0 :: ds, xs, S, i + 1, d, ⟨y, zs, A, B, e, r, rs, f⟩, q => by
    obtain ⟨x, T, h1, h2, h3⟩ := RepL.get (i := i) (d := d) rs (by simpa using q)
    exact ⟨x, T, by rw [e]; simpa using h1, h2, fun a => by have := h3 a; rw [f]; simp only [fa]; omega⟩
theorem frzL_iff : ∀ {ds : List D}, frzL ds = true ↔ ∀ d ∈ ds, frz d = true
  | [] => by simp [frzL]
  | d :: ds => by simp [frzL, frzL_iff (ds := ds)]
theorem RepL.drop {c : LC} {P H : Hp} : ∀ {ds : List D} {xs : List V} (n : Nat), RepL c P H ds xs fz → RepL c P H (ds.drop n) (xs.drop n) fz
  | ds, xs, 0, h => h
  | [], xs, n + 1, h => by rw [h.1]; exact ⟨rfl, rfl⟩
  | d :: ds, xs, n + 1, ⟨y, zs, A, B, e, r, rs, f⟩ => by
    have hB : B = fz := by
      funext a
      have := congrFun f a
      simp only [fa, fz] at this ⊢
      omega
    subst hB
    rw [e]
    exact RepL.drop n rs
theorem RepL.take {c : LC} {P H : Hp} : ∀ {ds : List D} {xs : List V} (n : Nat), RepL c P H ds xs fz → RepL c P H (ds.take n) (xs.take n) fz
  | ds, xs, 0, h => ⟨rfl, rfl⟩
  | [], xs, n + 1, h => by rw [h.1]; exact ⟨rfl, rfl⟩
  | d :: ds, xs, n + 1, ⟨y, zs, A, B, e, r, rs, f⟩ => by
    have hB : A = fz ∧ B = fz := by
      refine ⟨?_, ?_⟩ <;> funext a <;> (have := congrFun f a; simp only [fa, fz] at this ⊢; omega)
    obtain ⟨rfl, rfl⟩ := hB
    rw [e]
    exact ⟨y, zs.take n, fz, fz, rfl, r, RepL.take n rs, (fa_fz fz).symm⟩
theorem RepL.rep {c : LC} {P H : Hp} {ds : List D} {xs : List V} (h : RepL c P H ds xs fz) : ∀ n : Nat, RepL c P H (List.replicate n ds).flatten (List.replicate n xs).flatten fz
  | 0 => ⟨rfl, rfl⟩
  | n + 1 => by
    have := RepL.append h (RepL.rep h n)
    rw [fa_fz] at this
    simpa [List.replicate_succ] using this

section
variable {c : LC} {P H : Hp} {Q : VK}
theorem none_of {a : Addr} (e : Ex P H) (h : H a = none) : P a = none := by
  cases z : P a with
  | none => rfl
  | some o => rw [e a o z] at h; cases h
theorem ex_new {p : Addr} {o : HO} (h : H p = none) : Ex H (upd H p o) := fun a u e => by
  rw [upd_ne (ne_of_none e h)]; exact e
theorem one_le {p : Addr} : ∀ a, one p a ≤ 1 := fun a => by unfold one; split <;> omega
theorem one_pos {p a : Addr} (h : 0 < one p a) : a = p := by unfold one at h; split at h <;> first | assumption | omega
theorem FQ.lst {ds : List D} {xs : List V} (h : FQ c P H (.lst true ds) Q) (e : Ex P H) (r : RepL c P H ds xs fz) : ∀ p, H p = none → Q (.ref p) (upd H p (.lst xs)) := fun p hp => by
  refine h _ _ P (one p) ⟨.refl _, ex_new hp, e.trans (ex_new hp), fun _ z => .inl z⟩ ⟨p, xs, fz, rfl, upd_same, RepL.mono (.refl _) ds xs fz (fun a o z _ => by simp [fz] at z) r, (fa_fz _).symm⟩ one_le fun a z => ?_
  rw [one_pos z]
  exact ⟨hp, none_of e hp⟩
theorem FQ.tup {ds : List D} {xs : List V} (h : FQ c P H (.tup ds) Q) (e : Ex P H) (r : RepL c P H ds xs fz) : ∀ p, H p = none → Q (.ref p) (upd H p (.tup xs)) := fun p hp => by
  have hP := none_of e hp
  refine h _ _ (upd P p (.tup xs)) fz ⟨ex_new hP, ex_new hp, fun a o z => ?_, fun a z => ?_⟩ ⟨p, xs, rfl, .inl (.inl upd_same), RepL.mono (ex_new hP) ds xs fz (fun a o z _ => by simp [fz] at z) r⟩ (fun _ => Nat.zero_le _) (fun a z => by simp [fz] at z)
  · by_cases q : a = p
    · subst q; rw [upd_same] at z ⊢; exact z
    · rw [upd_ne q] at z ⊢; exact e a o z
  · by_cases q : a = p
    · subst q; exact .inr hp
    · rw [upd_ne q] at z; exact .inl z
theorem FQ.grow {P2 H2 : Hp} {d : D} (h : FQ c P H d Q) (g : Gr P H P2 H2) : FQ c P2 H2 d Q := fun v H' P' U g2 r u1 u2 => h v H' P' U (g.trans g2) r u1 fun a z => by
  obtain ⟨n1, n2⟩ := u2 a z
  refine ⟨?_, n2⟩
  cases q : H a with
  | none => rfl
  | some o => rw [g.h a o q] at n1; cases n1
theorem Rep.gr {P2 H2 : Hp} {d : D} {v : V} {S : FP} (r : Rep c P H d v S) (g : Gr P H P2 H2) : Rep c P2 H2 d v S := Rep.mono g.p d v S (fun a o _ h => g.h a o h) r
theorem RepL.gr {P2 H2 : Hp} {d : List D} {v : List V} {S : FP} (r : RepL c P H d v S) (g : Gr P H P2 H2) : RepL c P2 H2 d v S := RepL.mono g.p d v S (fun a o _ h => g.h a o h) r
end

def m2 (f : D → D → Option D) (ma mb : RM) : RM := fun ρ => (ma ρ).bind fun x => (mb ρ).bind fun y => f x y
def m1 (f : D → Option D) (ma : RM) : RM := fun ρ => (ma ρ).bind f
def Op2 (c : LC) (r : R2) (f : D → D → Option D) : Prop := ∀ (P H : Hp), Ex P H → ∀ da db d x y U1 U2, f da db = some d → Rep c P H da x U1 → Rep c P H db y U2 → ∀ Q, FQ c P H d Q → r x y H Q
section
variable {X : Cx} {cl : Nat → Addr} {E : En} {a b : Expr} {pos : Pos} {ma mb : RM} {r : R2} {f : D → D → Option D}
theorem op2_run (hf : Op2 ⟨X.K, cl, X.w⟩ r f) {σ : L2.St} {H : Hp} {Q : VK} (h : tF ⟨X.K, cl, X.w⟩ E (m2 f ma mb) σ H Q) : tOp r (tR ⟨X.K, cl, X.w⟩ E ma) (tR ⟨X.K, cl, X.w⟩ E mb) σ H Q := by
  obtain ⟨P, S, T, ρ, d, w, hm, q⟩ := h
  unfold m2 at hm
  cases ea : ma ρ with
  | none => rw [ea] at hm; cases hm
  | some da =>
    cases eb : mb ρ with
    | none => rw [ea, eb] at hm; cases hm
    | some db =>
      rw [ea, eb] at hm
      refine ⟨P, S, T, ρ, da, w, ea, fun x H1 P1 U1 g1 r1 => ⟨P1, S, T, ρ, db, w.grow g1, eb, fun y H2 P2 U2 g2 r2 => ?_⟩⟩
      exact hf P2 H2 g2.ph _ _ _ _ _ _ _ hm (r1.gr g2) r2 Q (q.grow (g1.trans g2))
theorem f_bin {op : Operator} (ho : OpR X (binaryOp op) r) (hf : Op2 ⟨X.K, cl, X.w⟩ r f) (ha : PE X a (tR ⟨X.K, cl, X.w⟩ E ma)) (hb : PE X b (tR ⟨X.K, cl, X.w⟩ E mb)) : PE X (.BinOp a op b pos) (tF ⟨X.K, cl, X.w⟩ E (m2 f ma mb)) :=
  PE_imp (pe_op ho ha hb) fun _ _ _ h => op2_run hf h
theorem f_cmp {op : CmpOp} (ho : OpR X (compareOp op) r) (hf : Op2 ⟨X.K, cl, X.w⟩ r f) (ha : PE X a (tR ⟨X.K, cl, X.w⟩ E ma)) (hb : PE X b (tR ⟨X.K, cl, X.w⟩ E mb)) (hm : behindInMarks op b = false) : PE X (.Compare a [op] [b] pos) (tF ⟨X.K, cl, X.w⟩ E (m2 f ma mb)) :=
  PE_imp (pe_cmpR ho ha hb hm) fun _ _ _ h => op2_run hf h
def bM (m : RM) : BM := fun ρ => (m ρ).bind fun d => match d with | .bl b => some b | _ => none
theorem bM_some {m : RM} {ρ : List D} {b : Bool} (h : bM m ρ = some b) : m ρ = some (.bl b) := by
  unfold bM at h
  cases e : m ρ with
  | none => rw [e] at h; cases h
  | some d =>
    rw [e] at h
    cases d with
    | bl k => simp at h; rw [h]
    | _ => simp at h
theorem t_test {e : Expr} {m : RM} {t : TE} (h : PT X e (tTest t)) (k : ∀ σ H Q, tF ⟨X.K, cl, X.w⟩ E m σ H Q → t σ H Q) : PT X e (tT ⟨X.K, cl, X.w⟩ E (bM m)) :=
  PT_imp h fun σ H Q ⟨P, S, T, ρ, b, w, hm, q⟩ => k σ H _ ⟨P, S, T, ρ, .bl b, w, bM_some hm, fun v H' P' U g r _ _ => ⟨b, r.1, q H' P' g⟩⟩
theorem t_cmp {op : CmpOp} (ho : OpR X (compareOp op) r) (hf : Op2 ⟨X.K, cl, X.w⟩ r f) (ha : PE X a (tR ⟨X.K, cl, X.w⟩ E ma)) (hb : PE X b (tR ⟨X.K, cl, X.w⟩ E mb)) (hm : behindInMarks op b = false) : PT X (.Compare a [op] [b] pos) (tT ⟨X.K, cl, X.w⟩ E (bM (m2 f ma mb))) :=
  t_test (pt_cmpR ho ha hb hm) fun _ _ _ h => op2_run hf h
end
theorem OpR_or {X : Cx} {g : Value → Value → Sem Value} {r r' : R2} (h : OpR X g r) (h' : OpR X g r') : OpR X g (fun x y H Q => r x y H Q ∨ r' x y H Q) := fun pins s σ H x y v u Q I rx ry q => q.elim (h pins s σ H x y v u Q I rx ry) (h' pins s σ H x y v u Q I rx ry)

def addD : D → D → Option D
  | .int a, .int b => some (.int (a + b))
  | .str a, .str b => if a.length + b.length ≤ LIM then some (.str (a ++ b)) else none
  | .lst _ a, .lst _ b => if (frzL a && frzL b) = true ∧ a.length + b.length ≤ LIM then some (.lst true (a ++ b)) else none
  | .tup a, .tup b => if (frzL a && frzL b) = true ∧ a.length + b.length ≤ LIM then some (.tup (a ++ b)) else none
  | _, _ => none
def rAddA (K : PySem.W.Frag) : R2 := fun x y H Q => (rI0 (fun i j => .int (i + j))) x y H Q ∨ (∃ i j, x = .str i ∧ y = .str j ∧ i.length + j.length ≤ sizeLine ∧ Q (.str (i ++ j)) H) ∨ rCat x y H Q ∨ rCatA K x y H Q
section
variable {X : Cx} {c : LC}
theorem opr_add : OpR X (binaryOp .Add) (rAddA X.K) := OpR_or op_add (OpR_or op_add_str (OpR_or op_cat op_catA))
theorem lst_heap {P H : Hp} (e : Ex P H) {o : Bool} {ds : List D} {v : V} {U : FP} (r : Rep c P H (.lst o ds) v U) : ∃ a xs T, v = .ref a ∧ H a = some (.lst xs) ∧ RepL c P H ds xs T ∧ ∀ a, T a ≤ U a := by
  cases o with
  | true =>
    obtain ⟨a, xs, T, e1, h, rl, f⟩ := r
    exact ⟨a, xs, T, e1, h, rl, fun b => by rw [f]; simp only [fa]; omega⟩
  | false =>
    obtain ⟨a, xs, e1, h, rl⟩ := r
    exact ⟨a, xs, U, e1, e _ _ h, rl, fun _ => Nat.le_refl _⟩
theorem lst_heap0 {P H : Hp} (e : Ex P H) {o : Bool} {ds : List D} {v : V} {U : FP} (r : Rep c P H (.lst o ds) v U) (hf : frzL ds = true) : ∃ a xs, v = .ref a ∧ H a = some (.lst xs) ∧ RepL c P H ds xs fz := by
  obtain ⟨a, xs, T, e1, h, rl, _⟩ := lst_heap e r
  have z := RepL.frz0 ds xs T hf rl
  subst z
  exact ⟨a, xs, e1, h, rl⟩
theorem tup_heap0 {P H : Hp} (e : Ex P H) {ds : List D} {v : V} {U : FP} (r : Rep c P H (.tup ds) v U) (hf : frzL ds = true) : ∃ a xs, v = .ref a ∧ SqT c.K H a xs ∧ SqT c.K P a xs ∧ RepL c P H ds xs fz := by
  obtain ⟨a, xs, e1, h, rl⟩ := r
  have z := RepL.frz0 ds xs U hf rl
  subst z
  exact ⟨a, xs, e1, sqt_mono e h, h, rl⟩
theorem str_app (a b : List Nat) : (⟨a.toArray⟩ : Str) ++ (⟨b.toArray⟩ : Str) = ⟨(a ++ b).toArray⟩ := by
  show (Str.mk (a.toArray ++ b.toArray)) = _
  simp
theorem str_len (a : List Nat) : (⟨a.toArray⟩ : Str).length = a.length := by
  show a.toArray.size = _
  simp
theorem op_addD : Op2 c (rAddA c.K) addD := by
  intro P H e da db d x y U1 U2 hf r1 r2 Q q
  unfold addD at hf
  split at hf
  · rename_i a b
    cases hf
    exact .inl ⟨a, b, r1.1, r2.1, q.flat e ⟨rfl, rfl⟩⟩
  · rename_i a b
    split at hf
    · rename_i hl
      cases hf
      refine .inr (.inl ⟨_, _, r1.1, r2.1, ?_, ?_⟩)
      · rw [str_len, str_len]; exact lim_le hl
      · rw [str_app]; exact q.flat e ⟨rfl, rfl⟩
    · cases hf
  · rename_i o1 a o2 b
    split at hf
    · rename_i hl
      obtain ⟨hz, hl⟩ := hl
      simp only [Bool.and_eq_true] at hz
      cases hf
      obtain ⟨p1, xs, rfl, h1, l1⟩ := lst_heap0 e r1 hz.1
      obtain ⟨p2, ys, rfl, h2, l2⟩ := lst_heap0 e r2 hz.2
      refine .inr (.inr (.inl ⟨p1, p2, xs, ys, rfl, rfl, h1, h2, ?_, q.lst e ?_⟩))
      · rw [← l1.length, ← l2.length]; exact lim_le hl
      · have := l1.append l2; rwa [fa_fz] at this
    · cases hf
  · rename_i a b
    split at hf
    · rename_i hl
      obtain ⟨hz, hl⟩ := hl
      simp only [Bool.and_eq_true] at hz
      cases hf
      obtain ⟨p1, xs, rfl, h1, h1', l1⟩ := tup_heap0 e r1 hz.1
      obtain ⟨p2, ys, rfl, h2, h2', l2⟩ := tup_heap0 e r2 hz.2
      have ll := l1.append l2
      rw [fa_fz] at ll
      refine .inr (.inr (.inr ⟨p1, p2, xs, ys, rfl, rfl, h1, h2, ?_, ?_⟩))
      · rw [← l1.length, ← l2.length]; exact lim_le hl
      · refine ⟨fun z => ?_, fun _ z => ?_, fun _ _ => q.tup e ll⟩
        · subst z
          have h0 : a = [] := by have := l1.length; simpa using this
          subst h0
          exact q.flat e ⟨p2, ys, rfl, h2', l2⟩
        · subst z
          have h0 : b = [] := by have := l2.length; simpa using this
          subst h0
          exact q.flat e ⟨p1, xs, rfl, h1', by simpa using l1⟩
    · cases hf
  · cases hf

theorem op_i0 {g : Int → Int → V} {gd : Int → Int → D} {f : D → D → Option D} (hf : ∀ a b d, f a b = some d → ∃ i j, a = .int i ∧ b = .int j ∧ d = gd i j) (hg : ∀ (P H : Hp) i j, Rep c P H (gd i j) (g i j) fz) : Op2 c (rI0 g) f := by
  intro P H e da db d x y U1 U2 h r1 r2 Q q
  obtain ⟨i, j, rfl, rfl, rfl⟩ := hf _ _ _ h
  exact ⟨i, j, r1.1, r2.1, q.flat e (hg P H i j)⟩
theorem op_i {C : Int → Int → Prop} {g : Int → Int → V} {gd : Int → Int → D} {f : D → D → Option D} (hf : ∀ a b d, f a b = some d → ∃ i j, a = .int i ∧ b = .int j ∧ d = gd i j ∧ C i j) (hg : ∀ (P H : Hp) i j, Rep c P H (gd i j) (g i j) fz) : Op2 c (rI C g) f := by
  intro P H e da db d x y U1 U2 h r1 r2 Q q
  obtain ⟨i, j, rfl, rfl, rfl, hc⟩ := hf _ _ _ h
  exact ⟨i, j, r1.1, r2.1, hc, q.flat e (hg P H i j)⟩
def subD : D → D → Option D
  | .int a, .int b => some (.int (a - b))
  | _, _ => none
theorem op_subD : Op2 c (rI0 fun i j => .int (i - j)) subD := op_i0 (gd := fun i j => .int (i - j)) (fun a b d h => by
  unfold subD at h; split at h
  · cases h; exact ⟨_, _, rfl, rfl, rfl⟩
  · cases h) fun _ _ _ _ => ⟨rfl, rfl⟩
def fdivD : D → D → Option D
  | .int a, .int b => if 0 < b ∧ b.natAbs.log2 < 9000 then some (.int (a / b)) else none
  | _, _ => none
theorem op_fdivD : Op2 c (rI CDivW fun i j => .int (i / j)) fdivD := op_i (gd := fun i j => .int (i / j)) (fun a b d h => by
  unfold fdivD at h; split at h
  · split at h
    · cases h; exact ⟨_, _, rfl, rfl, rfl, by assumption⟩
    · cases h
  · cases h) fun _ _ _ _ => ⟨rfl, rfl⟩
def modD : D → D → Option D
  | .int a, .int b => if 0 < b then some (.int (a % b)) else none
  | _, _ => none
theorem op_modD : Op2 c (rI (fun _ j => 0 < j) fun i j => .int (i % j)) modD := op_i (gd := fun i j => .int (i % j)) (fun a b d h => by
  unfold modD at h; split at h
  · split at h
    · cases h; exact ⟨_, _, rfl, rfl, rfl, by assumption⟩
    · cases h
  · cases h) fun _ _ _ _ => ⟨rfl, rfl⟩
def powD : D → D → Option D
  | .int a, .int b => if 0 ≤ b ∧ b ≤ 1000000 ∧ a.natAbs < 2 ^ 64 then some (.int (a ^ b.toNat)) else none
  | _, _ => none
theorem op_powD : Op2 c (rI CPow fun i j => .int (i ^ j.toNat)) powD := op_i (gd := fun i j => .int (i ^ j.toNat)) (fun a b d h => by
  unfold powD at h; split at h
  · split at h
    · cases h; exact ⟨_, _, rfl, rfl, rfl, by assumption⟩
    · cases h
  · cases h) fun _ _ _ _ => ⟨rfl, rfl⟩

def mulD : D → D → Option D
  | .int a, .int b => if (-(2 ^ 64) < a ∧ a < 2 ^ 64) ∨ (-(2 ^ 64) < b ∧ b < 2 ^ 64) then some (.int (a * b)) else none
  | .lst _ a, .int k => if frzL a = true ∧ k ≤ 1000000 ∧ -1000000 ≤ k ∧ a.length * k.toNat ≤ LIM then some (.lst true (List.replicate k.toNat a).flatten) else none
  | .str a, .int k => if k ≤ 1000000 ∧ -1000000 ≤ k ∧ a.length * k.toNat ≤ LIM then some (.str (List.replicate k.toNat a).flatten) else none
  | _, _ => none
def rRepS : R2 := fun x y H Q => ∃ z k, x = .str z ∧ y = .int k ∧ MulOk z k ∧ Q (.str (Txt.mul z k)) H
theorem op_repS : OpR X (binaryOp .Mult) rRepS := by
  intro pins s σ H x y v u Q I rx ry h
  obtain ⟨z, k, rfl, rfl, hk, q⟩ := h
  obtain ⟨t, rfl⟩ := rx
  obtain ⟨t', rfl⟩ := ry
  exact PySem.SB.mul hk fun t' k => ⟨.str _, H, I.tok _, ⟨_, rfl⟩, q⟩
def rMulA : R2 := fun x y H Q => rI CMul (fun i j => .int (i * j)) x y H Q ∨ rRep x y H Q ∨ rRepS x y H Q
theorem opr_mul : OpR X (binaryOp .Mult) rMulA := OpR_or op_mul (OpR_or op_rep op_repS)
theorem foldl_app (a : Array Nat) : ∀ (n : Nat) (b : Array Nat), (List.replicate n a).foldl (· ++ ·) b = (b.toList ++ (List.replicate n a.toList).flatten).toArray
  | 0, b => by simp
  | n + 1, b => by
    rw [List.replicate_succ, List.foldl_cons, foldl_app a n]
    simp [List.replicate_succ]
theorem str_mul {a : List Nat} {k : Int} (h1 : k ≤ 1000000) (h2 : -1000000 ≤ k) (h3 : a.length * k.toNat ≤ LIM) : MulOk ⟨a.toArray⟩ k ∧ Txt.mul ⟨a.toArray⟩ k = ⟨(List.replicate k.toNat a).flatten.toArray⟩ := by
  refine ⟨⟨?_, fun n1 n2 => ?_, fun n1 n2 => ?_⟩, ?_⟩
  · rw [Bool.or_eq_false_iff, decide_eq_false_iff_not, decide_eq_false_iff_not]; omega
  · rw [str_len]
    have h4 : (a.length : Int) * k ≤ 2 ^ 63 - 1 := by
      have e1 : (k.toNat : Int) = k := by omega
      have e2 : ((a.length * k.toNat : Nat) : Int) = (a.length : Int) * k := by rw [Int.natCast_mul, e1]
      unfold LIM at h3
      omega
    have := Int.le_ediv_of_mul_le (by omega) h4
    omega
  · rw [str_len]
    have := lim_le h3
    unfold Builtin.Str.tooLong
    simp; omega
  · unfold Txt.mul
    by_cases n1 : k < 1
    · rw [if_pos n1, show k.toNat = 0 by omega]; rfl
    · rw [if_neg n1]
      by_cases n2 : (k == 1 || (⟨a.toArray⟩ : Str).length == 0) = true
      · rw [if_pos n2]
        rw [str_len] at n2
        simp only [Bool.or_eq_true, beq_iff_eq] at n2
        rcases n2 with n2 | n2
        · subst n2; simp
        · have : a = [] := List.length_eq_zero_iff.mp n2
          subst this; simp
      · rw [if_neg n2, foldl_app]; simp
theorem op_mulD : Op2 c rMulA mulD := by
  intro P H e da db d x y U1 U2 hf r1 r2 Q q
  unfold mulD at hf
  split at hf
  · rename_i a b
    split at hf
    · rename_i hc
      cases hf
      exact .inl ⟨a, b, r1.1, r2.1, hc, q.flat e ⟨rfl, rfl⟩⟩
    · cases hf
  · rename_i o a k
    split at hf
    · rename_i hl
      obtain ⟨hz, h1, h2, h3⟩ := hl
      cases hf
      obtain ⟨p1, xs, rfl, hh, l1⟩ := lst_heap0 e r1 hz
      refine .inr (.inl ⟨p1, k, xs, rfl, r2.1, hh, by omega, by omega, ?_, q.lst e (l1.rep _)⟩)
      rw [← l1.length]; exact lim_le h3
    · cases hf
  · rename_i a k
    split at hf
    · rename_i hl
      obtain ⟨h1, h2, h3⟩ := hl
      cases hf
      obtain ⟨m1, m2⟩ := str_mul h1 h2 h3
      exact .inr (.inr ⟨_, k, r1.1, r2.1, m1, by rw [m2]; exact q.flat e ⟨rfl, rfl⟩⟩)
    · cases hf
  · cases hf

def cmpD (fi : Int → Int → Bool) (fs : List Nat → List Nat → Bool) : D → D → Option D
  | .int a, .int b => some (.bl (fi a b))
  | .str a, .str b => some (.bl (fs a b))
  | _, _ => none
theorem op_cmpD {fi : Int → Int → Bool} {fs : List Nat → List Nat → Bool} : Op2 c (fun x y H Q => rI0 (fun i j => .bl (fi i j)) x y H Q ∨ ∃ i j, x = .str i ∧ y = .str j ∧ Q (.bl (fs i.cps.toList j.cps.toList)) H) (cmpD fi fs) := by
  intro P H e da db d x y U1 U2 hf r1 r2 Q q
  unfold cmpD at hf
  split at hf
  · cases hf
    exact .inl ⟨_, _, r1.1, r2.1, q.flat e ⟨rfl, rfl⟩⟩
  · rename_i a b
    cases hf
    exact .inr ⟨_, _, r1.1, r2.1, q.flat e ⟨by simp, rfl⟩⟩
  · cases hf
def ltD : D → D → Option D := cmpD (fun i j => decide (i < j)) fun i j => decide (i < j)
def leD : D → D → Option D := cmpD (fun i j => decide (i ≤ j)) fun i j => !decide (j < i)
def gtD : D → D → Option D := cmpD (fun i j => decide (j < i)) fun i j => decide (j < i)
def geD : D → D → Option D := cmpD (fun i j => decide (j ≤ i)) fun i j => !decide (i < j)
theorem opr_lt : OpR X (compareOp .Lt) (fun x y H Q => rI0 (fun i j => .bl (decide (i < j))) x y H Q ∨ ∃ i j, x = .str i ∧ y = .str j ∧ Q (.bl (decide (i.cps.toList < j.cps.toList))) H) := OpR_or op_lt op_lt_str
theorem opr_gt : OpR X (compareOp .Gt) (fun x y H Q => rI0 (fun i j => .bl (decide (j < i))) x y H Q ∨ ∃ i j, x = .str i ∧ y = .str j ∧ Q (.bl (decide (j.cps.toList < i.cps.toList))) H) := OpR_or op_gt op_gt_str
theorem opr_ge : OpR X (compareOp .GtE) (fun x y H Q => rI0 (fun i j => .bl (decide (j ≤ i))) x y H Q ∨ ∃ i j, x = .str i ∧ y = .str j ∧ Q (.bl (!decide (i.cps.toList < j.cps.toList))) H) := OpR_or op_ge op_ge_str

def keyP : Key → PyData
  | .inl i => .int i
  | .inr s => .str s
mutual
def toP : D → Option PyData
  | .non => some .none
  | .bl b => some (.bool b)
  | .int i => some (.int i)
  | .str s => some (.str ⟨s.toArray⟩)
  | .scr ns => some (.list (ns.map .int))
  | .kst ss => some (.tuple (ss.map fun s => .str ⟨s.toArray⟩))
  | .key ks => some (.tuple (ks.map keyP))
  | .tup ds => (toPL ds).map .tuple
  | .lst _ ds => (toPL ds).map .list
  | _ => none
def toPL : List D → Option (List PyData)
  | [] => some []
  | d :: ds => (toP d).bind fun p => (toPL ds).map fun ps => p :: ps
end
theorem dp_scr {K : PySem.W.Frag} {H : Hp} : ∀ ns : List Int, DpAll K H (ns.map V.int) (ns.map PyData.int)
  | [] => .nil
  | n :: ns => .cons (.int n) (dp_scr ns)
theorem dp_kst {K : PySem.W.Frag} {H : Hp} : ∀ ss : List (List Nat), DpAll K H (ss.map fun s => V.str ⟨s.toArray⟩) (ss.map fun s => PyData.str ⟨s.toArray⟩)
  | [] => .nil
  | s :: ss => .cons (.str _) (dp_kst ss)
theorem dp_key {K : PySem.W.Frag} {H : Hp} : ∀ ks : List Key, DpAll K H (ks.map kV) (ks.map keyP)
  | [] => .nil
  | .inl i :: ks => .cons (.int i) (dp_key ks)
  | .inr s :: ks => .cons (.str s) (dp_key ks)
mutual
theorem dp_of {P H : Hp} (e : Ex P H) : ∀ (d : D) (v : V) (U : FP) (p : PyData), toP d = some p → Rep c P H d v U → Dp c.K H v p
  | .non, v, U, p, h, r => by cases h; rw [r.1]; exact .non
  | .bl b, v, U, p, h, r => by cases h; rw [r.1]; exact .bl b
  | .int b, v, U, p, h, r => by cases h; rw [r.1]; exact .int b
  | .str b, v, U, p, h, r => by cases h; rw [r.1]; exact .str _
  | .scr ns, v, U, p, h, ⟨a, e1, q, _⟩ => by cases h; rw [e1]; exact .lst (sql_mono e q) (dp_scr ns)
  | .kst ss, v, U, p, h, ⟨a, e1, q, _⟩ => by cases h; rw [e1]; exact .tup (sqt_mono e q) (dp_kst ss)
  | .key ks, v, U, p, h, ⟨a, e1, q, _⟩ => by cases h; rw [e1]; exact .tup (.inl (.inl (e _ _ q))) (dp_key ks)
  | .tup ds, v, U, p, h, ⟨a, xs, e1, q, r⟩ => by
    unfold toP at h
    cases z : toPL ds with
    | none => rw [z] at h; cases h
    | some ps => rw [z] at h; cases h; rw [e1]; exact .tup (sqt_mono e q) (dp_all e ds xs U ps z r)
  | .lst true ds, v, U, p, h, ⟨a, xs, T, e1, q, r, _⟩ => by
    unfold toP at h
    cases z : toPL ds with
    | none => rw [z] at h; cases h
    | some ps => rw [z] at h; cases h; rw [e1]; exact .lst (.inl (.inl q)) (dp_all e ds xs T ps z r)
  | .lst false ds, v, U, p, h, ⟨a, xs, e1, q, r⟩ => by
    unfold toP at h
    cases z : toPL ds with
    | none => rw [z] at h; cases h
    | some ps => rw [z] at h; cases h; rw [e1]; exact .lst (.inl (.inl (e _ _ q))) (dp_all e ds xs U ps z r)
  | .gone, _, _, _, h, _ => by cases h
  | .dK .., _, _, _, h, _ => by cases h
  | .dT .., _, _, _, h, _ => by cases h
  | .dN .., _, _, _, h, _ => by cases h
  | .obj .., _, _, _, h, _ => by cases h
theorem dp_all {P H : Hp} (e : Ex P H) : ∀ (ds : List D) (vs : List V) (U : FP) (ps : List PyData), toPL ds = some ps → RepL c P H ds vs U → DpAll c.K H vs ps
  | [], vs, U, ps, h, r => by cases h; rw [r.1]; exact .nil
  | d :: ds, vs, U, ps, h, ⟨y, ys, T, T2, e1, r, rs, _⟩ => by
    unfold toPL at h
    cases z : toP d with
    | none => rw [z] at h; cases h
    | some q =>
      cases z2 : toPL ds with
      | none => rw [z, z2] at h; cases h
      | some qs => rw [z, z2] at h; cases h; rw [e1]; exact .cons (dp_of e d y T q z r) (dp_all e ds ys T2 qs z2 rs)
end
def eqB (a b : D) : Option Bool := (toP a).bind fun p => (toP b).bind fun q => if SeqAt.shaped p = true ∧ SeqAt.shaped q = true then some (PyData.eqv p q) else none
def eqD (a b : D) : Option D := (eqB a b).map .bl
def neD (a b : D) : Option D := (eqB a b).map fun k => .bl (!k)
theorem eqB_dp {P H : Hp} (e : Ex P H) {a b : D} {x y : V} {U1 U2 : FP} {k : Bool} (h : eqB a b = some k) (r1 : Rep c P H a x U1) (r2 : Rep c P H b y U2) :
    ∃ p q, Dp c.K H x p ∧ Dp c.K H y q ∧ SeqAt.shaped p = true ∧ SeqAt.shaped q = true ∧ PyData.eqv p q = k := by
  unfold eqB at h
  cases z1 : toP a with
  | none => rw [z1] at h; cases h
  | some p =>
    cases z2 : toP b with
    | none => rw [z1, z2] at h; cases h
    | some q =>
      rw [z1, z2] at h
      simp only [Option.bind_some] at h
      split at h
      · rename_i hs
        cases h
        exact ⟨p, q, dp_of e _ _ _ _ z1 r1, dp_of e _ _ _ _ z2 r2, hs.1, hs.2, rfl⟩
      · cases h
theorem op_eqqD : Op2 c (rEqD c.K) eqD := by
  intro P H e da db d x y U1 U2 hf r1 r2 Q q
  unfold eqD at hf
  cases z : eqB da db with
  | none => rw [z] at hf; cases hf
  | some k =>
    rw [z] at hf; cases hf
    obtain ⟨p, p2, d1, d2, s1, s2, rfl⟩ := eqB_dp e z r1 r2
    exact ⟨p, p2, d1, d2, s1, s2, q.flat e ⟨rfl, rfl⟩⟩
theorem op_neqD : Op2 c (rNeD c.K) neD := by
  intro P H e da db d x y U1 U2 hf r1 r2 Q q
  unfold neD at hf
  cases z : eqB da db with
  | none => rw [z] at hf; cases hf
  | some k =>
    rw [z] at hf; cases hf
    obtain ⟨p, p2, d1, d2, s1, s2, rfl⟩ := eqB_dp e z r1 r2
    exact ⟨p, p2, d1, d2, s1, s2, q.flat e ⟨rfl, rfl⟩⟩

def isNo : D → Option Bool
  | .non => some true
  | .gone => none
  | _ => some false
def isD : D → D → Option D
  | a, .non => (isNo a).map .bl
  | .bl a, .bl b => some (.bl (a == b))
  | _, _ => none
def nisD : D → D → Option D
  | a, .non => (isNo a).map fun k => .bl (!k)
  | .bl a, .bl b => some (.bl (!(a == b)))
  | _, _ => none
theorem isNo_v {P H : Hp} : ∀ {a : D} {x : V} {U : FP} {k : Bool}, isNo a = some k → Rep c P H a x U → decide (x = .non) = k
  | .non, x, U, k, h, r => by cases h; rw [r.1]; rfl
  | .bl _, x, U, k, h, r => by cases h; rw [r.1]; rfl
  | .int _, x, U, k, h, r => by cases h; rw [r.1]; rfl
  | .str _, x, U, k, h, r => by cases h; rw [r.1]; rfl
  | .scr _, x, U, k, h, ⟨_, e, _⟩ => by cases h; rw [e]; rfl
  | .kst _, x, U, k, h, ⟨_, e, _⟩ => by cases h; rw [e]; rfl
  | .key _, x, U, k, h, ⟨_, e, _⟩ => by cases h; rw [e]; rfl
  | .tup _, x, U, k, h, ⟨_, _, e, _⟩ => by cases h; rw [e]; rfl
  | .lst true _, x, U, k, h, ⟨_, _, _, e, _⟩ => by cases h; rw [e]; rfl
  | .lst false _, x, U, k, h, ⟨_, _, e, _⟩ => by cases h; rw [e]; rfl
  | .dK true _ _, x, U, k, h, ⟨_, _, _, e, _⟩ => by cases h; rw [e]; rfl
  | .dK false _ _, x, U, k, h, ⟨_, _, e, _⟩ => by cases h; rw [e]; rfl
  | .dT true _ _, x, U, k, h, ⟨_, _, _, e, _⟩ => by cases h; rw [e]; rfl
  | .dT false _ _, x, U, k, h, ⟨_, _, e, _⟩ => by cases h; rw [e]; rfl
  | .dN true _ _, x, U, k, h, ⟨_, _, _, _, e, _⟩ => by cases h; rw [e]; rfl
  | .dN false _ _, x, U, k, h, ⟨_, _, _, e, _⟩ => by cases h; rw [e]; rfl
  | .obj true _ _ _, x, U, k, h, ⟨_, _, _, _, e, _⟩ => by cases h; rw [e]; rfl
  | .obj false _ _ _, x, U, k, h, ⟨_, _, _, e, _⟩ => by cases h; rw [e]; rfl
theorem opr_is : OpR X (compareOp .Is) (fun x y H Q => (y = .non ∧ Q (.bl (decide (x = .non))) H) ∨ rIsB x y H Q) := OpR_or op_isN op_isBl
theorem opr_nis : OpR X (compareOp .IsNot) (fun x y H Q => (y = .non ∧ Q (.bl (!decide (x = .non))) H) ∨ rNotB x y H Q) := OpR_or op_notN op_notBl
theorem op_isD : Op2 c (fun x y H Q => (y = .non ∧ Q (.bl (decide (x = .non))) H) ∨ rIsB x y H Q) isD := by
  intro P H e da db d x y U1 U2 hf r1 r2 Q q
  unfold isD at hf
  split at hf
  · cases z : isNo da with
    | none => rw [z] at hf; cases hf
    | some k =>
      rw [z] at hf; cases hf
      exact .inl ⟨r2.1, by rw [isNo_v z r1]; exact q.flat e ⟨rfl, rfl⟩⟩
  · cases hf
    exact .inr ⟨_, _, r1.1, r2.1, q.flat e ⟨by congr 1, rfl⟩⟩
  · cases hf
theorem op_nisD : Op2 c (fun x y H Q => (y = .non ∧ Q (.bl (!decide (x = .non))) H) ∨ rNotB x y H Q) nisD := by
  intro P H e da db d x y U1 U2 hf r1 r2 Q q
  unfold nisD at hf
  split at hf
  · cases z : isNo da with
    | none => rw [z] at hf; cases hf
    | some k =>
      rw [z] at hf; cases hf
      exact .inl ⟨r2.1, by rw [isNo_v z r1]; exact q.flat e ⟨rfl, rfl⟩⟩
  · cases hf
    exact .inr ⟨_, _, r1.1, r2.1, q.flat e ⟨by congr 1, rfl⟩⟩
  · cases hf
end
end LI

namespace LI
open PySem L2

theorem RepE.get {c : LC} {P H : Hp} : ∀ {ρ : List D} {σ : St} {S : FP} {i : Nat} {d : D}, RepE c P H ρ σ S → ρ[i]? = some d → ∃ ov T, σ[i]? = some ov ∧ RepO c P H d ov T ∧ ∀ a, T a ≤ S a
  | [], [], _, i, d, _, e => by simp at e
  | d0 :: ds, v0 :: σ, S, 0, d, ⟨T, U, r, rs, f⟩, e => by
    simp at e; subst e
    exact ⟨v0, T, rfl, r, fun a => by rw [f]; simp only [fa]; omega⟩
  | d0 :: ds, v0 :: σ, S, i + 1, d, ⟨T, U, r, rs, f⟩, e => by
    obtain ⟨ov, T2, h1, h2, h3⟩ := RepE.get (i := i) (d := d) rs (by simpa using e)
    exact ⟨ov, T2, by simpa using h1, h2, fun a => by have := h3 a; rw [f]; simp only [fa]; omega⟩
  | [], _ :: _, _, _, _, h, _ => h.elim
  | _ :: _, [], _, _, _, h, _ => h.elim
def notGone : D → Bool
  | .gone => false
  | _ => true
def vM (i : Nat) : RM := fun ρ => (ρ[i]?).bind fun d => if notGone d = true then some d else none
section
variable {X : Cx} {cl : Nat → Addr} {E : En} {e a b : Expr} {pos : Pos} {m ma mb : RM}
theorem tvar_run {c : LC} {i : Nat} {σ : St} {H : Hp} {Q : VK} (h : tR c E (vM i) σ H Q) : tVar i σ H Q := by
  obtain ⟨P, S, T, ρ, d, w, hm, q⟩ := h
  unfold vM at hm
  cases e : ρ[i]? with
  | none => rw [e] at hm; cases hm
  | some d1 =>
    rw [e] at hm
    simp only [Option.bind_some] at hm
    split at hm
    · rename_i hn
      cases hm
      obtain ⟨ov, T2, h1, h2, _⟩ := w.env.get e
      cases ov with
      | none => rw [h2.1] at hn; cases hn
      | some v => exact ⟨v, h1, q v H P T2 (.refl w.ph) h2⟩
    · cases hm
theorem r_v (i : Nat) {x : Str} (hN : X.N[i]? = some x := by rfl) (hv : Vis X.env.scope x := by first | exact Or.inl rfl | exact Or.inr (Or.inl rfl) | exact Or.inr (Or.inr rfl)) (hd : (x == ("__debug__" : Str)) = false := by decide)
    (hcd : (x == ("__classdict__" : Str)) = false := by decide) : PE X (.Name x pos) (tR ⟨X.K, cl, X.w⟩ E (vM i)) := PE_imp (pe_var hN hv hd hcd) fun _ _ _ h => tvar_run h

def kM (d : D) : RM := fun _ => some d
theorem tc_run {c : LC} {d : D} {v : V} (hr : ∀ P H, Ex P H → Rep c P H d v fz) {σ : St} {H : Hp} {Q : VK} (h : tF c E (kM d) σ H Q) : tC v σ H Q := by
  obtain ⟨P, S, T, ρ, d1, w, hm, q⟩ := h
  cases hm
  exact q.flat w.ph (hr P H w.ph)
theorem f_int {i : Int} {j} : PE X (.Constant (.int i) j pos) (tF ⟨X.K, cl, X.w⟩ E (kM (.int i))) := PE_imp pe_int fun _ _ _ h => tc_run (c := ⟨X.K, cl, X.w⟩) (d := .int i) (v := .int i) (fun _ _ _ => ⟨rfl, rfl⟩) h
theorem f_bl {k : Bool} {j} : PE X (.Constant (.bool k) j pos) (tF ⟨X.K, cl, X.w⟩ E (kM (.bl k))) := PE_imp pe_bl fun _ _ _ h => tc_run (c := ⟨X.K, cl, X.w⟩) (d := .bl k) (v := .bl k) (fun _ _ _ => ⟨rfl, rfl⟩) h
theorem f_non {j} : PE X (.Constant .none j pos) (tF ⟨X.K, cl, X.w⟩ E (kM .non)) := PE_imp pe_non fun _ _ _ h => tc_run (c := ⟨X.K, cl, X.w⟩) (d := .non) (v := .non) (fun _ _ _ => ⟨rfl, rfl⟩) h
theorem f_str {x : Str} {j} (s : List Nat) (hs : x = ⟨s.toArray⟩ := by rfl) : PE X (.Constant (.str x) j pos) (tF ⟨X.K, cl, X.w⟩ E (kM (.str s))) := PE_imp pe_str fun _ _ _ h => tc_run (c := ⟨X.K, cl, X.w⟩) (d := .str s) (v := .str x) (fun _ _ _ => ⟨by rw [hs], rfl⟩) h
def negD : D → Option D
  | .int a => some (.int (-a))
  | _ => none
theorem f_neg (ha : PE X a (tR ⟨X.K, cl, X.w⟩ E ma)) : PE X (.UnaryOp .USub a pos) (tF ⟨X.K, cl, X.w⟩ E (m1 negD ma)) := PE_imp (pe_un un_neg ha) fun σ H Q ⟨P, S, T, ρ, d, w, hm, q⟩ => by
  unfold m1 at hm
  cases ea : ma ρ with
  | none => rw [ea] at hm; cases hm
  | some da =>
    rw [ea] at hm
    cases da with
    | int i =>
      cases hm
      refine ⟨P, S, T, ρ, .int i, w, ea, fun v H' P' U g r => ⟨i, r.1, ?_⟩⟩
      exact q _ H' P' fz g ⟨rfl, rfl⟩ (fun _ => Nat.zero_le _) fun a z => by simp [fz] at z
    | _ => cases hm

abbrev AM := List D → Option (List D)
def tAR (c : LC) (E : En) (m : AM) : TA := fun σ H Q => ∃ P S T ρ ds, Wd c E P S T σ H ρ ∧ m ρ = some ds ∧ ∀ vs H' P' U, Gr P H P' H' → RepL c P' H' ds vs U → Q vs H'
def nilM : AM := fun _ => some []
def consM (m : RM) (ms : AM) : AM := fun ρ => (m ρ).bind fun d => (ms ρ).map fun ds => d :: ds
theorem a_nil : PA X [] (tAR ⟨X.K, cl, X.w⟩ E nilM) := PA_imp pa_nil fun σ H Q ⟨P, S, T, ρ, ds, w, hm, q⟩ => by
  cases hm
  exact q [] H P fz (.refl w.ph) ⟨rfl, rfl⟩
theorem a_cons {es : List Expr} {ms : AM} (h : PE X e (tR ⟨X.K, cl, X.w⟩ E m)) (hr : PA X es (tAR ⟨X.K, cl, X.w⟩ E ms)) (hs : starEach (e :: es) X.env = (false, eval e X.env) :: starEach es X.env := by rfl) : PA X (e :: es) (tAR ⟨X.K, cl, X.w⟩ E (consM m ms)) :=
  PA_imp (pa_cons h hr hs) fun σ H Q ⟨P, S, T, ρ, ds, w, hm, q⟩ => by
    unfold consM at hm
    cases e1 : m ρ with
    | none => rw [e1] at hm; cases hm
    | some d =>
      cases e2 : ms ρ with
      | none => rw [e1, e2] at hm; cases hm
      | some ds' =>
        rw [e1, e2] at hm
        cases hm
        exact ⟨P, S, T, ρ, d, w, e1, fun v H1 P1 U1 g1 r1 => ⟨P1, S, T, ρ, ds', w.grow g1, e2, fun vs H2 P2 U2 g2 r2 => q (v :: vs) H2 P2 (fa U1 U2) (g1.trans g2) ⟨v, vs, U1, U2, rfl, r1.gr g2, r2, rfl⟩⟩⟩
def tupM (ms : AM) : RM := fun ρ => (ms ρ).bind fun ds => if frzL ds = true ∧ ds.length ≤ LIM then some (.tup ds) else none
def lstM (ms : AM) : RM := fun ρ => (ms ρ).bind fun ds => if frzL ds = true ∧ ds.length ≤ LIM then some (.lst true ds) else none
theorem f_tup {es : List Expr} {ms : AM} {x1} (h : PA X es (tAR ⟨X.K, cl, X.w⟩ E ms)) : PE X (.Tuple es x1 pos) (tF ⟨X.K, cl, X.w⟩ E (tupM ms)) := PE_imp (pe_tup h) fun σ H Q ⟨P, S, T, ρ, d, w, hm, q⟩ => by
  unfold tupM at hm
  cases e1 : ms ρ with
  | none => rw [e1] at hm; cases hm
  | some ds =>
    rw [e1] at hm
    simp only [Option.bind_some] at hm
    split at hm
    · rename_i hf
      cases hm
      refine ⟨P, S, T, ρ, ds, w, e1, fun vs H' P' U g r => ⟨by rw [← r.length]; exact lim_le hf.2, ?_⟩⟩
      have z := RepL.frz0 ds vs U hf.1 r
      subst z
      exact (q.grow g).tup g.ph r
    · cases hm
theorem f_lst {es : List Expr} {ms : AM} (h : PA X es (tAR ⟨X.K, cl, X.w⟩ E ms)) : PE X (.List es pos) (tF ⟨X.K, cl, X.w⟩ E (lstM ms)) := PE_imp (pe_lst h) fun σ H Q ⟨P, S, T, ρ, d, w, hm, q⟩ => by
  unfold lstM at hm
  cases e1 : ms ρ with
  | none => rw [e1] at hm; cases hm
  | some ds =>
    rw [e1] at hm
    simp only [Option.bind_some] at hm
    split at hm
    · rename_i hf
      cases hm
      refine ⟨P, S, T, ρ, ds, w, e1, fun vs H' P' U g r => ⟨by rw [← r.length]; exact lim_le hf.2, ?_⟩⟩
      have z := RepL.frz0 ds vs U hf.1 r
      subst z
      exact (q.grow g).lst g.ph r
    · cases hm

def keyD : D → Option Key
  | .int i => some (.inl i)
  | .str s => some (.inr ⟨s.toArray⟩)
  | _ => none
def keyDs : List D → Option (List Key)
  | [] => some []
  | d :: ds => (keyD d).bind fun k => (keyDs ds).map fun ks => k :: ks
theorem keyD_v {c : LC} {P H : Hp} {d : D} {v : V} {U : FP} {k : Key} (h : keyD d = some k) (r : Rep c P H d v U) : v = kV k := by
  unfold keyD at h
  split at h
  · cases h; exact r.1
  · cases h; exact r.1
  · cases h
def under {κ : Type} [DecidableEq κ] : List κ → List D → κ → Option D
  | k :: ks, d :: ds, x => if k = x then some d else under ks ds x
  | _, _, _ => none
def ixD : D → D → Option D
  | .lst _ ds, .int i => atI ds i
  | .tup ds, .int i => atI ds i
  | .scr ns, .int i => (atI ns i).map .int
  | .str s, .int i => if s.length ≤ LIM then (atI s i).map fun k => .str [k] else none
  | .dK _ ks ds, k => (keyD k).bind fun k => under ks ds k
  | _, _ => none
theorem atI_rep {c : LC} {P H : Hp} {ds : List D} {xs : List V} {S : FP} {i : Int} {d : D} (r : RepL c P H ds xs S) (h : atI ds i = some d) : ∃ x T, atI xs i = some x ∧ Rep c P H d x T ∧ ∀ a, T a ≤ S a := by
  unfold atI at h ⊢
  rw [← r.length]
  cases e : ixN ds.length i with
  | none => rw [e] at h; cases h
  | some j => rw [e] at h; exact r.get h
theorem atI_map {α β : Type} (f : α → β) (xs : List α) (i : Int) : atI (xs.map f) i = (atI xs i).map f := by
  unfold atI
  rw [List.length_map]
  cases ixN xs.length i with
  | none => rfl
  | some j => simp
end
theorem under_rep {c : LC} {P H : Hp} {κ : Type} [DecidableEq κ] : ∀ {ks : List κ} {ds : List D} {xs : List V} {S : FP} {k : κ} {d : D}, RepL c P H ds xs S → ks.length = xs.length → under ks ds k = some d → ∃ x T, (ks.zip xs).find? (fun p => decide (p.1 = k)) = some (k, x) ∧ Rep c P H d x T ∧ ∀ a, T a ≤ S a
  | [], ds, xs, S, k, d, r, n, h => by simp [under] at h
  | k0 :: ks, [], xs, S, k, d, r, n, h => by simp [under] at h
  | k0 :: ks, d0 :: ds, xs, S, k, d, ⟨y, ys, T, T2, e1, r, rs, f⟩, n, h => by
    subst e1
    unfold under at h
    by_cases q : k0 = k
    · rw [if_pos q] at h
      cases h
      exact ⟨y, T, by simp [q], r, fun a => by rw [f]; simp only [fa]; omega⟩
    · rw [if_neg q] at h
      obtain ⟨x, T3, h1, h2, h3⟩ := under_rep rs (by simpa using n) h
      exact ⟨x, T3, by simp [q, h1], h2, fun a => by have := h3 a; rw [f]; simp only [fa]; omega⟩
end LI

namespace LI
open PySem L2

theorem PE_or {X : Cx} {e : Expr} {t u : TE} (h : PE X e t) (k : PE X e u) : PE X e (fun σ H Q => t σ H Q ∨ u σ H Q) := ⟨fun pins s σ H Q I q => q.elim (h.run pins s σ H Q I) (k.run pins s σ H Q I)⟩
theorem dict_under {c : LC} {P H : Hp} (e : Ex P H) {dt : D} {x y : V} {U1 U2 : FP} {dk : D} :
    (∀ o ks ds, dt = .dK o ks ds → ∀ k, keyD dk = some k → Rep c P H dt x U1 → Rep c P H dk y U2 → ∃ a xs, x = .ref a ∧ H a = some (.dK (ks.zip xs)) ∧ ks.length = xs.length ∧ y = kV k ∧ ∃ T, RepL c P H ds xs T) := by
  refine fun o ks ds hd k hk r1 r2 => ?_
  · subst hd
    cases o with
    | true => obtain ⟨a, xs, T, e1, h, n, rl, _⟩ := r1; exact ⟨a, xs, e1, h, n, keyD_v hk r2, T, rl⟩
    | false => obtain ⟨a, xs, e1, h, n, rl⟩ := r1; exact ⟨a, xs, e1, e _ _ h, n, keyD_v hk r2, U1, rl⟩
theorem under_val {c : LC} {P H : Hp} {κ : Type} [DecidableEq κ] {ks : List κ} {ds : List D} {xs : List V} {S : FP} {k : κ} {d : D} (r : RepL c P H ds xs S) (n : ks.length = xs.length) (h : under ks ds k = some d) : ∃ x T, valV (ks.zip xs) k = some x ∧ Rep c P H d x T := by
  obtain ⟨x, T, h1, h2, _⟩ := under_rep r n h
  exact ⟨x, T, by unfold valV; rw [h1]; rfl, h2⟩
theorem under_none {c : LC} {P H : Hp} {κ : Type} [DecidableEq κ] : ∀ {ks : List κ} {ds : List D} {xs : List V} {S : FP} {k : κ}, RepL c P H ds xs S → ks.length = xs.length → under ks ds k = none → valV (ks.zip xs) k = none
  | [], ds, xs, S, k, r, n, h => by simp [valV]
  | k0 :: ks, [], xs, S, k, r, n, h => by rw [r.1] at n; simp at n
  | k0 :: ks, d0 :: ds, xs, S, k, ⟨y, ys, T, T2, e1, r, rs, f⟩, n, h => by
    subst e1
    unfold under at h
    by_cases q : k0 = k
    · rw [if_pos q] at h; cases h
    · rw [if_neg q] at h
      have := under_none rs (by simpa using n) h
      rw [List.zip_cons_cons, valV_neg (by simpa using q)]
      exact this
section
variable {X : Cx} {cl : Nat → Addr} {E : En} {e a b : Expr} {pos : Pos} {m ma mb : RM}
theorem r_ix (hu : X.A.units + 64 < cLine) (ha : PE X a (tR ⟨X.K, cl, X.w⟩ E ma)) (hb : PE X b (tR ⟨X.K, cl, X.w⟩ E mb)) (hs : PlainIx b := by exact fun _ _ => rfl) : PE X (.Subscript a b pos) (tR ⟨X.K, cl, X.w⟩ E (m2 ixD ma mb)) := by
  refine PE_imp (PE_or (pe_ix ix_seq ha hb hs) (pe_dget (Nat.lt_of_le_of_lt (by omega) hu) ha hb hs)) fun σ H Q ⟨P, S, T, ρ, d, w, hm, q⟩ => ?_
  unfold m2 at hm
  cases ea : ma ρ with
  | none => rw [ea] at hm; cases hm
  | some da =>
    cases eb : mb ρ with
    | none => rw [ea, eb] at hm; cases hm
    | some db =>
      rw [ea, eb] at hm
      replace hm : ixD da db = some d := hm
      unfold ixD at hm
      split at hm
      · rename_i o ds i
        left
        refine ⟨P, S, T, ρ, .lst o ds, w, ea, fun x H1 P1 U1 g1 r1 => ⟨P1, S, T, ρ, .int i, w.grow g1, eb, fun y H2 P2 U2 g2 r2 => ?_⟩⟩
        obtain ⟨p, xs, T', e1, hh, rl, _⟩ := lst_heap g2.ph (r1.gr g2)
        obtain ⟨z, T2, h1, h2, _⟩ := atI_rep rl hm
        exact .inl ⟨p, xs, i, z, e1, r2.1, .inl (.inl hh), h1, q z H2 P2 T2 (g1.trans g2) h2⟩
      · rename_i ds i
        left
        refine ⟨P, S, T, ρ, .tup ds, w, ea, fun x H1 P1 U1 g1 r1 => ⟨P1, S, T, ρ, .int i, w.grow g1, eb, fun y H2 P2 U2 g2 r2 => ?_⟩⟩
        obtain ⟨p, xs, e1, hh, rl⟩ := r1.gr g2
        obtain ⟨z, T2, h1, h2, _⟩ := atI_rep rl hm
        exact .inr (.inl ⟨p, xs, i, z, e1, r2.1, sqt_mono g2.ph hh, h1, q z H2 P2 T2 (g1.trans g2) h2⟩)
      · rename_i ns i
        left
        refine ⟨P, S, T, ρ, .scr ns, w, ea, fun x H1 P1 U1 g1 r1 => ⟨P1, S, T, ρ, .int i, w.grow g1, eb, fun y H2 P2 U2 g2 r2 => ?_⟩⟩
        obtain ⟨p, e1, hh, _⟩ := r1.gr g2
        cases z : atI ns i with
        | none => rw [z] at hm; cases hm
        | some k =>
          rw [z] at hm; cases hm
          exact .inl ⟨p, _, i, .int k, e1, r2.1, sql_mono g2.ph hh, by rw [atI_map, z]; rfl, q _ H2 P2 fz (g1.trans g2) ⟨rfl, rfl⟩⟩
      · rename_i s i
        split at hm
        · rename_i hl
          left
          refine ⟨P, S, T, ρ, .str s, w, ea, fun x H1 P1 U1 g1 r1 => ⟨P1, S, T, ρ, .int i, w.grow g1, eb, fun y H2 P2 U2 g2 r2 => ?_⟩⟩
          cases z : atI s i with
          | none => rw [z] at hm; cases hm
          | some k =>
            rw [z] at hm; cases hm
            exact .inr (.inr ⟨⟨s.toArray⟩, i, k, r1.1, r2.1, by rw [str_len]; exact lim_le hl, by simpa using z, q _ H2 P2 fz (g1.trans g2) ⟨rfl, rfl⟩⟩)
        · cases hm
      · rename_i o ks ds
        right
        cases z : keyD db with
        | none => rw [z] at hm; cases hm
        | some k =>
          rw [z] at hm
          refine ⟨P, S, T, ρ, .dK o ks ds, w, ea, fun x H1 P1 U1 g1 r1 => ⟨P1, S, T, ρ, _, w.grow g1, eb, fun y H2 P2 U2 g2 r2 => ?_⟩⟩
          obtain ⟨p, xs, e1, hh, n, ey, T', rl⟩ := (dict_under g2.ph) o ks ds rfl k z (r1.gr g2) r2
          obtain ⟨v, T2, h1, h2⟩ := under_val rl n hm
          exact ⟨p, v, e1, .inl ⟨_, k, .inl hh, ey, h1.symm⟩, q v H2 P2 T2 (g1.trans g2) h2⟩
      · cases hm

def cutL {α : Type} (xs : List α) (lo hi : Option Int) : List α := (xs.drop (HT.sIx xs.length 0 lo)).take (HT.sIx xs.length xs.length hi - HT.sIx xs.length 0 lo)
def slD (lo hi : Option Int) : D → Option D
  | .lst _ ds => if frzL ds = true then some (.lst true (cutL ds lo hi)) else none
  | .tup ds => if frzL ds = true then some (.tup (cutL ds lo hi)) else none
  | .scr ns => some (.lst true ((cutL ns lo hi).map .int))
  | .str s => if s.length ≤ LIM then some (.str (cutL s lo hi)) else none
  | _ => none
abbrev OM := List D → Option (Option Int)
def noM : OM := fun _ => some none
def soM (m : RM) : OM := fun ρ => (m ρ).bind fun d => match d with | .int i => some (some i) | _ => none
def slM (m : RM) (lo hi : OM) : RM := fun ρ => (m ρ).bind fun d => (lo ρ).bind fun l => (hi ρ).bind fun h => slD l h d
def tOM (c : LC) (E : En) (m : OM) : TO := fun σ H Q => ∃ P S T ρ o, Wd c E P S T σ H ρ ∧ m ρ = some o ∧ ∀ H' P', Gr P H P' H' → Q o H'
theorem o_some (h : PE X e (tR ⟨X.K, cl, X.w⟩ E m)) : PO X (some e) (tOM ⟨X.K, cl, X.w⟩ E (soM m)) := ⟨fun pins s σ H Q I ⟨P, S, T, ρ, o, w, hm, q⟩ => by
  refine (po_some h).run pins s σ H Q I ?_
  unfold soM at hm
  cases ea : m ρ with
  | none => rw [ea] at hm; cases hm
  | some da =>
    rw [ea] at hm
    cases da with
    | int i =>
      cases hm
      exact ⟨P, S, T, ρ, .int i, w, ea, fun v H' P' U g r => ⟨i, r.1, q H' P' g⟩⟩
    | _ => cases hm⟩
theorem RepL.cut {c : LC} {P H : Hp} {ds : List D} {xs : List V} (r : RepL c P H ds xs fz) (lo hi : Option Int) : RepL c P H (cutL ds lo hi) (cutV xs lo hi) fz := by
  unfold cutL cutV
  rw [r.length]
  exact (r.drop _).take _
theorem cutL_map {α β : Type} (f : α → β) (xs : List α) (lo hi : Option Int) : cutL (xs.map f) lo hi = (cutL xs lo hi).map f := by
  unfold cutL
  rw [List.length_map, ← List.map_drop, ← List.map_take]
theorem repL_ints {c : LC} {P H : Hp} : ∀ ns : List Int, RepL c P H (ns.map .int) (ns.map .int) fz
  | [] => ⟨rfl, rfl⟩
  | n :: ns => ⟨.int n, _, fz, fz, rfl, ⟨rfl, rfl⟩, repL_ints ns, (fa_fz fz).symm⟩
theorem f_sl {lo hi : Option Expr} {ml mh : OM} {p2 : Pos} (ha : PE X a (tR ⟨X.K, cl, X.w⟩ E ma)) (hl : PO X lo (tOM ⟨X.K, cl, X.w⟩ E ml)) (hh : PO X hi (tOM ⟨X.K, cl, X.w⟩ E mh)) : PE X (.Subscript a (.Slice lo hi none p2) pos) (tF ⟨X.K, cl, X.w⟩ E (slM ma ml mh)) := by
  refine PE_imp (pe_slice (SlR.or sl_list (SlR.or sl_tupA sl_str)) ha hl hh) fun σ H Q ⟨P, S, T, ρ, d, w, hm, q⟩ => ?_
  unfold slM at hm
  cases ea : ma ρ with
  | none => rw [ea] at hm; cases hm
  | some da =>
    cases el : ml ρ with
    | none => rw [ea, el] at hm; cases hm
    | some l =>
      cases eh : mh ρ with
      | none => rw [ea, el, eh] at hm; cases hm
      | some h =>
        rw [ea, el, eh] at hm
        replace hm : slD l h da = some d := hm
        refine ⟨P, S, T, ρ, da, w, ea, fun x H1 P1 U1 g1 r1 => ⟨P1, S, T, ρ, l, w.grow g1, el, fun H2 P2 g2 => ⟨P2, S, T, ρ, h, (w.grow g1).grow g2, eh, fun H3 P3 g3 => ?_⟩⟩⟩
        have r3 := (r1.gr g2).gr g3
        have gg := (g1.trans g2).trans g3
        unfold slD at hm
        split at hm
        · rename_i o ds
          split at hm
          · rename_i hf
            cases hm
            obtain ⟨p, xs, e1, hh, rl⟩ := lst_heap0 g3.ph r3 hf
            exact .inl ⟨p, xs, e1, .inl (.inl hh), (q.grow gg).lst g3.ph (rl.cut l h)⟩
          · cases hm
        · rename_i ds
          split at hm
          · rename_i hf
            cases hm
            obtain ⟨p, xs, e1, hh, hp, rl⟩ := tup_heap0 g3.ph r3 hf
            refine .inr (.inl ⟨p, xs, e1, hh, fun z => ?_, fun _ => (q.grow gg).tup g3.ph (rl.cut l h)⟩)
            have e2 : cutL ds l h = ds := by
              unfold cutL
              rw [rl.length, z.1, z.2, List.drop_zero, Nat.sub_zero, ← rl.length, List.take_length]
            rw [e2] at q
            exact (q.grow gg).flat g3.ph ⟨p, xs, e1 ▸ rfl, hp, rl⟩
          · cases hm
        · rename_i ns
          cases hm
          obtain ⟨p, e1, hh, _⟩ := r3
          refine .inl ⟨p, _, e1, sql_mono g3.ph hh, ?_⟩
          have := (q.grow gg).lst (xs := (cutL ns l h).map .int) g3.ph (repL_ints _)
          have e2 : cutV (ns.map V.int) l h = (cutL ns l h).map .int := cutL_map V.int ns l h
          rw [e2]
          exact this
        · rename_i s
          split at hm
          · rename_i hl
            cases hm
            refine .inr (.inr ⟨⟨s.toArray⟩, r3.1, by rw [str_len]; exact lim_le hl, (q.grow gg).flat g3.ph ⟨?_, rfl⟩⟩)
            unfold cutS cutL
            rw [str_len]
          · cases hm
        · cases hm

def flatD : D → Bool
  | .non => true | .bl _ => true | .int _ => true | .str _ => true | _ => false
def eqF : D → D → Bool
  | .non, .non => true
  | .bl a, .bl b => a == b
  | .bl a, .int b => (if a then 1 else 0) == b
  | .int a, .bl b => a == (if b then 1 else 0)
  | .int a, .int b => a == b
  | .str a, .str b => a == b
  | _, _ => false
theorem str_beq (a b : List Nat) : ((⟨a.toArray⟩ : Str) == ⟨b.toArray⟩) = (a == b) := by
  rw [Bool.eq_iff_iff, beq_iff_eq, beq_iff_eq]
  exact ⟨fun h => by have := congrArg (fun z : Str => z.cps.toList) h; simpa using this, fun h => by rw [h]⟩
def inB : D → D → Option Bool
  | .str [k], .str z => some (decide (k ∈ z))
  | x, .lst _ ds => if flatD x = true ∧ ds.all flatD = true then some (ds.any fun y => eqF y x) else none
  | x, .tup ds => if flatD x = true ∧ ds.all flatD = true then some (ds.any fun y => eqF y x) else none
  | .str x, .kst ss => some (ss.any fun y => y == x)
  | x, .dK _ ks ds => (keyD x).map fun k => (under ks ds k).isSome
  | _, _ => none
def inD (x y : D) : Option D := (inB x y).map .bl
def ninD (x y : D) : Option D := (inB x y).map fun k => .bl (!k)
theorem m2_split {f : D → D → Option D} {ρ : List D} {d : D} (h : m2 f ma mb ρ = some d) : ∃ da db, ma ρ = some da ∧ mb ρ = some db ∧ f da db = some d := by
  unfold m2 at h
  cases ea : ma ρ with
  | none => rw [ea] at h; cases h
  | some da =>
    cases eb : mb ρ with
    | none => rw [ea, eb] at h; cases h
    | some db => rw [ea, eb] at h; exact ⟨da, db, rfl, rfl, h⟩
end
end LI

namespace LI
open PySem L2

section
variable {X : Cx} {cl : Nat → Addr} {E : En} {e a b : Expr} {pos : Pos} {m ma mb : RM}
def truD : D → Option Bool
  | .non => some false
  | .bl b => some b
  | .int i => some (i != 0)
  | .str s => if s.length ≤ LIM then some (!s.isEmpty) else none
  | .tup ds => some (!ds.isEmpty)
  | .lst _ ds => some (!ds.isEmpty)
  | .scr ns => some (!ns.isEmpty)
  | _ => none
def truM (m : RM) : BM := fun ρ => (m ρ).bind truD
theorem emp_eq {α β : Type} {xs : List α} {ys : List β} (h : xs.length = ys.length) : xs.isEmpty = ys.isEmpty := by
  cases xs <;> cases ys <;> first | rfl | (simp at h)
theorem truD_v {c : LC} {P H : Hp} (e : Ex P H) : ∀ {d : D} {v : V} {U : FP} {k : Bool}, truD d = some k → Rep c P H d v U → TruV c.K v H k
  | .non, v, U, k, h, r => by cases h; rw [r.1]; rfl
  | .bl b, v, U, k, h, r => by cases h; rw [r.1]; rfl
  | .int b, v, U, k, h, r => by cases h; rw [r.1]; rfl
  | .str s, v, U, k, h, r => by
    replace h : (if s.length ≤ LIM then some (!s.isEmpty) else none) = some k := h
    by_cases hl : s.length ≤ LIM
    · rw [if_pos hl] at h
      cases h
      rw [r.1]
      refine ⟨by rw [str_len]; exact lim_le hl, ?_⟩
      rw [str_len]
      cases s with
      | nil => rfl
      | cons x s =>
        have : ((x :: s).length : Int) ≠ 0 := by rw [List.length_cons]; omega
        simp [bne, this]
        omega
    · rw [if_neg hl] at h; cases h
  | .tup ds, v, U, k, h, ⟨a, xs, e1, hp, rl⟩ => by cases h; rw [e1]; exact .inr (.inl ⟨xs, sqt_mono e hp, by rw [emp_eq rl.length]⟩)
  | .lst o ds, v, U, k, h, r => by
    cases h
    obtain ⟨p, xs, T, e1, hh, rl, _⟩ := lst_heap e r
    rw [e1]
    exact .inl ⟨xs, .inl (.inl hh), by rw [emp_eq rl.length]⟩
  | .scr ns, v, U, k, h, ⟨a, e1, hp, _⟩ => by cases h; rw [e1]; exact .inl ⟨_, sql_mono e hp, by rw [emp_eq (List.length_map (f := V.int))]⟩
  | .gone, _, _, _, h, _ => by cases h
  | .kst _, _, _, _, h, _ => by cases h
  | .dK .., _, _, _, h, _ => by cases h
  | .dT .., _, _, _, h, _ => by cases h
  | .dN .., _, _, _, h, _ => by cases h
  | .obj .., _, _, _, h, _ => by cases h
theorem t_val (ha : PE X a (tR ⟨X.K, cl, X.w⟩ E m)) (he : ∀ whole, isTrue a X.env whole = (do let v ← whole; standAt a.pos; holding [v] (truthy v)) := by intro _; rfl) : PT X a (tT ⟨X.K, cl, X.w⟩ E (truM m)) :=
  PT_imp (pt_truth ha he) fun σ H Q ⟨P, S, T, ρ, b, w, hm, q⟩ => by
    unfold truM at hm
    cases ea : m ρ with
    | none => rw [ea] at hm; cases hm
    | some d =>
      rw [ea] at hm
      exact ⟨P, S, T, ρ, d, w, ea, fun v H' P' U g r => ⟨b, truD_v g.ph hm r, q H' P' g⟩⟩
def notB (m : BM) : BM := fun ρ => (m ρ).map not
def andB (ma mb : BM) : BM := fun ρ => (ma ρ).bind fun k => if k = true then mb ρ else some false
def orB (ma mb : BM) : BM := fun ρ => (ma ρ).bind fun k => if k = true then some true else mb ρ
theorem t_not {m : BM} (h : PT X a (tT ⟨X.K, cl, X.w⟩ E m)) : PT X (.UnaryOp .Not a pos) (tT ⟨X.K, cl, X.w⟩ E (notB m)) := PT_imp (pt_not h) fun σ H Q ⟨P, S, T, ρ, b, w, hm, q⟩ => by
  unfold notB at hm
  cases ea : m ρ with
  | none => rw [ea] at hm; cases hm
  | some k =>
    rw [ea] at hm
    cases hm
    exact ⟨P, S, T, ρ, k, w, ea, q⟩
theorem w_and1 {m : BM} (h : PT X a (tT ⟨X.K, cl, X.w⟩ E m)) : PW X (.BoolOp .And [a] pos) (tT ⟨X.K, cl, X.w⟩ E m) := pw_and1 h
theorem w_or1 {m : BM} (h : PT X a (tT ⟨X.K, cl, X.w⟩ E m)) : PW X (.BoolOp .Or [a] pos) (tT ⟨X.K, cl, X.w⟩ E m) := pw_or1 h
theorem w_and {ma mb : BM} {rest : List Expr} (h : PT X a (tT ⟨X.K, cl, X.w⟩ E ma)) (k : PW X (.BoolOp .And (b :: rest) pos) (tT ⟨X.K, cl, X.w⟩ E mb)) : PW X (.BoolOp .And (a :: b :: rest) pos) (tT ⟨X.K, cl, X.w⟩ E (andB ma mb)) :=
  PW_imp (pw_and h k) fun σ H Q ⟨P, S, T, ρ, d, w, hm, q⟩ => by
    unfold andB at hm
    cases ea : ma ρ with
    | none => rw [ea] at hm; cases hm
    | some x =>
      rw [ea] at hm
      refine ⟨P, S, T, ρ, x, w, ea, fun H' P' g => ?_⟩
      cases x with
      | true => exact iteT ⟨P', S, T, ρ, d, w.grow g, hm, fun H2 P2 g2 => q H2 P2 (g.trans g2)⟩
      | false => cases hm; exact iteF (q H' P' g)
theorem w_or {ma mb : BM} {rest : List Expr} (h : PT X a (tT ⟨X.K, cl, X.w⟩ E ma)) (k : PW X (.BoolOp .Or (b :: rest) pos) (tT ⟨X.K, cl, X.w⟩ E mb)) : PW X (.BoolOp .Or (a :: b :: rest) pos) (tT ⟨X.K, cl, X.w⟩ E (orB ma mb)) :=
  PW_imp (pw_or h k) fun σ H Q ⟨P, S, T, ρ, d, w, hm, q⟩ => by
    unfold orB at hm
    cases ea : ma ρ with
    | none => rw [ea] at hm; cases hm
    | some x =>
      rw [ea] at hm
      refine ⟨P, S, T, ρ, x, w, ea, fun H' P' g => ?_⟩
      cases x with
      | true => cases hm; exact iteT (q H' P' g)
      | false => exact iteF ⟨P', S, T, ρ, d, w.grow g, hm, fun H2 P2 g2 => q H2 P2 (g.trans g2)⟩
theorem t_w {m : BM} (h : PW X a (tT ⟨X.K, cl, X.w⟩ E m)) : PT X a (tT ⟨X.K, cl, X.w⟩ E m) := h.pt

def notD (m : RM) : RM := fun ρ => ((m ρ).bind truD).map fun k => .bl (!k)
def andM (ma mb : RM) : RM := fun ρ => (bM ma ρ).bind fun k => if k = true then mb ρ else some (.bl false)
def orM (ma mb : RM) : RM := fun ρ => (bM ma ρ).bind fun k => if k = true then some (.bl true) else mb ρ
theorem f_not (ha : PE X a (tR ⟨X.K, cl, X.w⟩ E m)) : PE X (.UnaryOp .Not a pos) (tF ⟨X.K, cl, X.w⟩ E (notD m)) := PE_imp (pe_notT ha) fun σ H Q ⟨P, S, T, ρ, d, w, hm, q⟩ => by
  unfold notD at hm
  cases ea : m ρ with
  | none => rw [ea] at hm; cases hm
  | some da =>
    rw [ea] at hm
    cases et : truD da with
    | none => rw [Option.bind_some, et] at hm; cases hm
    | some k =>
      rw [Option.bind_some, et] at hm
      cases hm
      exact ⟨P, S, T, ρ, da, w, ea, fun v H' P' U g r => ⟨k, truD_v g.ph et r, (q.grow g).flat g.ph ⟨rfl, rfl⟩⟩⟩
theorem f_one {op} {m : RM} (h : PE X a (tF ⟨X.K, cl, X.w⟩ E m)) : PE X (.BoolOp op [a] pos) (tF ⟨X.K, cl, X.w⟩ E m) := pe_one h
theorem f_and {rest : List Expr} (ha : PE X a (tR ⟨X.K, cl, X.w⟩ E ma)) (hb : PE X (.BoolOp .And (b :: rest) pos) (tF ⟨X.K, cl, X.w⟩ E mb)) : PE X (.BoolOp .And (a :: b :: rest) pos) (tF ⟨X.K, cl, X.w⟩ E (andM ma mb)) := PE_imp (pe_and ha hb) fun σ H Q ⟨P, S, T, ρ, d, w, hm, q⟩ => by
  unfold andM at hm
  cases ea : bM ma ρ with
  | none => rw [ea] at hm; cases hm
  | some k =>
    rw [ea] at hm
    refine ⟨P, S, T, ρ, .bl k, w, bM_some ea, fun v H' P' U g r => ⟨k, r.1, ?_⟩⟩
    cases k with
    | true => exact iteT ⟨P', S, T, ρ, d, w.grow g, hm, q.grow g⟩
    | false => cases hm; exact iteF ((q.grow g).flat g.ph ⟨rfl, rfl⟩)
def iteM (mc : BM) (ma mb : RM) : RM := fun ρ => (mc ρ).bind fun k => if k = true then ma ρ else mb ρ
def chM (f g : D → D → Option D) (ma mb mc : RM) : RM := fun ρ => (ma ρ).bind fun x => (mb ρ).bind fun y => (f x y).bind fun z => match z with | .bl true => (mc ρ).bind fun u => g y u | .bl false => some (.bl false) | _ => none
def mA (f : List D → Option D) (ms : AM) : RM := fun ρ => (ms ρ).bind f
def OpA (c : LC) (r : List V → Hp → VK → Prop) (f : List D → Option D) : Prop := ∀ (P H : Hp), Ex P H → ∀ ds d vs U, f ds = some d → RepL c P H ds vs U → ∀ Q, FQ c P H d Q → r vs H Q
theorem opA_run {r : List V → Hp → VK → Prop} {f : List D → Option D} {ms : AM} (hf : OpA ⟨X.K, cl, X.w⟩ r f) {σ : St} {H : Hp} {Q : VK} (h : tF ⟨X.K, cl, X.w⟩ E (mA f ms) σ H Q) : tCB r (tAR ⟨X.K, cl, X.w⟩ E ms) σ H Q := by
  obtain ⟨P, S, T, ρ, d, w, hm, q⟩ := h
  unfold mA at hm
  cases ea : ms ρ with
  | none => rw [ea] at hm; cases hm
  | some ds =>
    rw [ea] at hm
    exact ⟨P, S, T, ρ, ds, w, ea, fun vs H1 P1 U1 g1 r1 => hf P1 H1 g1.ph ds d vs U1 hm r1 Q (q.grow g1)⟩
theorem f_blt {r : List V → Hp → VK → Prop} {f : List D → Option D} {ms : AM} {id : String} {x : Str} {es : List Expr} {p : Pos} (hc : CallR X (.builtin id) r) (hf : OpA ⟨X.K, cl, X.w⟩ r f) (hg : Gl X x) (hm : X.mg x = none) (hv : bootBuiltins x = some (.builtin id)) (ha : PA X (e :: es) (tAR ⟨X.K, cl, X.w⟩ E ms)) (hn : x ≠ "__name__" := by decide) (hdb : (x == ("__debug__" : Str)) = false := by decide)
    (he : starEach (e :: es) X.env = (false, eval e X.env) :: starEach es X.env := by rfl) (hpl : (backTo pos (starEach es X.env)).any (·.1) = false := by rfl) : PE X (.Call (.Name x p) (e :: es) [] pos) (tF ⟨X.K, cl, X.w⟩ E (mA f ms)) :=
  PE_imp (pe_callB hc hg hm hv ha hn hdb he hpl) fun _ _ _ h => opA_run hf h
theorem f_bty {r : List V → Hp → VK → Prop} {f : List D → Option D} {ms : AM} {id : String} {x : Str} {es : List Expr} {p : Pos} (hc : CallR X (.type id) r) (hf : OpA ⟨X.K, cl, X.w⟩ r f) (hg : Gl X x) (hm : X.mg x = none) (hv : bootBuiltins x = some (.type id)) (ha : PA X (e :: es) (tAR ⟨X.K, cl, X.w⟩ E ms)) (hn : x ≠ "__name__" := by decide) (hdb : (x == ("__debug__" : Str)) = false := by decide)
    (he : starEach (e :: es) X.env = (false, eval e X.env) :: starEach es X.env := by rfl) (hpl : (backTo pos (starEach es X.env)).any (·.1) = false := by rfl) : PE X (.Call (.Name x p) (e :: es) [] pos) (tF ⟨X.K, cl, X.w⟩ E (mA f ms)) :=
  PE_imp (pe_callTy hc hg hm hv ha hn hdb he hpl) fun _ _ _ h => opA_run hf h
theorem repL1 {c : LC} {P H : Hp} {d : D} {vs : List V} {U : FP} (r : RepL c P H [d] vs U) : ∃ v T, vs = [v] ∧ Rep c P H d v T := by
  obtain ⟨y, ys, T, T2, e, r1, r2, _⟩ := r
  rw [r2.1] at e
  exact ⟨y, T, e, r1⟩
def lenD : List D → Option D
  | [.str s] => if s.length ≤ LIM then some (.int s.length) else none
  | [.tup ds] => some (.int ds.length)
  | [.lst _ ds] => some (.int ds.length)
  | [.scr ns] => some (.int ns.length)
  | [.dK _ ks _] => some (.int ks.length)
  | _ => none
def rLenA (K : PySem.W.Frag) : List V → Hp → VK → Prop := fun xs H Q => (∃ x n, xs = [x] ∧ LenV K x H n ∧ Q (.int n) H) ∨ (∃ a kvs, xs = [V.ref a] ∧ H a = some (.dK kvs) ∧ Q (.int kvs.length) H)
theorem cr_len : CallR X (.builtin "len") (rLenA X.K) := call_len.or call_lenD
theorem op_lenD {c : LC} : OpA c (rLenA c.K) lenD := by
  intro P H e ds d vs U hf r Q q
  unfold lenD at hf
  split at hf
  · split at hf
    · rename_i s hl
      cases hf
      obtain ⟨v, T, rfl, r1⟩ := repL1 r
      exact .inl ⟨_, _, rfl, by rw [r1.1]; exact ⟨by rw [str_len]; exact lim_le hl, by rw [str_len]⟩, q.flat e ⟨rfl, rfl⟩⟩
    · cases hf
  · cases hf
    obtain ⟨v, T, rfl, a, xs, rfl, h, rl⟩ := repL1 r
    exact .inl ⟨_, _, rfl, .inr ⟨xs, sqt_mono e h, rfl⟩, by rw [← rl.length]; exact q.flat e ⟨rfl, rfl⟩⟩
  · cases hf
    obtain ⟨v, T, rfl, r1⟩ := repL1 r
    obtain ⟨a, xs, T', rfl, h, rl, _⟩ := lst_heap e r1
    exact .inl ⟨_, _, rfl, .inl ⟨xs, .inl (.inl h), rfl⟩, by rw [← rl.length]; exact q.flat e ⟨rfl, rfl⟩⟩
  · cases hf
    obtain ⟨v, T, rfl, a, rfl, h, _⟩ := repL1 r
    exact .inl ⟨_, _, rfl, .inl ⟨_, sql_mono e h, rfl⟩, by rw [List.length_map]; exact q.flat e ⟨rfl, rfl⟩⟩
  · rename_i o ks ds'
    cases hf
    obtain ⟨v, T, rfl, r1⟩ := repL1 r
    right
    have : ∃ a xs, v = .ref a ∧ H a = some (.dK (ks.zip xs)) ∧ ks.length = xs.length := by
      cases o with
      | true => obtain ⟨a, xs, T, e1, h, n, _⟩ := r1; exact ⟨a, xs, e1, h, n⟩
      | false => obtain ⟨a, xs, e1, h, n, _⟩ := r1; exact ⟨a, xs, e1, e _ _ h, n⟩
    obtain ⟨a, xs, rfl, h, n⟩ := this
    refine ⟨a, _, rfl, h, ?_⟩
    rw [List.length_zip, ← n, Nat.min_self]
    exact q.flat e ⟨rfl, rfl⟩
  · cases hf
def max2D : List D → Option D
  | [.int i, .int j] => some (.int (if j > i then j else i))
  | _ => none
def min2D : List D → Option D
  | [.int i, .int j] => some (.int (if j < i then j else i))
  | _ => none
def intD : List D → Option D
  | [.int i] => some (.int i)
  | [.bl k] => some (.int (if k then 1 else 0))
  | _ => none
def intsD : List D → Option (List Int)
  | [] => some []
  | .int i :: ds => (intsD ds).map fun is => i :: is
  | _ :: _ => none
def sumD : List D → Option D
  | [.lst _ ds] => (intsD ds).map fun is => .int is.sum
  | _ => none
def listD : List D → Option D
  | [.lst _ ds] => if frzL ds = true then some (.lst true ds) else none
  | [.tup ds] => if frzL ds = true then some (.lst true ds) else none
  | [.scr ns] => some (.lst true (ns.map .int))
  | _ => none
theorem op_listD {c : LC} : OpA c (fun xs H Q => ∃ p ys, xs = [.ref p] ∧ (SqL c.K H p ys ∨ SqT c.K H p ys) ∧ ∀ l, H l = none → Q (.ref l) (upd H l (.lst ys))) listD := by
  intro P H e ds d vs U hf r Q q
  unfold listD at hf
  split at hf
  · split at hf
    · rename_i hl
      cases hf
      obtain ⟨v, T, rfl, r1⟩ := repL1 r
      obtain ⟨p, xs, rfl, hh, rl⟩ := lst_heap0 e r1 hl
      exact ⟨p, xs, rfl, .inl (.inl (.inl hh)), q.lst e rl⟩
    · cases hf
  · split at hf
    · rename_i hl
      cases hf
      obtain ⟨v, T, rfl, r1⟩ := repL1 r
      obtain ⟨p, xs, rfl, hh, _, rl⟩ := tup_heap0 e r1 hl
      exact ⟨p, xs, rfl, .inr hh, q.lst e rl⟩
    · cases hf
  · cases hf
    obtain ⟨v, T, rfl, p, rfl, hh, _⟩ := repL1 r
    exact ⟨p, _, rfl, .inl (sql_mono e hh), q.lst e (repL_ints _)⟩
  · cases hf
def tyD : D → Option String
  | .non => some "NoneType"
  | .bl _ => some "bool"
  | .int _ => some "int"
  | .str _ => some "str"
  | .scr _ => some "list"
  | .lst .. => some "list"
  | .tup _ => some "tuple"
  | .dK .. => some "dict"
  | .dT .. => some "dict"
  | _ => none
theorem ty_v {c : LC} {P H : Hp} (e : Ex P H) : ∀ {d : D} {v : V} {U : FP} {t : String}, tyD d = some t → Rep c P H d v U → TyX c.K H v (.type t)
  | .non, v, U, t, h, r => by cases h; rw [r.1]; exact .base .non
  | .bl b, v, U, t, h, r => by cases h; rw [r.1]; exact .base (.bl b)
  | .int b, v, U, t, h, r => by cases h; rw [r.1]; exact .base (.int b)
  | .str b, v, U, t, h, r => by cases h; rw [r.1]; exact .base (.str _)
  | .scr ns, v, U, t, h, ⟨a, e1, q, _⟩ => by
    cases h; rw [e1]
    rcases q with (q | ⟨o, q⟩) | ⟨o, its, n, q, q2, _⟩
    · exact .base (.lst (e _ _ q))
    · exact .base (.frz (e _ _ q))
    · exact .kList q q2
  | .tup ds, v, U, t, h, ⟨a, xs, e1, q, _⟩ => by
    cases h; rw [e1]
    rcases q with (q | ⟨o, q⟩) | ⟨o, its, n, q, q2, _⟩
    · exact .base (.tup (e _ _ q))
    · exact .fTuple (e _ _ q)
    · exact .kTuple q q2
  | .lst o ds, v, U, t, h, r => by
    cases h
    obtain ⟨a, xs, T, e1, hh, _⟩ := lst_heap e r
    rw [e1]; exact .base (.lst hh)
  | .dK true _ _, v, U, t, h, ⟨a, _, _, e1, q, _⟩ => by cases h; rw [e1]; exact .base (.dK q)
  | .dK false _ _, v, U, t, h, ⟨a, _, e1, q, _⟩ => by cases h; rw [e1]; exact .base (.dK (e _ _ q))
  | .dT true _ _, v, U, t, h, ⟨a, _, _, e1, q, _⟩ => by cases h; rw [e1]; exact .base (.dT q)
  | .dT false _ _, v, U, t, h, ⟨a, _, e1, q, _⟩ => by cases h; rw [e1]; exact .base (.dT (e _ _ q))
def isiM (ty : String) (m : RM) : RM := fun ρ => (m ρ).bind fun d => (tyD d).bind fun t => (kitB t ty).map .bl
theorem f_isi {ty : String} {b0 : Expr} {x : Str} {p : Pos} (hg : Gl X x) (hm : X.mg x = none) (hv : bootBuiltins x = some (.builtin "isinstance")) (ha : PE X a (tR ⟨X.K, cl, X.w⟩ E ma)) (hb : PE X b0 (tC (.ty ty)))
    (hn : x ≠ "__name__" := by decide) (hdb : (x == ("__debug__" : Str)) = false := by decide)
    (hs1 : starEach [a, b0] X.env = (false, eval a X.env) :: starEach [b0] X.env := by rfl) (hs2 : starEach [b0] X.env = (false, eval b0 X.env) :: starEach [] X.env := by rfl) (hpl : (backTo pos (starEach [b0] X.env)).any (·.1) = false := by rfl) : PE X (.Call (.Name x p) [a, b0] [] pos) (tF ⟨X.K, cl, X.w⟩ E (isiM ty ma)) :=
  PE_imp (pe_callB call_isi hg hm hv (pa_cons ha (pa_cons hb pa_nil hs2) hs1) hn hdb hs1 hpl) fun σ H Q ⟨P, S, T, ρ, d, w, h, q⟩ => by
    unfold isiM at h
    cases ea : ma ρ with
    | none => rw [ea] at h; cases h
    | some da =>
      rw [ea, Option.bind_some] at h
      cases et : tyD da with
      | none => rw [et] at h; cases h
      | some t =>
        rw [et, Option.bind_some] at h
        cases ek : kitB t ty with
        | none => rw [ek] at h; cases h
        | some k =>
          rw [ek] at h
          cases h
          exact ⟨P, S, T, ρ, da, w, ea, fun v H1 P1 U1 g1 r1 => ⟨v, .ty ty, .type t, .type ty, k, rfl, .ty ty, ty_v g1.ph et r1, kit_ty ek, (q.grow g1).flat g1.ph ⟨rfl, rfl⟩⟩⟩
end
end LI

namespace LI
open PySem L2

def IterOK (c : LC) (P : Hp) (J : It) (ds : List D) : Prop := ∃ (G : Hp → Prop) (Y : Nat → Hp → V → Hp → Prop), Walk J ds.length G Y ∧ (∀ P2 H2, Ex P P2 → Ex P2 H2 → G H2) ∧
  ∀ i P2 H2 x H3, Ex P P2 → Ex P2 H2 → i < ds.length → Y i H2 x H3 → ∃ P3 d, Gr P2 H2 P3 H3 ∧ ds[i]? = some d ∧ Rep c P3 H3 d x fz
def tI (c : LC) (E : En) (m : AM) : TI := fun σ H R => ∃ P S T ρ ds, Wd c E P S T σ H ρ ∧ m ρ = some ds ∧ ∀ J H' P', Gr P H P' H' → IterOK c P' J ds → R J H'
theorem PI_imp {X : Cx} {tg e : Expr} {t t' : TI} (h : PI X tg e t) (k : ∀ σ H R, t' σ H R → t σ H R) : PI X tg e t' := ⟨fun pins s σ H R I q => h.run pins s σ H R I (k σ H R q)⟩
theorem PI_or {X : Cx} {tg e : Expr} {t u : TI} (h : PI X tg e t) (k : PI X tg e u) : PI X tg e (fun σ H Q => t σ H Q ∨ u σ H Q) := ⟨fun pins s σ H Q I q => q.elim (h.run pins s σ H Q I) (k.run pins s σ H Q I)⟩
def strsD (s : List Nat) : List D := s.map fun k => .str [k]
def itemsD : D → Option (List D)
  | .lst false ds => if frzL ds = true then some ds else none
  | .tup ds => if frzL ds = true then some ds else none
  | .scr ns => some (ns.map .int)
  | .str s => some (strsD s)
  | _ => none
def itM (m : RM) : AM := fun ρ => (m ρ).bind itemsD
theorem rep_get0 {c : LC} {P H : Hp} {ds : List D} {xs : List V} {i : Nat} {x : V} (r : RepL c P H ds xs fz) (h : xs[i]? = some x) : ∃ d, ds[i]? = some d ∧ Rep c P H d x fz := by
  have hi : i < ds.length := by rw [r.length]; exact (List.getElem?_eq_some_iff.mp h).1
  obtain ⟨y, T, h1, h2, h3⟩ := r.get (List.getElem?_eq_getElem hi)
  rw [h1] at h
  cases h
  have : T = fz := by funext a; have := h3 a; simp only [fz] at this ⊢; omega
  subst this
  exact ⟨_, List.getElem?_eq_getElem hi, h2⟩
theorem iter_lst {c : LC} {P : Hp} {a : Addr} {xs : List V} {ds : List D} {H : Hp} (h : SqL c.K P a xs) (r : RepL c P H ds xs fz) (hp : ∀ H', RepL c P H' ds xs fz) : IterOK c P (Itl c.K a) ds := by
  refine ⟨_, _, by rw [r.length]; exact walk_list (xs := xs), fun P2 H2 e1 e2 => sql_mono e2 (sql_mono e1 h), fun i P2 H2 x H3 e1 e2 hi y => ?_⟩
  obtain ⟨rfl, hx⟩ := y
  obtain ⟨d, h1, h2⟩ := rep_get0 (hp H3) hx
  exact ⟨P2, d, .refl e2, h1, Rep.mono e1 d x fz (fun a o z _ => by simp [fz] at z) h2⟩
theorem iter_tup {c : LC} {P : Hp} {a : Addr} {xs : List V} {ds : List D} {H : Hp} (h : SqT c.K P a xs) (r : RepL c P H ds xs fz) (hp : ∀ H', RepL c P H' ds xs fz) : IterOK c P (Itt c.K a) ds := by
  refine ⟨_, _, by rw [r.length]; exact walk_tup (xs := xs), fun P2 H2 e1 e2 => sqt_mono e2 (sqt_mono e1 h), fun i P2 H2 x H3 e1 e2 hi y => ?_⟩
  obtain ⟨rfl, hx⟩ := y
  obtain ⟨d, h1, h2⟩ := rep_get0 (hp H3) hx
  exact ⟨P2, d, .refl e2, h1, Rep.mono e1 d x fz (fun a o z _ => by simp [fz] at z) h2⟩
theorem repL_h {c : LC} {P H H' : Hp} {ds : List D} {xs : List V} (r : RepL c P H ds xs fz) : RepL c P H' ds xs fz := RepL.mono (.refl _) ds xs fz (fun a o z _ => by simp [fz] at z) r
section
variable {X : Cx} {cl : Nat → Addr} {E : En} {e a b tg : Expr} {pos : Pos} {m ma mb : RM}
theorem i_seq (h : PE X e (tR ⟨X.K, cl, X.w⟩ E m)) : PI X tg e (tI ⟨X.K, cl, X.w⟩ E (itM m)) := by
  refine PI_imp (PI_or (pi_list h) (PI_or (pi_tup h) (pi_str h))) fun σ H R ⟨P, S, T, ρ, ds, w, hm, q⟩ => ?_
  unfold itM at hm
  cases ea : m ρ with
  | none => rw [ea] at hm; cases hm
  | some d =>
    rw [ea] at hm
    replace hm : itemsD d = some ds := hm
    unfold itemsD at hm
    split at hm
    · split at hm
      · rename_i hf
        cases hm
        refine .inl ⟨P, S, T, ρ, _, w, ea, fun v H1 P1 U1 g1 r1 => ?_⟩
        obtain ⟨p, xs, e1, hp, rl⟩ := r1
        have z := RepL.frz0 _ xs _ hf rl
        subst z
        exact ⟨p, e1, ⟨xs, .inl (.inl (g1.ph _ _ hp))⟩, q _ H1 P1 g1 (iter_lst (.inl (.inl hp)) rl fun _ => repL_h rl)⟩
      · cases hm
    · split at hm
      · rename_i hf
        cases hm
        refine .inr (.inl ⟨P, S, T, ρ, _, w, ea, fun v H1 P1 U1 g1 r1 => ?_⟩)
        obtain ⟨p, xs, e1, hp, rl⟩ := r1
        have z := RepL.frz0 _ xs _ hf rl
        subst z
        exact ⟨p, e1, ⟨xs, sqt_mono g1.ph hp⟩, q _ H1 P1 g1 (iter_tup hp rl fun _ => repL_h rl)⟩
      · cases hm
    · cases hm
      refine .inl ⟨P, S, T, ρ, _, w, ea, fun v H1 P1 U1 g1 r1 => ?_⟩
      obtain ⟨p, e1, hp, _⟩ := r1
      exact ⟨p, e1, ⟨_, sql_mono g1.ph hp⟩, q _ H1 P1 g1 (iter_lst (H := H1) hp (repL_ints _) fun _ => repL_ints _)⟩
    · rename_i s
      cases hm
      refine .inr (.inr ⟨P, S, T, ρ, _, w, ea, fun v H1 P1 U1 g1 r1 => ⟨_, r1.1, q _ H1 P1 g1 ?_⟩⟩)
      refine ⟨_, _, by rw [show (strsD s).length = (⟨s.toArray⟩ : Str).cps.size by simp [strsD]]; exact walk_str, fun _ _ _ _ => True.intro, fun i P2 H2 x H3 e1 e2 hi y => ?_⟩
      obtain ⟨rfl, k, hk, rfl⟩ := y
      refine ⟨P2, .str [k], .refl e2, ?_, ⟨rfl, rfl⟩⟩
      have hk' : s[i]? = some k := by simpa using hk
      simp [strsD, hk']
    · cases hm
def upD (lo : Int) (n : Nat) : List D := (List.range n).map fun (k : Nat) => D.int (lo + (k : Int))
def rng1M (m : RM) : AM := fun ρ => (m ρ).bind fun d => match d with | .int j => if -(2 ^ 62) ≤ j ∧ j < 2 ^ 62 then some (upD 0 j.toNat) else none | _ => none
def rng2M (ma mb : RM) : AM := fun ρ => (ma ρ).bind fun x => (mb ρ).bind fun y => match x, y with | .int i, .int j => if -(2 ^ 62) ≤ i ∧ i < 2 ^ 62 ∧ -(2 ^ 62) ≤ j ∧ j < 2 ^ 62 then some (upD i (j - i).toNat) else none | _, _ => none
theorem iter_rng {c : LC} {P : Hp} (lo : Int) (n : Nat) : IterOK c P (Itr lo n) (upD lo n) := by
  refine ⟨_, _, by rw [show (upD lo n).length = n by simp [upD]]; exact walk_range, fun _ _ _ _ => True.intro, fun i P2 H2 x H3 e1 e2 hi y => ?_⟩
  obtain ⟨rfl, rfl⟩ := y
  have hi' : i < n := by simpa [upD] using hi
  refine ⟨P2, .int (lo + (i : Int)), .refl e2, ?_, ⟨rfl, rfl⟩⟩
  simp [upD, hi']
theorem i_rng1 {p : Pos} (hg : Gl X "range") (hm : X.mg "range" = none) (ha : PE X a (tR ⟨X.K, cl, X.w⟩ E m)) (hs : starEach [a] X.env = [(false, eval a X.env)] := by rfl) : PI X tg (.Call (.Name "range" p) [a] [] pos) (tI ⟨X.K, cl, X.w⟩ E (rng1M m)) :=
  PI_imp (pi_range1 hg hm (pa_cons ha pa_nil hs) hs) fun σ H R ⟨P, S, T, ρ, ds, w, h, q⟩ => by
    unfold rng1M at h
    cases ea : m ρ with
    | none => rw [ea] at h; cases h
    | some d =>
      rw [ea] at h
      cases d with
      | int j =>
        simp only [Option.bind_some] at h
        split at h
        · rename_i hb
          cases h
          exact ⟨P, S, T, ρ, _, w, ea, fun v H1 P1 U1 g1 r1 => ⟨j, by rw [r1.1], hb.1, hb.2, q _ H1 P1 g1 (iter_rng 0 _)⟩⟩
        · cases h
      | _ => cases h
abbrev TgM := D → List D → Option (List D)
theorem fa_assoc (S T U : FP) : fa (fa S T) U = fa S (fa T U) := by funext a; simp only [fa]; omega
theorem fa_comm (S T : FP) : fa S T = fa T S := by funext a; simp only [fa]; omega
theorem Wd.shrink {c : LC} {P H : Hp} {S S' T T' : FP} {σ σ' : St} {ρ ρ' : List D} (w : Wd c E P S T σ H ρ) (he : RepE c P H ρ' σ' S') (hl : ∀ a, S' a + T' a ≤ S a + T a) (ht : ∀ a, T' a ≤ T a) (hk : ∀ (i : Nat) (v : V), E.kp[i]? = some true → E.vs[i]? = some v → σ'[i]? = some (some v)) : Wd c E P S' T' σ' H ρ' :=
  ⟨he, fun a => Nat.le_trans (hl a) (w.le a), fun a h => w.out a (Nat.lt_of_lt_of_le h (hl a)), fun a h => w.th a (Nat.lt_of_lt_of_le h (ht a)), w.ph, w.p0, w.fr, w.np, fun a h => w.ns a (Nat.lt_of_lt_of_le h (hl a)), hk⟩
theorem Wd.drop {c : LC} {P H : Hp} {S T U : FP} {σ : St} {ρ : List D} (w : Wd c E P S (fa T U) σ H ρ) : Wd c E P S T σ H ρ := w.shrink w.env (fun a => by simp only [fa]; omega) (fun a => by simp only [fa]; omega) w.kp
theorem RepE.set {c : LC} {P H : Hp} {d : D} {v : V} {U : FP} (r : Rep c P H d v U) : ∀ {ρ : List D} {σ : St} {S : FP} (i : Nat), RepE c P H ρ σ S → ∃ S', RepE c P H (ρ.set i d) (σ.set i (some v)) S' ∧ ∀ a, S' a ≤ S a + U a
  | [], [], S, i, h => ⟨S, h, fun a => by omega⟩
  | d0 :: ρ, v0 :: σ, S, 0, ⟨T, T2, h1, h2, f⟩ => ⟨fa U T2, ⟨U, T2, r, h2, rfl⟩, fun a => by rw [f]; simp only [fa]; omega⟩
  | d0 :: ρ, v0 :: σ, S, i + 1, ⟨T, T2, h1, h2, f⟩ => by
    obtain ⟨S', k1, k2⟩ := RepE.set r i h2
    exact ⟨fa T S', ⟨T, S', h1, k1, rfl⟩, fun a => by have := k2 a; rw [f]; simp only [fa]; omega⟩
  | [], _ :: _, _, _, h => h.elim
  | _ :: _, [], _, _, h => h.elim
theorem Wd.store {c : LC} {P H : Hp} {S T U : FP} {σ : St} {ρ : List D} {d : D} {v : V} (w : Wd c E P S (fa T U) σ H ρ) (r : Rep c P H d v U) (i : Nat) (hk : E.kp[i]? ≠ some true) : ∃ S', Wd c E P S' T (σ.set i (some v)) H (ρ.set i d) := by
  obtain ⟨S', h1, h2⟩ := RepE.set r i w.env
  refine ⟨S', w.shrink h1 (fun a => by have := h2 a; simp only [fa]; omega) (fun a => by simp only [fa]; omega) fun j u h3 h4 => ?_⟩
  have : j ≠ i := fun z => hk (z ▸ h3)
  rw [List.getElem?_set_ne (Ne.symm this)]
  exact w.kp j u h3 h4
def tPG (c : LC) (E : En) (tl : List Nat) (f : TgM) : TG := fun v σ H Q => ∃ P S T U ρ d ρ', Wd c E P S (fa T U) σ H ρ ∧ Rep c P H d v U ∧ f d ρ = some ρ' ∧
  ∀ σ' S', Wd c E P S' T σ' H ρ' → σ'.length = σ.length → (∀ j, j ∉ tl → σ'[j]? = σ[j]?) → Q σ' H
def tPGs (c : LC) (E : En) (tl : List Nat) (f : List D → List D → Option (List D)) : TGs := fun vs σ H Q => ∃ P S T U ρ ds ρ', Wd c E P S (fa T U) σ H ρ ∧ RepL c P H ds vs U ∧ f ds ρ = some ρ' ∧
  ∀ σ' S', Wd c E P S' T σ' H ρ' → σ'.length = σ.length → (∀ j, j ∉ tl → σ'[j]? = σ[j]?) → Q σ' H
theorem PG_imp {t t' : TG} (h : PG X e t) (k : ∀ v σ H Q, t' v σ H Q → t v σ H Q) : PG X e t' := ⟨fun pins s σ H v u Q I r q => h.run pins s σ H v u Q I r (k v σ H Q q)⟩
theorem PGs_imp {es : List Expr} {t t' : TGs} (h : PGs X es t) (k : ∀ v σ H Q, t' v σ H Q → t v σ H Q) : PGs X es t' := ⟨fun pins s σ H v u Q I r q => h.run pins s σ H v u Q I r (k v σ H Q q)⟩
def nameT (i : Nat) : TgM := fun d ρ => some (ρ.set i d)
def tupT (f : List D → List D → Option (List D)) : TgM := fun d ρ => match d with | .tup ds => f ds ρ | _ => none
def nilT : List D → List D → Option (List D) := fun ds ρ => match ds with | [] => some ρ | _ => none
def consT (f : TgM) (g : List D → List D → Option (List D)) : List D → List D → Option (List D) := fun ds ρ => match ds with | d :: ds => (f d ρ).bind fun ρ => g ds ρ | _ => none
theorem g_name (i : Nat) {x : Str} (hN : X.N.Nodup) (hi : X.N[i]? = some x) (hx : Loc X.env.scope x) (hk : E.kp[i]? ≠ some true) (hf : X.fn x = true ∨ X.env.scope.names.lookup x = some .local := by first | exact .inl rfl | exact .inr rfl | assumption) : PG X (.Name x pos) (tPG ⟨X.K, cl, X.w⟩ E [i] (nameT i)) :=
  PG_imp (pg_name hN hi hx hf) fun v σ H Q ⟨P, S, T, U, ρ, d, ρ', w, r, hm, q⟩ => by
    cases hm
    obtain ⟨S', w'⟩ := w.store r i hk
    exact q _ S' w' (by simp) fun j hj => List.getElem?_set_ne (fun z => hj (by simp [z]))
theorem gs_nil : PGs X [] (tPGs ⟨X.K, cl, X.w⟩ E [] nilT) := PGs_imp pgs_nil fun v σ H Q ⟨P, S, T, U, ρ, ds, ρ', w, r, hm, q⟩ => by
  cases ds with
  | nil => cases hm; exact ⟨r.1, q σ S (w.drop) rfl fun _ _ => rfl⟩
  | cons _ _ => cases hm
theorem gs_cons {es : List Expr} {tl tl2 : List Nat} {f : TgM} {g : List D → List D → Option (List D)} (h1 : PG X e (tPG ⟨X.K, cl, X.w⟩ E tl f)) (h2 : PGs X es (tPGs ⟨X.K, cl, X.w⟩ E tl2 g))
    (hs : (assignEach (e :: es) X.env).map (·.2) = assign e X.env :: (assignEach es X.env).map (·.2) := by rfl) : PGs X (e :: es) (tPGs ⟨X.K, cl, X.w⟩ E (tl ++ tl2) (consT f g)) := PGs_imp (pgs_cons h1 h2 hs) fun v σ H Q ⟨P, S, T, U, ρ, ds, ρ', w, r, hm, q⟩ => by
  cases ds with
  | nil => cases hm
  | cons d ds =>
    obtain ⟨y, ys, U1, U2, e1, r1, r2, hu⟩ := r
    subst hu
    replace hm : ((f d ρ).bind fun ρ => g ds ρ) = some ρ' := hm
    cases ef : f d ρ with
    | none => rw [ef] at hm; cases hm
    | some ρ1 =>
      rw [ef] at hm
      refine ⟨y, ys, e1, P, S, fa T U2, U1, ρ, d, ρ1, ?_, r1, ef, fun σ1 S1 w1 l1 k1 => ⟨P, S1, T, U2, ρ1, ds, ρ', w1, r2, hm, fun σ2 S2 w2 l2 k2 => q σ2 S2 w2 (l2.trans l1) fun j hj => ?_⟩⟩
      · have : fa (fa T U2) U1 = fa T (fa U1 U2) := by rw [fa_assoc, fa_comm U2 U1]
        rw [this]; exact w
      · simp only [List.mem_append, not_or] at hj
        rw [k2 j hj.2, k1 j hj.1]
theorem g_tup {es : List Expr} {k : Nat} {tl : List Nat} {f : List D → List D → Option (List D)} {n : Nat} (hc : X.calm = true) (h : PGs X es (tPGs ⟨X.K, cl, X.w⟩ E tl f))
    (hn : (assignEach es X.env).length = n := by rfl) (hst : (assignEach es X.env).findIdx? (·.1) = none := by rfl) (hlen : ∀ ds ρ ρ', f ds ρ = some ρ' → ds.length = n := by intro ds ρ ρ' h; rcases ds with _ | ⟨_, ds⟩ <;> simp_all) : PG X (.Tuple es k pos) (tPG ⟨X.K, cl, X.w⟩ E tl (tupT f)) := PG_imp (pg_tup hc h hn hst) fun v σ H Q ⟨P, S, T, U, ρ, d, ρ', w, r, hm, q⟩ => by
  cases d with
  | tup ds =>
    obtain ⟨a, xs, e1, hp, rl⟩ := r
    exact ⟨a, xs, e1, sqt_mono w.ph hp, by rw [← rl.length]; exact hlen ds ρ ρ' hm, P, S, T, U, ρ, ds, ρ', w, rl, hm, q⟩
  | _ => cases hm
theorem len_nil {ds ρ ρ' : List D} (h : nilT ds ρ = some ρ') : ds.length = 0 := by cases ds <;> first | rfl | cases h
theorem len_cons {f : TgM} {g : List D → List D → Option (List D)} {n : Nat} (hg : ∀ ds ρ ρ', g ds ρ = some ρ' → ds.length = n) (ds ρ ρ' : List D) (h : consT f g ds ρ = some ρ') : ds.length = n + 1 := by
  cases ds with
  | nil => cases h
  | cons d ds =>
    replace h : ((f d ρ).bind fun ρ => g ds ρ) = some ρ' := h
    cases ef : f d ρ with
    | none => rw [ef] at h; cases h
    | some ρ1 => rw [ef] at h; rw [List.length_cons, hg ds ρ1 ρ' h]
end

def goneAt (ρ : List D) : List Nat → List D
  | [] => ρ
  | v :: vs => (goneAt ρ vs).set v .gone
section
variable {X : Cx} {cl : Nat → Addr} {E : En} {e a b tg : Expr} {pos : Pos} {m ma mb : RM}
theorem RepE.gone {c : LC} {P H : Hp} : ∀ {ρ : List D} {σ : St} {S : FP} (i : Nat), RepE c P H ρ σ S → ∃ S', RepE c P H (ρ.set i .gone) (σ.set i none) S' ∧ ∀ a, S' a ≤ S a
  | [], [], S, i, h => ⟨S, h, fun a => Nat.le_refl _⟩
  | d0 :: ρ, v0 :: σ, S, 0, ⟨T, T2, h1, h2, f⟩ => ⟨fa fz T2, ⟨fz, T2, ⟨rfl, rfl⟩, h2, rfl⟩, fun a => by rw [f]; simp only [fa, fz]; omega⟩
  | d0 :: ρ, v0 :: σ, S, i + 1, ⟨T, T2, h1, h2, f⟩ => by
    obtain ⟨S', k1, k2⟩ := RepE.gone i h2
    exact ⟨fa T S', ⟨T, S', h1, k1, rfl⟩, fun a => by have := k2 a; rw [f]; simp only [fa]; omega⟩
  | [], _ :: _, _, _, h => h.elim
  | _ :: _, [], _, _, h => h.elim
theorem RepE.wipe {c : LC} {P H : Hp} {ρ : List D} {σ : St} {S : FP} (h : RepE c P H ρ σ S) : ∀ vs : List Nat, ∃ S', RepE c P H (goneAt ρ vs) (L2.wipe σ vs) S' ∧ ∀ a, S' a ≤ S a
  | [] => ⟨S, h, fun _ => Nat.le_refl _⟩
  | v :: vs => by
    obtain ⟨S1, h1, h2⟩ := RepE.wipe h vs
    obtain ⟨S2, h3, h4⟩ := RepE.gone v h1
    exact ⟨S2, h3, fun a => Nat.le_trans (h4 a) (h2 a)⟩
theorem wipe_at {σ : St} : ∀ {vs : List Nat} {j : Nat}, j ∉ vs → (L2.wipe σ vs)[j]? = σ[j]?
  | [], j, _ => rfl
  | v :: vs, j, h => by
    simp only [List.mem_cons, not_or] at h
    unfold L2.wipe
    rw [List.getElem?_set_ne (fun z => h.1 z.symm), wipe_at h.2]
theorem wipe_in {σ : St} : ∀ {vs : List Nat} {j : Nat}, j ∈ vs → j < σ.length → (L2.wipe σ vs)[j]? = some none
  | v :: vs, j, h, hl => by
    unfold L2.wipe
    by_cases z : v = j
    · subst z; rw [List.getElem?_set_self (by rw [wipe_length]; exact hl)]
    · rw [List.getElem?_set_ne z]
      exact wipe_in (by simpa [Ne.symm z] using h) hl
theorem wipe_eq {σ σ' : St} {vs : List Nat} (hl : σ'.length = σ.length) (h : ∀ j, j ∉ vs → σ'[j]? = σ[j]?) : L2.wipe σ' vs = L2.wipe σ vs := by
  apply List.ext_getElem?
  intro j
  by_cases hj : j ∈ vs
  · by_cases z : j < σ.length
    · rw [wipe_in hj (by omega), wipe_in hj z]
    · rw [List.getElem?_eq_none (by rw [wipe_length]; omega), List.getElem?_eq_none (by rw [wipe_length]; omega)]
  · rw [wipe_at hj, wipe_at hj, h j hj]
theorem wipe_wipe (σ : St) (vs : List Nat) : L2.wipe (L2.wipe σ vs) vs = L2.wipe σ vs := wipe_eq (wipe_length _ _) fun j hj => wipe_at hj
theorem Wd.wipe {c : LC} {P H : Hp} {S T : FP} {σ : St} {ρ : List D} (w : Wd c E P S T σ H ρ) (vs : List Nat) (hk : ∀ j ∈ vs, E.kp[j]? ≠ some true) : ∃ S', Wd c E P S' T (L2.wipe σ vs) H (goneAt ρ vs) := by
  obtain ⟨S', h1, h2⟩ := RepE.wipe w.env vs
  refine ⟨S', w.shrink h1 (fun a => by have := h2 a; omega) (fun _ => Nat.le_refl _) fun i v h3 h4 => ?_⟩
  rw [wipe_at fun z => hk i z h3]
  exact w.kp i v h3 h4
def compL (f : TgM) (mc : BM) (me : RM) (ρ0 : List D) : List D → Option (List D)
  | [] => some []
  | d :: ds => (f d ρ0).bind fun ρ1 => (mc ρ1).bind fun k => if k = true then (me ρ1).bind fun y => if frz y = true then (compL f mc me ρ0 ds).map fun ys => y :: ys else none else compL f mc me ρ0 ds
def compM (vs : List Nat) (f : TgM) (mc : BM) (me : RM) (ms : AM) : RM := fun ρ => (ms ρ).bind fun ds => if ds.length ≤ LIM then (compL f mc me (goneAt ρ vs) ds).map (.lst true) else none
def yesB : BM := fun _ => some true
theorem compL_len {f : TgM} {mc : BM} {me : RM} {ρ0 : List D} : ∀ {ds ys : List D}, compL f mc me ρ0 ds = some ys → ys.length ≤ ds.length
  | [], ys, h => by cases h; exact Nat.le_refl _
  | d :: ds, ys, h => by
    unfold compL at h
    cases e1 : f d ρ0 with
    | none => rw [e1] at h; cases h
    | some ρ1 =>
      cases e2 : mc ρ1 with
      | none => rw [e1, Option.bind_some, e2] at h; cases h
      | some k =>
        rw [e1, Option.bind_some, e2, Option.bind_some] at h
        split at h
        · cases e3 : me ρ1 with
          | none => rw [e3] at h; cases h
          | some y =>
            rw [e3, Option.bind_some] at h
            split at h
            · cases e4 : compL f mc me ρ0 ds with
              | none => rw [e4] at h; cases h
              | some zs => rw [e4] at h; cases h; have := compL_len e4; simp; omega
            · cases h
        · have := compL_len h; simp; omega
theorem compL_turn {f : TgM} {mc : BM} {me : RM} {ρ0 : List D} : ∀ {ds ys : List D} {i : Nat} {d : D}, compL f mc me ρ0 ds = some ys → ds[i]? = some d → ∃ zs ρ1 k, compL f mc me ρ0 (ds.take i) = some zs ∧ f d ρ0 = some ρ1 ∧ mc ρ1 = some k ∧
    (k = true → ∃ y, me ρ1 = some y ∧ frz y = true ∧ compL f mc me ρ0 (ds.take (i + 1)) = some (zs ++ [y])) ∧ (k = false → compL f mc me ρ0 (ds.take (i + 1)) = some zs)
  | [], ys, i, d, h, e => by simp at e
  | d0 :: ds, ys, i, d, h, e => by
    unfold compL at h
    cases e1 : f d0 ρ0 with
    | none => rw [e1] at h; cases h
    | some ρ1 =>
      cases e2 : mc ρ1 with
      | none => rw [e1, Option.bind_some, e2] at h; cases h
      | some k =>
        rw [e1, Option.bind_some, e2, Option.bind_some] at h
        cases i with
        | zero =>
          simp at e; subst e
          refine ⟨[], ρ1, k, rfl, e1, e2, fun hk => ?_, fun hk => ?_⟩
          · subst hk
            rw [if_pos rfl] at h
            cases e3 : me ρ1 with
            | none => rw [e3] at h; cases h
            | some y =>
              rw [e3, Option.bind_some] at h
              split at h
              · rename_i hf
                exact ⟨y, rfl, hf, by simp [compL, e1, e2, e3, hf]⟩
              · cases h
          · subst hk; simp [compL, e1, e2]
        | succ i =>
          have e' : ds[i]? = some d := by simpa using e
          cases k with
          | true =>
            rw [if_pos rfl] at h
            cases e3 : me ρ1 with
            | none => rw [e3] at h; cases h
            | some y =>
              rw [e3, Option.bind_some] at h
              split at h
              · rename_i hf
                cases e4 : compL f mc me ρ0 ds with
                | none => rw [e4] at h; cases h
                | some ws =>
                  obtain ⟨zs, ρ2, k2, h1, h2, h3, h4, h5⟩ := compL_turn e4 e'
                  refine ⟨y :: zs, ρ2, k2, by simp [compL, e1, e2, e3, hf, h1], h2, h3, fun z => ?_, fun z => ?_⟩
                  · obtain ⟨y2, k3, k4, k5⟩ := h4 z
                    exact ⟨y2, k3, k4, by simp [compL, e1, e2, e3, hf, k5]⟩
                  · simp [compL, e1, e2, e3, hf, h5 z]
              · cases h
          | false =>
            rw [if_neg (by decide)] at h
            obtain ⟨zs, ρ2, k2, h1, h2, h3, h4, h5⟩ := compL_turn h e'
            refine ⟨zs, ρ2, k2, by simp [compL, e1, e2, h1], h2, h3, fun z => ?_, fun z => ?_⟩
            · obtain ⟨y2, k3, k4, k5⟩ := h4 z
              exact ⟨y2, k3, k4, by simp [compL, e1, e2, k5]⟩
            · simp [compL, e1, e2, h5 z]
def tTs (c : LC) (E : En) (mc : BM) : TT := tT c E mc
theorem ts_nil : PTs X [] (tTs ⟨X.K, cl, X.w⟩ E yesB) := ⟨fun pins s σ H Q I ⟨P, S, T, ρ, b, w, hm, q⟩ => by
  cases hm
  exact pts_nil.run pins s σ H Q I (q H P (.refl w.ph))⟩
theorem ts_one {c0 : Expr} {mc : BM} (h : PT X c0 (tT ⟨X.K, cl, X.w⟩ E mc)) : PTs X [c0] (tTs ⟨X.K, cl, X.w⟩ E mc) := pts_one h
end
end LI

namespace LI
open PySem L2

inductive Fl where
  | nx | rt (d : D) | bk | ct | ex (n : Nat) (fs : List Str) (es : List D)
def XE1 (c : LC) (W : WX) (n : Nat) (fs : List Str) (vs : List V) (σ' : St) (H' : Hp) : Prop :=
  (fs = [] → W (.ref (c.cl n)) none σ' H') ∧ (fs ≠ [] → ∀ dd, H' dd = none → W (.ref (c.cl n)) (some dd) σ' (upd H' dd (.xd (fs.zip vs))))
abbrev SM := List D → Option (Fl × List D)
def SPost (c : LC) (E : En) (P : Hp) (D : Ends) : Fl → List LI.D → Prop
  | .nx, ρ' => ∀ σ' H' P' S', Wd c E P' S' fz σ' H' ρ' → Ex P P' → D.nx σ' H'
  | .rt d, ρ' => ∀ v σ' H' P' S' U, Wd c E P' S' U σ' H' ρ' → Rep c P' H' d v U → D.rt v H'
  | .bk, ρ' => ∀ σ' H' P' S', Wd c E P' S' fz σ' H' ρ' → Ex P P' → D.bk σ' H'
  | .ct, ρ' => ∀ σ' H' P' S', Wd c E P' S' fz σ' H' ρ' → Ex P P' → D.ct σ' H'
  | .ex n fs es, ρ' => ∀ vs σ' H' P' S' U, Wd c E P' S' U σ' H' ρ' → Ex P P' → RepL c P' H' es vs fz → XE1 c E.xw n fs vs σ' H'
def tS (c : LC) (E : En) (m : SM) : TS := fun D σ H => ∃ P S ρ fl ρ', Wd c E P S fz σ H ρ ∧ m ρ = some (fl, ρ') ∧ SPost c E P D fl ρ'
theorem SPost.mono {c : LC} {E : En} {P P2 : Hp} {D : Ends} {fl : Fl} {ρ' : List LI.D} (h : SPost c E P D fl ρ') (e : Ex P P2) : SPost c E P2 D fl ρ' := by
  cases fl with
  | nx => exact fun σ' H' P' S' w x => h σ' H' P' S' w (e.trans x)
  | rt d => exact h
  | bk => exact fun σ' H' P' S' w x => h σ' H' P' S' w (e.trans x)
  | ct => exact fun σ' H' P' S' w x => h σ' H' P' S' w (e.trans x)
  | ex n fs es => exact fun vs σ' H' P' S' U w x => h vs σ' H' P' S' U w (e.trans x)
section
variable {X : Cx} {cl : Nat → Addr} {E : En} {e a b tg : Expr} {pos : Pos} {m ma mb : SM} {g : GM}
def skipM : SM := fun ρ => some (.nx, ρ)
def seqM (m1 m2 : SM) : SM := fun ρ => (m1 ρ).bind fun r => match r.1 with | .nx => m2 r.2 | _ => some r
theorem s_nil : PSs X [] (tS ⟨X.K, cl, X.w⟩ E skipM) := PSs_imp pss_nil fun D σ H ⟨P, S, ρ, fl, ρ', w, hm, q⟩ => by
  cases hm
  exact q σ H P S w (.refl _)
theorem seq_run {c : LC} {D : Ends} {σ : St} {H : Hp} (h : tS c E (seqM ma mb) D σ H) : tSeq (tS c E ma) (tS c E mb) D σ H := by
  obtain ⟨P, S, ρ, fl, ρ', w, hm, q⟩ := h
  unfold seqM at hm
  cases ea : ma ρ with
  | none => rw [ea] at hm; cases hm
  | some r =>
    obtain ⟨f1, ρ1⟩ := r
    rw [ea, Option.bind_some] at hm
    refine ⟨P, S, ρ, f1, ρ1, w, ea, ?_⟩
    cases f1 with
    | nx => exact fun σ' H' P' S' w' x => ⟨P', S', ρ1, fl, ρ', w', hm, q.mono x⟩
    | rt d => cases hm; exact q
    | bk => cases hm; exact q
    | ct => cases hm; exact q
    | ex n fs es => cases hm; exact q
theorem s_cons {st : Stmt} {rest : List Stmt} (h1 : PS X st (tS ⟨X.K, cl, X.w⟩ E ma)) (h2 : PSs X rest (tS ⟨X.K, cl, X.w⟩ E mb)) : PSs X (st :: rest) (tS ⟨X.K, cl, X.w⟩ E (seqM ma mb)) := PSs_imp (pss_cons h1 h2) fun _ _ _ h => seq_run h
theorem RepE.forget {c : LC} {P H : Hp} : ∀ {ρ : List D} {σ : St} {S : FP} (i : Nat), RepE c P H ρ σ S → ∃ S', RepE c P H (ρ.set i .gone) σ S' ∧ ∀ a, S' a ≤ S a
  | [], [], S, i, h => ⟨S, h, fun a => Nat.le_refl _⟩
  | d0 :: ρ, v0 :: σ, S, 0, ⟨T, T2, h1, h2, f⟩ => ⟨fa fz T2, ⟨fz, T2, by cases v0 <;> first | exact ⟨rfl, rfl⟩ | exact rfl, h2, rfl⟩, fun a => by rw [f]; simp only [fa, fz]; omega⟩
  | d0 :: ρ, v0 :: σ, S, i + 1, ⟨T, T2, h1, h2, f⟩ => by
    obtain ⟨S', k1, k2⟩ := RepE.forget i h2
    exact ⟨fa T S', ⟨T, S', h1, k1, rfl⟩, fun a => by have := k2 a; rw [f]; simp only [fa]; omega⟩
  | [], _ :: _, _, _, h => h.elim
  | _ :: _, [], _, _, h => h.elim
theorem Wd.forget {c : LC} {P H : Hp} {S T : FP} {σ : St} {ρ : List D} (w : Wd c E P S T σ H ρ) : ∀ vs : List Nat, ∃ S', Wd c E P S' T σ H (goneAt ρ vs)
  | [] => ⟨S, w⟩
  | v :: vs => by
    obtain ⟨S1, w1⟩ := Wd.forget w vs
    obtain ⟨S2, h1, h2⟩ := RepE.forget v w1.env
    exact ⟨S2, w1.shrink h1 (fun a => by have := h2 a; omega) (fun _ => Nat.le_refl _) w1.kp⟩
def killM (vs : List Nat) (m : SM) : SM := fun ρ => m (goneAt ρ vs)
theorem s_kill (vs : List Nat) {sts : List Stmt} (h : PSs X sts (tS ⟨X.K, cl, X.w⟩ E m)) : PSs X sts (tS ⟨X.K, cl, X.w⟩ E (killM vs m)) := PSs_imp h fun D σ H ⟨P, S, ρ, fl, ρ', w, hm, q⟩ => by
  obtain ⟨S', w'⟩ := w.forget vs
  exact ⟨P, S', _, fl, ρ', w', hm, q⟩

theorem g_run {c : LC} {σ : St} {H : Hp} {Q : VK} {P : Hp} {S : FP} {ρ ρ1 : List D} {d : D} (w : Wd c E P S fz σ H ρ) (hg : g ρ = some (d, ρ1)) (q : ∀ v H' P' S' U, Wd c E P' S' U σ H' ρ1 → Ex P P' → Rep c P' H' d v U → Q v H') : tG c E g σ H Q :=
  ⟨P, S, fz, ρ, d, ρ1, w, hg, fun v H' P' S' U w' e r _ => q v H' P' S' U (by rw [fz_fa] at w'; exact w') e r⟩
def asgM (f : TgM) (g : GM) : SM := fun ρ => (g ρ).bind fun r => (f r.1 r.2).map fun ρ' => (.nx, ρ')
theorem asg_run {c : LC} {tl : List Nat} {f : TgM} {D : Ends} {σ : St} {H : Hp} (h : tS c E (asgM f g) D σ H) : tAsg (tG c E g) (tPG c E tl f) D σ H := by
  obtain ⟨P, S, ρ, fl, ρ', w, hm, q⟩ := h
  unfold asgM at hm
  cases eg : g ρ with
  | none => rw [eg] at hm; cases hm
  | some r =>
    obtain ⟨d, ρ1⟩ := r
    rw [eg, Option.bind_some] at hm
    cases ef : f d ρ1 with
    | none => rw [ef] at hm; cases hm
    | some ρ2 =>
      rw [ef] at hm
      cases hm
      exact g_run w eg fun v H' P' S' U w' e r => ⟨P', S', fz, U, ρ1, d, ρ', by rw [fz_fa]; exact w', r, ef, fun σ2 S2 w2 _ _ => q σ2 H' P' S2 w2 e⟩
theorem s_asg {tl : List Nat} {f : TgM} (he : PE X e (tG ⟨X.K, cl, X.w⟩ E g)) (hg : PG X tg (tPG ⟨X.K, cl, X.w⟩ E tl f)) (hs : swapsWithSole [tg] e pos.line X.env = pure false := by rfl) (hw : swappedStores [tg] e X.env = pure none := by rfl)
    (h1 : (assignEach [tg] X.env).map (·.2) = [assign tg X.env] := by rfl) : PS X (.Assign [tg] e pos) (tS ⟨X.K, cl, X.w⟩ E (asgM f g)) := PS_imp (ps_asg he hg hs hw h1) fun _ _ _ h => asg_run h
theorem s_set (i : Nat) {x : Str} {pos' : Pos} (hN : X.N.Nodup) (hi : X.N[i]? = some x) (hx : Loc X.env.scope x) (hk : E.kp[i]? ≠ some true) (he : PE X e (tG ⟨X.K, cl, X.w⟩ E g)) (hs : swapsWith e (some (.Name x pos')) pos.line X.env = pure false := by rfl) (hf : X.fn x = true ∨ X.env.scope.names.lookup x = some .local := by first | exact .inl rfl | exact .inr rfl | assumption) :
    PS X (.Assign [.Name x pos'] e pos) (tS ⟨X.K, cl, X.w⟩ E (asgM (nameT i) g)) := PS_imp (ps_set hN hi hx he hs hf) fun D σ H ⟨P, S, ρ, fl, ρ', w, hm, q⟩ => by
  unfold asgM at hm
  cases eg : g ρ with
  | none => rw [eg] at hm; cases hm
  | some r =>
    obtain ⟨d, ρ1⟩ := r
    rw [eg] at hm
    cases hm
    exact g_run w eg fun v H' P' S' U w' e r => by
      obtain ⟨S2, w2⟩ := (show Wd ⟨X.K, cl, X.w⟩ E P' S' (fa fz U) σ H' ρ1 by rw [fz_fa]; exact w').store r i hk
      exact q _ H' P' S2 w2 e
def exprM (g : GM) : SM := fun ρ => (g ρ).map fun r => (.nx, r.2)
theorem s_expr (he : PE X e (tG ⟨X.K, cl, X.w⟩ E g)) (hs : swapsWith e none pos.line X.env = pure false := by rfl) : PS X (.Expr e pos) (tS ⟨X.K, cl, X.w⟩ E (exprM g)) := PS_imp (ps_expr he hs) fun D σ H ⟨P, S, ρ, fl, ρ', w, hm, q⟩ => by
  unfold exprM at hm
  cases eg : g ρ with
  | none => rw [eg] at hm; cases hm
  | some r =>
    rw [eg] at hm
    cases hm
    exact g_run w eg fun v H' P' S' U w' e r => q σ H' P' S' (Wd.drop (U := U) (by rw [fz_fa]; exact w')) e
def retM (g : GM) : SM := fun ρ => (g ρ).map fun r => (.rt r.1, r.2)
theorem s_ret (he : PE X e (tG ⟨X.K, cl, X.w⟩ E g)) : PS X (.Return (some e) pos) (tS ⟨X.K, cl, X.w⟩ E (retM g)) := PS_imp (ps_ret he) fun D σ H ⟨P, S, ρ, fl, ρ', w, hm, q⟩ => by
  unfold retM at hm
  cases eg : g ρ with
  | none => rw [eg] at hm; cases hm
  | some r =>
    rw [eg] at hm
    cases hm
    exact g_run w eg fun v H' P' S' U w' e r => q v σ H' P' S' U w' r
def ifM (mc : BM) (ma mb : SM) : SM := fun ρ => (mc ρ).bind fun k => if k = true then ma ρ else mb ρ
theorem s_if {mc : BM} {sa sb : List Stmt} (hc : PT X e (tT ⟨X.K, cl, X.w⟩ E mc)) (ha : PSs X sa (tS ⟨X.K, cl, X.w⟩ E ma)) (hb : PSs X sb (tS ⟨X.K, cl, X.w⟩ E mb)) : PS X (.If e sa sb pos) (tS ⟨X.K, cl, X.w⟩ E (ifM mc ma mb)) := PS_imp (ps_if hc ha hb) fun D σ H ⟨P, S, ρ, fl, ρ', w, hm, q⟩ => by
  unfold ifM at hm
  cases ec : mc ρ with
  | none => rw [ec] at hm; cases hm
  | some k =>
    rw [ec, Option.bind_some] at hm
    refine ⟨P, S, fz, ρ, k, w, ec, fun H' P' g => ?_⟩
    cases k with
    | true => exact iteT ⟨P', S, ρ, fl, ρ', w.grow g, hm, q.mono g.p⟩
    | false => exact iteF ⟨P', S, ρ, fl, ρ', w.grow g, hm, q.mono g.p⟩

def forL (f : TgM) (body : SM) (kl : List Nat) : List D → List D → Option (Fl × List D)
  | [], ρ => some (.nx, ρ)
  | d :: ds, ρ => (f d ρ).bind fun ρ1 => (body ρ1).bind fun r => match r.1 with
    | .nx => forL f body kl ds (goneAt r.2 kl)
    | .ct => forL f body kl ds (goneAt r.2 kl)
    | .bk => some (.nx, goneAt r.2 kl)
    | .rt d => some (.rt d, r.2)
    | .ex n fs es => some (.ex n fs es, r.2)
def forM (f : TgM) (body : SM) (kl : List Nat) (ms : AM) : SM := fun ρ => (ms ρ).bind fun ds => forL f body kl ds ρ
theorem for_run {c : LC} {tl kl : List Nat} {f : TgM} {body : SM} {ms : AM} {D : Ends} {σ : St} {H : Hp} (h : tS c E (forM f body kl ms) D σ H) : tFor (tI c E ms) (tPG c E tl f) (tS c E body) D σ H := by
  obtain ⟨P, S, ρ, fl, ρ', w, hm, q⟩ := h
  unfold forM at hm
  cases es : ms ρ with
  | none => rw [es] at hm; cases hm
  | some ds =>
    rw [es, Option.bind_some] at hm
    refine ⟨P, S, fz, ρ, ds, w, es, fun J H1 P1 g1 io => ?_⟩
    obtain ⟨G, Y, wk, hG, hY⟩ := io
    refine for_it wk (fun i σi Hi => ∃ P2 S2 ρi, Wd c E P2 S2 fz σi Hi ρi ∧ Ex P1 P2 ∧ forL f body kl (ds.drop i) ρi = some (fl, ρ')) ?_ ?_ ?_ ?_
    · exact ⟨P1, S, ρ, w.grow g1, .refl _, hm⟩
    · rintro i σi Hi hi ⟨P2, S2, ρi, w2, e2, _⟩
      exact hG P2 Hi e2 w2.ph
    · rintro i x σi Hi H3 hi ⟨P2, S2, ρi, w2, e2, hf⟩ y
      obtain ⟨P3, d, g3, hd, rd⟩ := hY i P2 Hi x H3 e2 w2.ph hi y
      have hdrop : ds.drop i = d :: ds.drop (i + 1) := by
        rw [List.drop_eq_getElem_cons hi]
        congr 1
        rw [List.getElem?_eq_getElem hi] at hd
        exact Option.some.inj hd
      rw [hdrop] at hf
      unfold forL at hf
      cases ef : f d ρi with
      | none => rw [ef] at hf; cases hf
      | some ρ1 =>
        cases eb : body ρ1 with
        | none => rw [ef, Option.bind_some, eb] at hf; cases hf
        | some r =>
          obtain ⟨f1, ρ2⟩ := r
          rw [ef, Option.bind_some, eb, Option.bind_some] at hf
          have w3 : Wd c E P3 S2 (fa fz fz) σi H3 ρi := by rw [fa_fz]; exact w2.grow g3
          refine ⟨P3, S2, fz, fz, ρi, d, ρ1, w3, rd, ef, fun σ4 S4 w4 _ _ => ⟨P3, S4, ρ1, f1, ρ2, w4, eb, ?_⟩⟩
          cases f1 with
          | nx =>
            intro σ' H' P' S' w' x'
            obtain ⟨S5, w5⟩ := w'.forget kl
            exact ⟨P', S5, _, w5, (e2.trans g3.p).trans x', hf⟩
          | ct =>
            intro σ' H' P' S' w' x'
            obtain ⟨S5, w5⟩ := w'.forget kl
            exact ⟨P', S5, _, w5, (e2.trans g3.p).trans x', hf⟩
          | bk =>
            cases hf
            intro σ' H' P' S' w' x'
            obtain ⟨S5, w5⟩ := w'.forget kl
            exact q σ' H' P' S5 w5 (((g1.p.trans e2).trans g3.p).trans x')
          | rt d' =>
            cases hf
            exact q
          | ex n fs es =>
            cases hf
            exact fun vs σ' H' P' S' U w' x' => q vs σ' H' P' S' U w' (((g1.p.trans e2).trans g3.p).trans x')
    · rintro σi Hi ⟨P2, S2, ρi, w2, e2, hf⟩
      rw [List.drop_length] at hf
      cases hf
      exact q σi Hi P2 S2 w2 (g1.p.trans e2)
theorem s_for {iter : Expr} {sb : List Stmt} {tl : List Nat} (kl : List Nat) {f : TgM} {body : SM} {ms : AM} (hp : PassesOwn (model X.prog X.w) X.A X.env X.xe) (hc : X.calm = true) (hi : PI X tg iter (tI ⟨X.K, cl, X.w⟩ E ms)) (hg : PG X tg (tPG ⟨X.K, cl, X.w⟩ E tl f)) (hb : PSs X sb (tS ⟨X.K, cl, X.w⟩ E body))
    (hs : ∀ x, foldedSetIterable iter X.env x = pure x := by intro _; rfl) : PS X (.For tg iter sb [] pos) (tS ⟨X.K, cl, X.w⟩ E (forM f body kl ms)) := PS_imp (ps_for hp hc hi hg hb hs) fun _ _ _ h => for_run h
def whileL (mc : BM) (body : SM) (kl : List Nat) : Nat → List D → Option (Fl × List D)
  | 0, _ => none
  | n + 1, ρ => (mc ρ).bind fun k => if k = true then (body ρ).bind fun r => match r.1 with
    | .nx => whileL mc body kl n (goneAt r.2 kl)
    | .ct => whileL mc body kl n (goneAt r.2 kl)
    | .bk => some (.nx, goneAt r.2 kl)
    | .rt d => some (.rt d, r.2)
    | .ex n fs es => some (.ex n fs es, r.2)
    else some (.nx, ρ)
def whileM (n : Nat) (mc : BM) (body : SM) (kl : List Nat) : SM := fun ρ => whileL mc body kl n ρ
theorem while_run {c : LC} {n : Nat} {kl : List Nat} {mc : BM} {body : SM} {D : Ends} {σ : St} {H : Hp} (h : tS c E (whileM n mc body kl) D σ H) : tWhile (tT c E mc) (tS c E body) D σ H := by
  obtain ⟨P, S, ρ, fl, ρ', w, hm, q⟩ := h
  unfold whileM at hm
  refine ⟨fun i σi Hi => ∃ P2 S2 ρi, Wd c E P2 S2 fz σi Hi ρi ∧ Ex P P2 ∧ whileL mc body kl i ρi = some (fl, ρ'), ⟨n, P, S, ρ, w, .refl _, hm⟩, ?_⟩
  rintro i σi Hi ⟨P2, S2, ρi, w2, e2, hf⟩
  cases i with
  | zero => cases hf
  | succ i =>
    unfold whileL at hf
    cases ec : mc ρi with
    | none => rw [ec] at hf; cases hf
    | some k =>
      rw [ec, Option.bind_some] at hf
      refine ⟨P2, S2, fz, ρi, k, w2, ec, fun H3 P3 g3 => ?_⟩
      cases k with
      | false =>
        rw [if_neg (by decide)] at hf
        cases hf
        exact iteF (q σi H3 P3 S2 (w2.grow g3) (e2.trans g3.p))
      | true =>
        rw [if_pos rfl] at hf
        refine iteT ⟨fun σ' H' => ∃ P2 S2 ρi, Wd c E P2 S2 fz σ' H' ρi ∧ Ex P P2 ∧ whileL mc body kl i ρi = some (fl, ρ'), fun σ' H' hN => ⟨i, Nat.lt_succ_self _, hN⟩, ?_⟩
        cases eb : body ρi with
        | none => rw [eb] at hf; cases hf
        | some r =>
          obtain ⟨f1, ρ2⟩ := r
          rw [eb, Option.bind_some] at hf
          refine ⟨P3, S2, ρi, f1, ρ2, w2.grow g3, eb, ?_⟩
          cases f1 with
          | nx =>
            intro σ' H' P' S' w' x'
            obtain ⟨S5, w5⟩ := w'.forget kl
            exact ⟨P', S5, _, w5, (e2.trans g3.p).trans x', hf⟩
          | ct =>
            intro σ' H' P' S' w' x'
            obtain ⟨S5, w5⟩ := w'.forget kl
            exact ⟨P', S5, _, w5, (e2.trans g3.p).trans x', hf⟩
          | bk =>
            cases hf
            intro σ' H' P' S' w' x'
            obtain ⟨S5, w5⟩ := w'.forget kl
            exact q σ' H' P' S5 w5 ((e2.trans g3.p).trans x')
          | rt d' =>
            cases hf
            exact q
          | ex n fs es =>
            cases hf
            exact fun vs σ' H' P' S' U w' x' => q vs σ' H' P' S' U w' ((e2.trans g3.p).trans x')
theorem s_while (n : Nat) (kl : List Nat) {sb : List Stmt} {mc : BM} {body : SM} (hp : PassesOwn (model X.prog X.w) X.A X.env X.xe) (hc : PT X e (tT ⟨X.K, cl, X.w⟩ E mc)) (hb : PSs X sb (tS ⟨X.K, cl, X.w⟩ E body)) : PS X (.While e sb [] pos) (tS ⟨X.K, cl, X.w⟩ E (whileM n mc body kl)) := PS_imp (ps_while hp hc hb) fun _ _ _ h => while_run h
end
end LI

namespace LI
open PySem L2 PyProof.Rows

structure Stp (P0 : Hp) (S0 : FP) (H0 P : Hp) (T : FP) (H : Hp) : Prop where
  p0 : Ex P0 P
  ph : Ex P H
  fr : ∀ a o, S0 a = 0 → H0 a = some o → H a = some o
  np : ∀ a, P a ≠ none → P0 a ≠ none ∨ 0 < S0 a ∨ H0 a = none
  ns : ∀ a, 0 < T a → 0 < S0 a ∨ H0 a = none
  le : ∀ a, T a ≤ 1
  out : ∀ a, 0 < T a → P a = none
abbrev FM := List D → Option (D × List D)
def spD (c : LC) (F : FM) : Sp := fun vs H Q _ => ∃ P S ds d ds', RepL c P H ds vs S ∧ Ex P H ∧ (∀ a, S a ≤ 1) ∧ (∀ a, 0 < S a → P a = none) ∧ F ds = some (d, ds') ∧
  ∀ v H' P' U S', Stp P S H P' (fa U S') H' → Rep c P' H' d v U → RepL c P' H' ds' vs S' → Q v H'
def maskL : List Bool → List D → List D
  | [], _ => []
  | _ :: bs, [] => .gone :: maskL bs []
  | b :: bs, d :: ds => (if b = true then d else .gone) :: maskL bs ds
def runM (n : Nat) (kp : List Bool) (m : SM) : FM := fun ds => if ds.length = kp.length then (m (ds ++ List.replicate (n - ds.length) .gone)).bind fun r => match r.1 with
  | .rt d => some (d, maskL kp r.2)
  | .nx => some (.non, maskL kp r.2)
  | _ => none
  else none
theorem repE_none {c : LC} {P H : Hp} : ∀ n : Nat, RepE c P H (List.replicate n .gone) (List.replicate n none) fz
  | 0 => rfl
  | n + 1 => ⟨fz, fz, ⟨rfl, rfl⟩, repE_none n, (fa_fz fz).symm⟩
theorem repE_start {c : LC} {P H : Hp} (n : Nat) : ∀ {ds : List D} {vs : List V} {S : FP}, RepL c P H ds vs S → RepE c P H (ds ++ List.replicate n .gone) (vs.map some ++ List.replicate n none) S
  | [], vs, S, r => by rw [r.1, r.2]; exact repE_none n
  | d :: ds, vs, S, ⟨y, ys, T, U, e, r, rs, f⟩ => by rw [e]; exact ⟨T, U, r, repE_start n rs, f⟩
theorem mask_rep {c : LC} {P H : Hp} : ∀ {kp : List Bool} {vs : List V} {ρ : List D} {σ : L2.St} {S : FP}, RepE c P H ρ σ S → kp.length = vs.length → (∀ (i : Nat) (v : V), kp[i]? = some true → vs[i]? = some v → σ[i]? = some (some v)) →
    ∃ S', RepL c P H (maskL kp ρ) vs S' ∧ ∀ a, S' a ≤ S a
  | [], vs, ρ, σ, S, r, h1, h3 => by
    have : vs = [] := List.length_eq_zero_iff.mp h1.symm
    subst this
    exact ⟨fz, ⟨rfl, rfl⟩, fun a => Nat.zero_le _⟩
  | b :: kp, [], ρ, σ, S, r, h1, h3 => by simp at h1
  | b :: kp, v :: vs, [], [], S, r, h1, h3 => by
    obtain ⟨S', k1, k2⟩ := mask_rep (kp := kp) (vs := vs) (ρ := []) (σ := []) r (by simpa using h1) fun i u z1 z2 => by
      have := h3 (i + 1) u (by simpa using z1) (by simpa using z2)
      simpa using this
    exact ⟨fa fz S', ⟨v, vs, fz, S', rfl, rfl, k1, rfl⟩, fun a => by have := k2 a; simp only [fa, fz]; omega⟩
  | b :: kp, v :: vs, [], _ :: _, S, r, h1, h3 => r.elim
  | b :: kp, v :: vs, d :: ρ, [], S, r, h1, h3 => r.elim
  | b :: kp, v :: vs, d :: ρ, ov :: σ, S, ⟨T, U, r, rs, f⟩, h1, h3 => by
    obtain ⟨S', k1, k2⟩ := mask_rep (kp := kp) (vs := vs) rs (by simpa using h1) fun i u z1 z2 => by
      have := h3 (i + 1) u (by simpa using z1) (by simpa using z2)
      simpa using this
    cases b with
    | false => exact ⟨fa fz S', ⟨v, vs, fz, S', rfl, rfl, k1, rfl⟩, fun a => by have := k2 a; rw [f]; simp only [fa, fz]; omega⟩
    | true =>
      have e := h3 0 v rfl rfl
      simp at e
      subst e
      exact ⟨fa T S', ⟨v, vs, T, S', rfl, r, k1, rfl⟩, fun a => by have := k2 a; rw [f]; simp only [fa]; omega⟩
section
variable {P : Program} {w : World} {K : PySem.W.Frag} {mg : Str → Option Value} {base : Heap} {cl : Nat → Addr}
theorem ok_def {x qual : Str} {st : Stmt} {f : Addr} {fd : FuncData} {N ps : List Str} {k : Nat} {kp : List Bool} {m : SM} (F : Fun K x qual st f fd) (S : FnScope N ps (defScope st)) (hk : kp.length = ps.length)
    (hbody : ∀ (cdv : Value) (A : Around) (outer : List Env) (s : Shared) (H : Hp) (E : XK) (e : En), e.kp = kp → Room k (A.deeper (envOfC qual (defScope st) s.heap.objs.size f cdv)) →
      PSs (cxOf CX0 P w K mg base N qual (defScope st) f cdv A outer s H E).nox (defBody st) (tS ⟨K, cl, w⟩ e m)) : FnOk P w K mg base CX0 (k + 1) f fd ps (spD ⟨K, cl, w⟩ (runM N.length kp m)) := by
  refine F.ok S (fun vs H Q E h => ?_) (fun cdv A outer s H vs Q E hr h => ?_)
  · obtain ⟨Pp, Sp, ds, d, ds', r, _, _, _, hm, _⟩ := h
    unfold runM at hm
    split at hm
    · rename_i hl
      rw [← r.length, hl, hk]
    · cases hm
  · obtain ⟨Pp, Sp, ds, d, ds', r, e1, e2, e3, hm, q⟩ := h
    unfold runM at hm
    split at hm
    · rename_i hl
      have hlv : vs.length = kp.length := by rw [← r.length, hl]
      have hvs : ∀ i : Nat, kp[i]? = some true → ∃ v, vs[i]? = some v := fun i hi => by
        have hi' : i < kp.length := (List.getElem?_eq_some_iff.mp hi).1
        exact ⟨_, List.getElem?_eq_getElem (by omega)⟩
      refine ⟨_, hbody cdv A outer s H E ⟨Pp, H, Sp, kp, vs, hvs, fun _ _ _ _ => False⟩ rfl hr, ?_⟩
      cases em : m (ds ++ List.replicate (N.length - ds.length) .gone) with
      | none => rw [em] at hm; cases hm
      | some rr =>
        obtain ⟨fl, ρ'⟩ := rr
        rw [em, Option.bind_some] at hm
        have w0 : Wd ⟨K, cl, w⟩ ⟨Pp, H, Sp, kp, vs, hvs, fun _ _ _ _ => False⟩ Pp Sp fz (L2.start N vs) H (ds ++ List.replicate (N.length - ds.length) .gone) := by
          refine ⟨?_, fun a => by have := e2 a; simp only [fz]; omega, fun a h => e3 a (by simpa [fz] using h), fun a h => by simp [fz] at h, e1, .refl _, fun _ _ _ h => h, fun a h => .inl h, fun a h => .inl (by simpa [fz] using h), fun i v h1 h2 => ?_⟩
          · unfold L2.start
            rw [r.length]
            exact repE_start _ r
          · unfold L2.start
            have h2 : vs[i]? = some v := h2
            rw [List.getElem?_append_left (by rw [List.length_map]; exact (List.getElem?_eq_some_iff.mp h2).1), List.getElem?_map, h2]
            rfl
        have fin : ∀ (v : V) (σ' : L2.St) (H' P' : Hp) (S' U : FP) (d1 : D), Wd ⟨K, cl, w⟩ ⟨Pp, H, Sp, kp, vs, hvs, fun _ _ _ _ => False⟩ P' S' U σ' H' ρ' → Rep ⟨K, cl, w⟩ P' H' d1 v U → some (d1, maskL kp ρ') = some (d, ds') → Q v H' := by
          intro v σ' H' P' S' U d1 w' rd hs
          cases hs
          obtain ⟨S2, k1, k2⟩ := mask_rep (kp := kp) (vs := vs) w'.env hlv.symm w'.kp
          exact q v H' P' U S2 ⟨w'.p0, w'.ph, w'.fr, w'.np, fun a h => w'.ns a (by have := k2 a; simp only [fa] at h; omega), fun a => by have := k2 a; have := w'.le a; simp only [fa]; omega, fun a h => w'.out a (by have := k2 a; simp only [fa] at h; omega)⟩ rd k1
        refine ⟨Pp, Sp, _, fl, ρ', w0, em, ?_⟩
        cases fl with
        | nx => exact fun σ' H' P' S' w' _ => fin .non σ' H' P' S' fz .non w' ⟨rfl, rfl⟩ hm
        | rt d1 => exact fun v σ' H' P' S' U w' r => fin v σ' H' P' S' U d1 w' r hm
        | bk => cases hm
        | ct => cases hm
        | ex n fs es => cases hm
    · cases hm
end
end LI

namespace LI
open PySem L2

def isFlat : D → Bool
  | .non => true | .bl _ => true | .int _ => true | .str _ => true | _ => false
theorem flat_any {c : LC} {P H P' H' : Hp} : ∀ {d : D} {v : V} {U : FP}, isFlat d = true → Rep c P H d v U → Rep c P' H' d v fz
  | .non, v, U, _, r => ⟨r.1, rfl⟩
  | .bl _, v, U, _, r => ⟨r.1, rfl⟩
  | .int _, v, U, _, r => ⟨r.1, rfl⟩
  | .str _, v, U, _, r => ⟨r.1, rfl⟩
def callM (F : FM) (ms : AM) : RM := fun ρ => (ms ρ).bind fun ds => (F (iceL ds)).bind fun r => if frzL ds = true ∨ noIce r.1 = true then some r.1 else none
def coldP (U : FP) (P H : Hp) : Hp := fun a => if 0 < U a then H a else P a
theorem coldP_p {U : FP} {P H : Hp} (e : Ex P H) : Ex P (coldP U P H) := fun a o h => by
  unfold coldP
  split
  · exact e a o h
  · exact h
theorem coldP_h {U : FP} {P H : Hp} (e : Ex P H) : Ex (coldP U P H) H := fun a o h => by
  unfold coldP at h
  split at h
  · exact h
  · exact e a o h
theorem coldP_fz {P H : Hp} : coldP fz P H = P := by funext a; simp [coldP, fz]
theorem spD_view {c : LC} {F : FM} {P H : Hp} {ds : List D} {vs : List V} {U : FP} {d : D} {ds' : List D} {Q : VK} {E : XK} (e : Ex P H) (r : RepL c P H ds vs U) (hf : F (iceL ds) = some (d, ds')) (hz : frzL ds = true ∨ noIce d = true) (q : FQ c P H d Q) : spD c F vs H Q E := by
  refine ⟨coldP U P H, fz, iceL ds, d, ds', RepL.ice (coldP_p e) ds vs U (fun a o h1 h2 => by unfold coldP; rw [if_pos h1]; exact h2) r, coldP_h e, fun _ => Nat.zero_le _, fun a h => by simp [fz] at h, hf, fun v H' P' U2 S' st rd rs => ?_⟩
  have hH : Ex H H' := fun a o h => st.fr a o rfl h
  rcases hz with hz | hz
  · have := RepL.frz0 ds vs U hz r
    subst this
    rw [coldP_fz] at st
    refine q v H' P' U2 ⟨st.p0, hH, st.ph, fun a h => by rcases st.np a h with z | z | z <;> first | exact .inl z | (simp [fz] at z; done) | exact .inr z⟩ rd (fun a => by have := st.le a; simp only [fa] at this; omega) fun a h => ?_
    refine ⟨?_, st.out a (by simp only [fa]; omega)⟩
    rcases st.ns a (by simp only [fa]; omega) with z | z
    · simp [fz] at z
    · exact z
  · have hU : ∀ a, 0 < U a → ∃ o, H a = some o ∧ notTup o = true := RepL.nt ds vs U r
    have hP : ∀ a o, P a = some o → (if 0 < U a then P a else P' a) = some o := fun a o h => by
      split
      · exact h
      · rename_i z
        exact st.p0 a o (by unfold coldP; rw [if_neg z]; exact h)
    refine q v H' (fun a => if 0 < U a then P a else P' a) U2 ⟨hP, hH, fun a o h => ?_, fun a h => ?_⟩ (Rep.thaw (fun b o h1 h2 => ?_) d v U2 hz rd) (fun a => by have := st.le a; simp only [fa] at this; omega) fun a h => ?_
    · skip
      split at h
      · exact hH a o (e a o h)
      · exact st.ph a o h
    · skip
      split at h
      · exact .inl h
      · rename_i z
        rcases st.np a h with y | y | y
        · unfold coldP at y; rw [if_neg z] at y; exact .inl y
        · simp [fz] at y
        · exact .inr y
    · skip
      rw [if_neg]
      · exact h1
      · intro z
        obtain ⟨o2, k1, k2⟩ := hU b z
        have := hH b o2 k1
        rw [st.ph b o h1] at this
        cases this
        rw [h2] at k2; cases k2
    · have hn : H a = none := by
        rcases st.ns a (by simp only [fa]; omega) with z | z
        · simp [fz] at z
        · exact z
      refine ⟨hn, ?_⟩
      skip
      rw [if_neg]
      · exact st.out a (by simp only [fa]; omega)
      · intro z
        obtain ⟨o2, k1, _⟩ := hU a z
        rw [hn] at k1; cases k1
section
variable {X : Cx} {cl : Nat → Addr} {E : En} {e a b o : Expr} {es : List Expr} {pos p apos : Pos} {m : RM} {ms : AM} {CX : CXT} {k : Nat} {f C : Addr} {fd : FuncData} {ps : List Str} {F : FM} {XE : XK} {x nm : Str}
theorem call_split {ρ : List D} {d : D} (h : callM F ms ρ = some d) : ∃ ds ds', ms ρ = some ds ∧ F (iceL ds) = some (d, ds') ∧ (frzL ds = true ∨ noIce d = true) := by
  unfold callM at h
  cases e1 : ms ρ with
  | none => rw [e1] at h; cases h
  | some ds =>
    rw [e1, Option.bind_some] at h
    cases e2 : F (iceL ds) with
    | none => rw [e2] at h; cases h
    | some r =>
      rw [e2, Option.bind_some] at h
      split at h
      · rename_i hz
        cases h
        exact ⟨ds, r.2, rfl, e2, hz⟩
      · cases h
theorem f_call (G : FnOk X.prog X.w X.K X.mg X.base CX k f fd ps (spD ⟨X.K, cl, X.w⟩ F)) (hr : Room k X.A) (hg : Gl X x) (hm : X.mg x = some (.ref f)) (hk : PySem.W.keepIn X.K (.ref f) = true) (hb : Binds X.K fd ps []) (hx : Passes CX X XE)
    (ha : PA X (e :: es) (tAR ⟨X.K, cl, X.w⟩ E ms)) (hdb : (x == ("__debug__" : Str)) = false := by decide) (he : starEach (e :: es) X.env = (false, eval e X.env) :: starEach es X.env := by rfl) (hpl : (backTo pos (starEach es X.env)).any (·.1) = false := by rfl) :
    PE X (.Call (.Name x p) (e :: es) [] pos) (tF ⟨X.K, cl, X.w⟩ E (callM F ms)) := PE_imp (pe_call G hr hg hm hk hb .nil hx ha hdb he hpl) fun σ H Q ⟨P, S, T, ρ, d, w, h, q⟩ => by
  obtain ⟨ds, ds', e1, e2, hz⟩ := call_split h
  refine ⟨P, S, T, ρ, ds, w, e1, fun vs H1 P1 U1 g1 r1 => ?_⟩
  show spD ⟨X.K, cl, X.w⟩ F (vs ++ []) H1 Q XE
  rw [List.append_nil]
  exact spD_view g1.ph r1 e2 hz (q.grow g1)
def mkM (n : Nat) (F : FM) (ms : AM) : RM := fun ρ => (ms ρ).bind fun ds => if frzL ds = true then (F (.obj true n [] [] :: ds)).bind fun r => match r with | (.non, self :: _) => some self | _ => none else none
theorem mk_run {c : LC} {n : Nat} {P H : Hp} {ds : List D} {vs : List V} {self : D} {ds' : List D} {Q : VK} {XE : XK} (e : Ex P H) (r : RepL c P H ds vs fz) (hf : F (.obj true n [] [] :: ds) = some (.non, self :: ds')) (q : FQ c P H self Q) :
    ∀ x dx, H x = none → H dx = none → dx ≠ x → spD c F (.ref x :: (vs ++ [])) (upd (upd H dx (.own x)) x (.ins (c.cl n) dx [])) (fun v H2 => v = .non ∧ Q (.ref x) H2) XE := by
  intro x dx hx hdx hne
  have ex : Ex H (upd (upd H dx (.own x)) x (.ins (c.cl n) dx [])) := fun a o z => by
    rw [upd_ne (ne_of_none z hx), upd_ne (ne_of_none z hdx)]; exact z
  have back : ∀ a, upd (upd H dx (.own x)) x (.ins (c.cl n) dx []) a = none → H a = none := fun a z => by
    cases q : H a with
    | none => rfl
    | some o => rw [ex a o q] at z; cases z
  rw [List.append_nil]
  refine ⟨P, fa (one x) fz, .obj true n [] [] :: ds, _, _, ⟨.ref x, vs, one x, fz, rfl, ⟨x, dx, [], fz, rfl, upd_same, rfl, ⟨rfl, rfl⟩, (fa_fz _).symm⟩, repL_h r, rfl⟩, e.trans ex, fun a => by rw [fa_fz]; exact one_le a, fun a z => ?_, hf, fun v H' P' U S' st rd rs => ?_⟩
  · rw [fa_fz] at z; rw [one_pos z]; exact none_of e hx
  · rw [fa_fz] at st
    obtain ⟨y, ys, T1, T2, e1, r1, _, e2⟩ := rs
    cases e1
    have hH : Ex H H' := fun a o z => st.fr a o (by unfold one; rw [if_neg (ne_of_none z hx)]) (ex a o z)
    have old : ∀ a, (0 < one x a ∨ upd (upd H dx (.own x)) x (.ins (c.cl n) dx []) a = none) → H a = none := fun a z => by
      rcases z with z | z
      · rw [one_pos z]; exact hx
      · exact back a z
    refine ⟨rd.1, q (.ref x) H' P' T1 ⟨st.p0, hH, st.ph, fun a z => ?_⟩ r1 (fun a => ?_) fun a z => ⟨old a (st.ns a ?_), st.out a ?_⟩⟩
    · rcases st.np a z with z | z | z
      · exact .inl z
      · exact .inr (old a (.inl z))
      · exact .inr (old a (.inr z))
    · have := st.le a; rw [e2] at this; simp only [fa] at this; omega
    · rw [e2]; simp only [fa]; omega
    · rw [e2]; simp only [fa]; omega
theorem mk_split {n : Nat} {ρ : List D} {d : D} (h : mkM n F ms ρ = some d) : ∃ ds ds', ms ρ = some ds ∧ frzL ds = true ∧ F (.obj true n [] [] :: ds) = some (.non, d :: ds') := by
  unfold mkM at h
  cases e1 : ms ρ with
  | none => rw [e1] at h; cases h
  | some ds =>
    rw [e1, Option.bind_some] at h
    split at h
    · rename_i hz
      cases e2 : F (.obj true n [] [] :: ds) with
      | none => rw [e2] at h; cases h
      | some r =>
        rw [e2, Option.bind_some] at h
        split at h
        · cases h; exact ⟨ds, _, rfl, hz, e2⟩
        · cases h
    · cases h
theorem f_mk (n : Nat) (M : Mk X.K (cl n) f) (G : FnOk X.prog X.w X.K X.mg X.base CX k f fd ps (spD ⟨X.K, cl, X.w⟩ F)) (hr : Room (k + 1) X.A) (hg : Gl X x) (hm : X.mg x = some (.ref (cl n))) (hb : Binds X.K fd ps []) (hx : Passes CX X XE)
    (ha : PA X (e :: es) (tAR ⟨X.K, cl, X.w⟩ E ms)) (hdb : (x == ("__debug__" : Str)) = false := by decide) (he : starEach (e :: es) X.env = (false, eval e X.env) :: starEach es X.env := by rfl) (hpl : (backTo pos (starEach es X.env)).any (·.1) = false := by rfl) :
    PE X (.Call (.Name x p) (e :: es) [] pos) (tF ⟨X.K, cl, X.w⟩ E (mkM n F ms)) := PE_imp (pe_make M G hr hg hm hb .nil hx ha hdb he hpl) fun σ H Q ⟨P, S, T, ρ, d, w, h, q⟩ => by
  obtain ⟨ds, ds', e1, hz, e2⟩ := mk_split h
  refine ⟨P, S, T, ρ, ds, w, e1, fun vs H1 P1 U1 g1 r1 => ?_⟩
  have := RepL.frz0 ds vs U1 hz r1
  subst this
  exact mk_run g1.ph r1 e2 (q.grow g1)
end

structure Lens where
  get : List D → Option D
  put : List D → D → List D
structure Loc (c : LC) (L : Lens) (P H : Hp) (σ : L2.St) (ρ : List D) (S : FP) (v : V) (d : D) (Sd R : FP) : Prop where
  sum : ∀ a, S a = Sd a + R a
  rep : Rep c P H d v Sd
  put : ∀ (P2 H2 : Hp) (d2 : D) (S2 : FP), Ex P P2 → (∀ a o, 0 < R a → H a = some o → H2 a = some o) → Rep c P2 H2 d2 v S2 → RepE c P2 H2 (L.put ρ d2) σ (fa S2 R)
theorem Loc.grow {c : LC} {L : Lens} {P H P' H' : Hp} {σ : L2.St} {ρ : List D} {S : FP} {v : V} {d : D} {Sd R : FP} (l : Loc c L P H σ ρ S v d Sd R) (g : Gr P H P' H') : Loc c L P' H' σ ρ S v d Sd R :=
  ⟨l.sum, l.rep.gr g, fun P2 H2 d2 S2 e k r => l.put P2 H2 d2 S2 (g.p.trans e) (fun a o h1 h2 => k a o h1 (g.h a o h2)) r⟩
def tPl (c : LC) (E : En) (L : Lens) : TE := fun σ H Q => ∃ P S T ρ d, Wd c E P S T σ H ρ ∧ L.get ρ = some d ∧ ∀ v Sd R, Loc c L P H σ ρ S v d Sd R → Q v H
theorem RepE.focus {c : LC} {P H : Hp} : ∀ {ρ : List D} {σ : L2.St} {S : FP} {i : Nat} {d : D}, RepE c P H ρ σ S → ρ[i]? = some d → notGone d = true → ∃ v Sd R, σ[i]? = some (some v) ∧ Rep c P H d v Sd ∧ (∀ a, S a = Sd a + R a) ∧
    ∀ (P2 H2 : Hp) (d2 : D) (S2 : FP), Ex P P2 → (∀ a o, 0 < R a → H a = some o → H2 a = some o) → Rep c P2 H2 d2 v S2 → RepE c P2 H2 (ρ.set i d2) σ (fa S2 R)
  | [], [], _, i, d, _, e, _ => by simp at e
  | d0 :: ρ, v0 :: σ, S, 0, d, ⟨T, U, r, rs, f⟩, e, n => by
    simp at e; subst e
    cases v0 with
    | none => rw [r.1] at n; cases n
    | some v =>
      exact ⟨v, T, U, rfl, r, fun a => by rw [f]; rfl, fun P2 H2 d2 S2 e1 k r2 => ⟨S2, U, r2, rs.mono e1 ρ σ U k, rfl⟩⟩
  | d0 :: ρ, v0 :: σ, S, i + 1, d, ⟨T, U, r, rs, f⟩, e, n => by
    obtain ⟨v, Sd, R, h1, h2, h3, h4⟩ := RepE.focus (i := i) (d := d) rs (by simpa using e) n
    refine ⟨v, Sd, fa T R, by simpa using h1, h2, fun a => by have := h3 a; rw [f]; simp only [fa]; omega, fun P2 H2 d2 S2 e1 k r2 => ?_⟩
    refine ⟨T, fa S2 R, RepO.mono e1 (fun a o z1 z2 => k a o (by simp only [fa]; omega) z2) r, h4 P2 H2 d2 S2 e1 (fun a o z1 z2 => k a o (by simp only [fa]; omega) z2) r2, by funext a; simp only [fa]; omega⟩
  | [], _ :: _, _, _, _, h, _, _ => h.elim
  | _ :: _, [], _, _, _, h, _, _ => h.elim
theorem RepL.focus {c : LC} {P H : Hp} : ∀ {ds : List D} {xs : List V} {S : FP} {i : Nat} {d : D}, RepL c P H ds xs S → ds[i]? = some d → ∃ v Sd R, xs[i]? = some v ∧ Rep c P H d v Sd ∧ (∀ a, S a = Sd a + R a) ∧
    ∀ (P2 H2 : Hp) (d2 : D) (y : V) (S2 : FP), Ex P P2 → (∀ a o, 0 < R a → H a = some o → H2 a = some o) → Rep c P2 H2 d2 y S2 → RepL c P2 H2 (ds.set i d2) (xs.set i y) (fa S2 R)
  | [], xs, S, i, d, h, e => by simp at e
  | d0 :: ds, xs, S, 0, d, ⟨y, ys, T, U, e1, r, rs, f⟩, e => by
    simp at e; subst e
    subst e1
    exact ⟨y, T, U, rfl, r, fun a => by rw [f]; rfl, fun P2 H2 d2 z S2 e1 k r2 => ⟨z, ys, S2, U, rfl, r2, RepL.mono e1 ds ys U k rs, rfl⟩⟩
  | d0 :: ds, xs, S, i + 1, d, ⟨y, ys, T, U, e1, r, rs, f⟩, e => by
    subst e1
    obtain ⟨v, Sd, R, h1, h2, h3, h4⟩ := RepL.focus (i := i) (d := d) rs (by simpa using e)
    refine ⟨v, Sd, fa T R, by simpa using h1, h2, fun a => by have := h3 a; rw [f]; simp only [fa]; omega, fun P2 H2 d2 z S2 e1 k r2 => ?_⟩
    refine ⟨y, ys.set i z, T, fa S2 R, rfl, Rep.mono e1 d0 y T (fun a o z1 z2 => k a o (by simp only [fa]; omega) z2) r, h4 P2 H2 d2 z S2 e1 (fun a o z1 z2 => k a o (by simp only [fa]; omega) z2) r2, by funext a; simp only [fa]; omega⟩
def vL (i : Nat) : Lens := ⟨fun ρ => (ρ[i]?).bind fun d => if notGone d = true then some d else none, fun ρ d => ρ.set i d⟩
theorem vL_get {i : Nat} {ρ : List D} {d : D} (h : (vL i).get ρ = some d) : ρ[i]? = some d ∧ notGone d = true := by
  unfold vL at h
  cases e : ρ[i]? with
  | none => simp [e] at h
  | some d1 =>
    simp only [e, Option.bind_some] at h
    split at h
    · rename_i hn; cases h; exact ⟨rfl, hn⟩
    · cases h
def fIx (f : Str) : List Str → Option Nat
  | [] => none
  | g :: gs => if f = g then some 0 else (fIx f gs).map (· + 1)
def fldL (n : Nat) (f : Str) (L : Lens) : Lens := ⟨fun ρ => (L.get ρ).bind fun d => match d with
    | .obj _ k fs ds => if k = n then (fIx f fs).bind fun j => (ds[j]?).bind fun d => if notGone d = true then some d else none else none
    | _ => none,
  fun ρ d2 => match L.get ρ with
    | some (.obj o k fs ds) => match fIx f fs with
      | some j => L.put ρ (.obj o k fs (ds.set j d2))
      | none => ρ
    | _ => ρ⟩
theorem fIx_lookup {f : Str} : ∀ {fs : List Str} {xs : List V} {j : Nat}, fIx f fs = some j → fs.length = xs.length → (fs.zip xs).lookup f = xs[j]?
  | [], xs, j, h, n => by cases h
  | g :: gs, [], j, h, n => by simp at n
  | g :: gs, x :: xs, j, h, n => by
    unfold fIx at h
    by_cases e : f = g
    · rw [if_pos e] at h; cases h
      have : (f == g) = true := by rw [e]; exact beq_self_eq_true _
      simp [List.lookup, this]
    · rw [if_neg e] at h
      cases z : fIx f gs with
      | none => rw [z] at h; cases h
      | some j' =>
        rw [z] at h; cases h
        have : (f == g) = false := beq_eq_false_iff_ne.mpr e
        simp [List.lookup, this, fIx_lookup z (by simpa using n)]
theorem obj_heap {c : LC} {P H : Hp} (e : Ex P H) {o : Bool} {k : Nat} {fs : List Str} {ds : List D} {v : V} {U : FP} (r : Rep c P H (.obj o k fs ds) v U) : ∃ a dx xs T Z, v = .ref a ∧ H a = some (.ins (c.cl k) dx (fs.zip xs)) ∧ fs.length = xs.length ∧ RepL c P H ds xs T ∧ (∀ b, U b = Z b + T b) ∧
    ∀ (P2 H2 : Hp) (ds2 : List D) (T2 : FP), Ex P P2 → (∀ b u, 0 < Z b → H b = some u → H2 b = some u) → RepL c P2 H2 ds2 xs T2 → Rep c P2 H2 (.obj o k fs ds2) v (fa Z T2) := by
  cases o with
  | true =>
    obtain ⟨a, dx, xs, T, e1, h, n, rl, f⟩ := r
    exact ⟨a, dx, xs, T, one a, e1, h, n, rl, fun b => by rw [f]; rfl, fun P2 H2 ds2 T2 _ hk r2 => ⟨a, dx, xs, T2, e1, hk a _ (by simp [one]) h, n, r2, rfl⟩⟩
  | false =>
    obtain ⟨a, dx, xs, e1, h, n, rl⟩ := r
    exact ⟨a, dx, xs, U, fz, e1, e _ _ h, n, rl, fun b => by simp [fz], fun P2 H2 ds2 T2 hp _ r2 => ⟨a, dx, xs, e1, hp _ _ h, n, by rw [fz_fa]; exact r2⟩⟩
section
variable {X : Cx} {cl : Nat → Addr} {E : En} {e a b o : Expr} {es : List Expr} {pos p apos : Pos} {m : RM} {L : Lens}
theorem p_v (i : Nat) {x : Str} (hN : X.N[i]? = some x := by rfl) (hv : Vis X.env.scope x := by first | exact Or.inl rfl | exact Or.inr (Or.inl rfl) | exact Or.inr (Or.inr rfl)) (hd : (x == ("__debug__" : Str)) = false := by decide)
    (hcd : (x == ("__classdict__" : Str)) = false := by decide) : PE X (.Name x pos) (tPl ⟨X.K, cl, X.w⟩ E (vL i)) := PE_imp (pe_var hN hv hd hcd) fun σ H Q ⟨P, S, T, ρ, d, w, hg, q⟩ => by
  obtain ⟨h1, h2⟩ := vL_get hg
  obtain ⟨v, Sd, R, k1, k2, k3, k4⟩ := w.env.focus h1 h2
  exact ⟨v, k1, q v Sd R ⟨k3, k2, k4⟩⟩
theorem fld_split {n : Nat} {f : Str} {ρ : List D} {d : D} (h : (fldL n f L).get ρ = some d) : ∃ o fs ds j, L.get ρ = some (.obj o n fs ds) ∧ fIx f fs = some j ∧ ds[j]? = some d ∧ notGone d = true ∧ ∀ d2, (fldL n f L).put ρ d2 = L.put ρ (.obj o n fs (ds.set j d2)) := by
  unfold fldL at h
  cases e1 : L.get ρ with
  | none => simp [e1] at h
  | some d0 =>
    cases d0 with
    | obj o k fs ds =>
      simp only [e1, Option.bind_some] at h
      split at h
      · rename_i hk
        subst hk
        cases e2 : fIx f fs with
        | none => rw [e2] at h; cases h
        | some j =>
          rw [e2, Option.bind_some] at h
          cases e3 : ds[j]? with
          | none => rw [e3] at h; cases h
          | some d1 =>
            rw [e3, Option.bind_some] at h
            split at h
            · rename_i hn
              cases h
              exact ⟨o, fs, ds, j, rfl, e2, e3, hn, fun d2 => by simp [fldL, e1, e2]⟩
            · cases h
      · cases h
    | _ => simp [e1] at h
theorem p_fld (n : Nat) {f : Str} (hc : Cls X.K (cl n)) (hn : NoAttr X.K (cl n) f) (he : PE X e (tPl ⟨X.K, cl, X.w⟩ E L)) (hb : attributeBase e f X.env (eval e X.env) = eval e X.env := by rfl) : PE X (.Attribute e f pos) (tPl ⟨X.K, cl, X.w⟩ E (fldL n f L)) := PE_imp (pe_fld he hb) fun σ H Q ⟨P, S, T, ρ, d, w, hg, q⟩ => by
  obtain ⟨o, fs, ds, j, h1, h2, h3, h4, h5⟩ := fld_split hg
  refine ⟨P, S, T, ρ, _, w, h1, fun v Sd R l => ?_⟩
  obtain ⟨a, dx, xs, T1, Z, e1, hh, nl, rl, hz, hput⟩ := obj_heap w.ph l.rep
  obtain ⟨y, S1, R1, k1, k2, k3, k4⟩ := rl.focus h3
  refine ⟨a, cl n, dx, _, y, e1, hh, hc, hn, by rw [fIx_lookup h2 nl]; exact k1, q y S1 (fa (fa Z R1) R) ⟨fun b => ?_, k2, fun P2 H2 d2 S2 ep kr r2 => ?_⟩⟩
  · have := l.sum b; have := hz b; have := k3 b; simp only [fa]; omega
  · rw [h5]
    have rl2 := k4 P2 H2 d2 y S2 ep (fun b u z1 z2 => kr b u (by simp only [fa]; omega) z2) r2
    have e2 : xs.set j y = xs := by
      apply List.ext_getElem?
      intro t
      by_cases ht : t = j
      · subst ht; rw [k1, List.getElem?_set_self (List.getElem?_eq_some_iff.mp k1).1]
      · rw [List.getElem?_set_ne (Ne.symm ht)]
    rw [e2] at rl2
    have := l.put P2 H2 _ _ ep (fun b u z1 z2 => kr b u (by simp only [fa]; omega) z2) (hput P2 H2 _ _ ep (fun b u z1 z2 => kr b u (by simp only [fa]; omega) z2) rl2)
    have e3 : fa (fa Z (fa S2 R1)) R = fa S2 (fa (fa Z R1) R) := by funext b; simp only [fa]; omega
    rw [e3] at this
    exact this
theorem r_pl (h : PE X e (tPl ⟨X.K, cl, X.w⟩ E L)) : PE X e (tR ⟨X.K, cl, X.w⟩ E L.get) := PE_imp h fun σ H Q ⟨P, S, T, ρ, d, w, hm, q⟩ => ⟨P, S, T, ρ, d, w, hm, fun v Sd R l => q v H P Sd (.refl w.ph) l.rep⟩
end
end LI

namespace LI
open PySem L2

section
variable {c : LC} {E : En} {P P' : Hp} {S T : FP} {σ : L2.St} {H H' : Hp} {ρ ρ' : List D}
theorem Wd.through {Sd R V S2 U : FP} (w : Wd c E P S T σ H ρ) (hS : ∀ a, S a = Sd a + R a) (st : Stp P Sd H P' V H') (henv : RepE c P' H' ρ' σ S2) (h2 : ∀ a, S2 a + U a ≤ V a + R a) (hU : ∀ a, 0 < U a → H' a ≠ none) : Wd c E P' S2 (fa T U) σ H' ρ' := by
  have there : ∀ a, 0 < R a + T a → H a ≠ none ∧ Sd a = 0 := fun a h => by
    have l := w.le a
    have s := hS a
    refine ⟨?_, by omega⟩
    by_cases hT : 0 < T a
    · exact w.th a hT
    · exact RepE.there ρ σ S w.env a (by omega)
  have apart : ∀ a, 0 < V a → R a + T a = 0 := fun a h => by
    rcases st.ns a h with z | z
    · have l := w.le a; have s := hS a; omega
    · rcases Nat.eq_zero_or_pos (R a + T a) with q | q
      · exact q
      · exact absurd z (there a q).1
  have stay : ∀ a, 0 < R a + T a → P' a = none := fun a h => by
    cases q : P' a with
    | none => rfl
    | some o =>
      rcases st.np a (by rw [q]; simp) with z | z | z
      · exact absurd (w.out a (by have := hS a; omega)) z
      · have := (there a h).2; omega
      · exact absurd z (there a h).1
  refine ⟨henv, fun a => ?_, fun a h => ?_, fun a h => ?_, st.ph, w.p0.trans st.p0, fun a o h1 h2 => ?_, fun a h => ?_, fun a h => ?_, w.kp⟩
  · have h2a := h2 a; have le := st.le a; have l := w.le a; have s := hS a
    simp only [fa]
    by_cases hv : 0 < V a
    · have := apart a hv; omega
    · omega
  · simp only [fa] at h
    have h2a := h2 a
    by_cases hv : 0 < V a
    · exact st.out a hv
    · exact stay a (by omega)
  · simp only [fa] at h
    by_cases hT : 0 < T a
    · cases z : H a with
      | none => exact absurd z (w.th a hT)
      | some o => rw [st.fr a o (there a (by omega)).2 z]; simp
    · exact hU a (by omega)
  · refine st.fr a o ?_ (w.fr a o h1 h2)
    rcases Nat.eq_zero_or_pos (Sd a) with z | z
    · exact z
    · rcases w.ns a (by have := hS a; omega) with q | q
      · omega
      · rw [q] at h2; cases h2
  · rcases st.np a h with z | z | z
    · exact w.np a z
    · rcases w.ns a (by have := hS a; omega) with q | q
      · exact .inr (.inl q)
      · exact .inr (.inr q)
    · cases q : E.H0 a with
      | none => exact .inr (.inr rfl)
      | some o =>
        by_cases hs : E.S0 a = 0
        · rw [w.fr a o hs q] at z; cases z
        · exact .inr (.inl (by omega))
  · simp only [fa] at h
    have h2a := h2 a
    by_cases hv : 0 < V a
    · rcases st.ns a hv with z | z
      · exact w.ns a (by have := hS a; omega)
      · cases q : E.H0 a with
        | none => exact .inr rfl
        | some o =>
          by_cases hs : E.S0 a = 0
          · rw [w.fr a o hs q] at z; cases z
          · exact .inl (by omega)
    · exact w.ns a (by have := hS a; omega)
end

section
variable {X : Cx} {cl : Nat → Addr} {E : En} {e a b o : Expr} {es : List Expr} {pos p apos : Pos} {m : RM} {ms : AM} {CX : CXT} {k n : Nat} {f C : Addr} {fd : FuncData} {ps : List Str} {F : FM} {XE : XK} {x nm : Str} {L : Lens}
def isObjK (n : Nat) (nm : Str) : D → Bool
  | .obj _ k fs _ => decide (k = n) && !fs.contains nm
  | _ => false
theorem lookup_zip_none {nm : Str} : ∀ {fs : List Str} {xs : List V}, fs.contains nm = false → (fs.zip xs).lookup nm = none
  | [], _, _ => rfl
  | _ :: _, [], _ => rfl
  | g :: gs, y :: ys, h => by
    simp only [List.contains_cons, Bool.or_eq_false_iff] at h
    rw [List.zip_cons_cons]
    show (match nm == g with | true => some y | false => List.lookup nm (gs.zip ys)) = none
    rw [h.1]
    exact lookup_zip_none h.2
theorem isObj_v {c : LC} {P H : Hp} (e : Ex P H) {d : D} {v : V} {U : FP} (h : isObjK n nm d = true) (r : Rep c P H d v U) : ∃ a dx fs, v = .ref a ∧ H a = some (.ins (c.cl n) dx fs) ∧ fs.lookup nm = none := by
  cases d with
  | obj o k fs ds =>
    simp only [isObjK, Bool.and_eq_true, decide_eq_true_eq, Bool.not_eq_true'] at h
    obtain ⟨rfl, hn⟩ := h
    obtain ⟨a, dx, xs, T, Z, e1, hh, nl, _⟩ := obj_heap e r
    exact ⟨a, dx, _, e1, hh, lookup_zip_none hn⟩
  | _ => cases h
def lookM (n : Nat) (nm : Str) (mo : RM) (F : FM) (ms : AM) : RM := fun ρ => (mo ρ).bind fun self => (ms ρ).bind fun ds => if isObjK n nm self = true then (F (iceL (self :: ds))).bind fun r => if frzL (self :: ds) = true ∨ noIce r.1 = true then some r.1 else none else none
theorem look_run {mo : RM} (h : tF ⟨X.K, cl, X.w⟩ E (lookM n nm mo F ms) σ H Q) : tMeth (cl n) nm (spD ⟨X.K, cl, X.w⟩ F) [] XE (tR ⟨X.K, cl, X.w⟩ E mo) (tAR ⟨X.K, cl, X.w⟩ E ms) σ H Q := by
  obtain ⟨P, S, T, ρ, d, w, hm, q⟩ := h
  unfold lookM at hm
  cases e1 : mo ρ with
  | none => rw [e1] at hm; cases hm
  | some self =>
    cases e2 : ms ρ with
    | none => rw [e1, e2] at hm; cases hm
    | some ds =>
      rw [e1, e2, Option.bind_some, Option.bind_some] at hm
      split at hm
      · rename_i hc
        cases e3 : F (iceL (self :: ds)) with
        | none => rw [e3] at hm; cases hm
        | some r =>
          rw [e3, Option.bind_some] at hm
          split at hm
          · rename_i hz
            cases hm
            refine ⟨P, S, T, ρ, self, w, e1, fun v H1 P1 U1 g1 r1 => ?_⟩
            obtain ⟨a, dx, fs, ev, hh, hl⟩ := isObj_v g1.ph hc r1
            refine ⟨a, dx, fs, ev, hh, hl, P1, S, T, ρ, ds, w.grow g1, e2, fun vs H2 P2 U2 g2 r2 => ?_⟩
            show spD ⟨X.K, cl, X.w⟩ F (v :: (vs ++ [])) H2 Q XE
            rw [List.append_nil]
            exact spD_view (ds' := r.2) g2.ph (show RepL ⟨X.K, cl, X.w⟩ P2 H2 (self :: ds) (v :: vs) (fa U1 U2) from ⟨v, vs, U1, U2, rfl, r1.gr g2, r2, rfl⟩) e3 hz (q.grow (g1.trans g2))
          · cases hm
      · cases hm
theorem f_look {pl : Sem Bool} {mo : RM} (n : Nat) (he : PE X o (tR ⟨X.K, cl, X.w⟩ E mo)) (c : Cls X.K (cl n)) (hm : Meth X.K (cl n) nm f) (G : FnOk X.prog X.w X.K X.mg X.base CX k f fd ps (spD ⟨X.K, cl, X.w⟩ F)) (hr : Room k X.A) (hb : Binds X.K fd ps []) (hx : Passes CX X XE) (ha : PA X (e :: es) (tAR ⟨X.K, cl, X.w⟩ E ms))
    (hst : starEach (e :: es) X.env = (false, eval e X.env) :: starEach es X.env := by rfl) (hpl : (backTo pos (starEach es X.env)).any (·.1) = false := by rfl)
    (ht : eval (.Call (.Attribute o nm apos) (e :: es) [] pos) X.env = (do
      let ov ← eval o X.env
      standAt apos.atName
      let (f, first) ← holding [ov] (getMethod ov nm pl)
      callWith pos f first (backTo pos (starEach (e :: es) X.env)) (backToKw pos (keywordEach [] X.env))) := by rfl) :
    PE X (.Call (.Attribute o nm apos) (e :: es) [] pos) (tF ⟨X.K, cl, X.w⟩ E (lookM n nm mo F ms)) := PE_imp (pe_meth he c hm G hr hb .nil hx ha hst hpl ht) fun _ _ _ h => look_run h
theorem f_look0 {pl : Sem Bool} {mo : RM} (n : Nat) (he : PE X o (tR ⟨X.K, cl, X.w⟩ E mo)) (c : Cls X.K (cl n)) (hm : Meth X.K (cl n) nm f) (G : FnOk X.prog X.w X.K X.mg X.base CX k f fd ps (spD ⟨X.K, cl, X.w⟩ F)) (hr : Room k X.A) (hb : Binds X.K fd ps []) (hx : Passes CX X XE)
    (ht : eval (.Call (.Attribute o nm apos) [] [] pos) X.env = (do
      let ov ← eval o X.env
      standAt apos.atName
      let (f, first) ← holding [ov] (getMethod ov nm pl)
      callWith pos f first (backTo pos (starEach [] X.env)) (backToKw pos (keywordEach [] X.env))) := by rfl) :
    PE X (.Call (.Attribute o nm apos) [] [] pos) (tF ⟨X.K, cl, X.w⟩ E (lookM n nm mo F nilM)) := PE_imp (pe_meth0 he c hm G hr hb .nil hx ht) fun σ H Q h => by
  obtain ⟨P, S, T, ρ, d, w, hg, q⟩ := look_run (XE := XE) h
  refine ⟨P, S, T, ρ, d, w, hg, fun v H1 P1 U1 g1 r1 => ?_⟩
  obtain ⟨a, dx, fs, ev, hh, hl, P2, S2, T2, ρ2, ds, w2, hn, q2⟩ := q v H1 P1 U1 g1 r1
  cases hn
  exact ⟨a, dx, fs, ev, hh, hl, q2 [] H1 P2 fz (.refl w2.ph) ⟨rfl, rfl⟩⟩

theorem loc_lst {c : LC} {P H : Hp} {S T U : FP} {ρ : List D} {v : V} {ds : List D} {Sd R : FP} (w : Wd c E P S (fa T U) σ H ρ) (l : Loc c L P H σ ρ S v (.lst true ds) Sd R) : ∃ a xs T1, v = .ref a ∧ H a = some (.lst xs) ∧ RepL c P H ds xs T1 ∧ (∀ b, Sd b = one a b + T1 b) ∧
    ∀ (ys : List V) (es : List D) (T2 U2 : FP), RepL c P (upd H a (.lst ys)) es ys T2 → (∀ b, T2 b + U2 b ≤ T1 b + U b) → Wd c E P (fa (fa (one a) T2) R) (fa T U2) σ (upd H a (.lst ys)) (L.put ρ (.lst true es)) := by
  obtain ⟨a, xs, T1, e1, hh, rl, f⟩ := l.rep
  have hSd : ∀ b, Sd b = one a b + T1 b := fun b => by rw [f]; rfl
  refine ⟨a, xs, T1, e1, hh, rl, hSd, fun ys es T2 U2 r2 hb => ?_⟩
  have ha : 0 < S a := by have := l.sum a; have := hSd a; simp [one] at *; omega
  have henv := l.put P (upd H a (.lst ys)) (.lst true es) (fa (one a) T2) (.refl _) (fun b u hb hu => by
    have hne : b ≠ a := fun z => by
      subst z
      have := w.le b; have := l.sum b; have := hSd b
      simp [one] at *; omega
    rw [upd_ne hne]; exact hu) ⟨a, ys, T2, e1, upd_same, r2, rfl⟩
  have wT : Wd c E P S (fa T U) σ H ρ := w
  -- the part aside may give to the slots
  have hP : P a = none := w.out a (by omega)
  refine ⟨henv, fun b => ?_, fun b z => ?_, fun b z => ?_, fun b u z => ?_, w.p0, fun b u z1 z2 => ?_, w.np, fun b z => ?_, w.kp⟩
  · have := w.le b; have := l.sum b; have := hSd b; have := hb b; simp only [fa] at *; omega
  · refine w.out b ?_; have := l.sum b; have := hSd b; have := hb b; simp only [fa] at *; omega
  · by_cases e : b = a
    · subst e; rw [upd_same]; simp
    · rw [upd_ne e]
      by_cases hT : 0 < fa T U b
      · exact w.th b hT
      · refine RepE.there ρ σ S w.env b ?_
        have := l.sum b; have := hSd b; have := hb b; simp only [fa] at *; omega
  · have e : b ≠ a := fun q => by subst q; rw [hP] at z; cases z
    rw [upd_ne e]; exact w.ph b u z
  · have e : b ≠ a := fun q => by
      subst q
      rcases w.ns b (by omega) with y | y
      · omega
      · rw [y] at z2; cases z2
    rw [upd_ne e]; exact w.fr b u z1 z2
  · refine w.ns b ?_; have := l.sum b; have := hSd b; have := hb b; simp only [fa] at *; omega
def appL (L : Lens) (m : RM) : GM := fun ρ => (L.get ρ).bind fun d => (m ρ).bind fun y => match d with | .lst true ds => if ds.length < LIM then some (.non, L.put ρ (.lst true (ds ++ [y]))) else none | _ => none
theorem repL_h' {c : LC} {P H H' : Hp} {ds : List D} {xs : List V} {S : FP} (r : RepL c P H ds xs S) (k : ∀ a o, 0 < S a → H a = some o → H' a = some o) : RepL c P H' ds xs S := RepL.mono (.refl _) ds xs S k r
theorem g_app (he : PE X o (tPl ⟨X.K, cl, X.w⟩ E L)) (ha : PE X e (tF ⟨X.K, cl, X.w⟩ E m))
    (hbase : attributeBase o "append" X.env (eval o X.env) = eval o X.env := by rfl)
    (hfew : ((backTo pos (starEach [e] X.env)).all (fun x => !x.1) && (backToKw pos (keywordEach [] X.env)).all (fun x => x.1.isSome)
      && decide ([e].length + ([] : List Keyword).length + (if ([] : List Keyword).isEmpty then 0 else 1) < 30)) = true := by rfl)
    (hline : (apos.endLine == pos.line) = true := by rfl) (hs : starEach [e] X.env = (false, eval e X.env) :: starEach [] X.env := by rfl) : PE X (.Call (.Attribute o "append" apos) [e] [] pos) (tG ⟨X.K, cl, X.w⟩ E (appL L m)) := by
  refine PE_imp (pe_bm PySem.F.plainAttrs_list PySem.F.slot_list_append PySem.F.type_list_append mt_append he (pa_cons ha pa_nil hs) hbase hfew hline hs) fun σ H Q ⟨P, S, T, ρ, d, ρ', w, hm, q⟩ => ?_
  unfold appL at hm
  cases e1 : L.get ρ with
  | none => rw [e1] at hm; cases hm
  | some d0 =>
    cases e2 : m ρ with
    | none => rw [e1, e2] at hm; cases hm
    | some y =>
      rw [e1, e2, Option.bind_some, Option.bind_some] at hm
      split at hm
      · rename_i ds
        split at hm
        · rename_i hl
          cases hm
          refine ⟨P, S, T, ρ, _, w, e1, fun v Sd R l => ?_⟩
          obtain ⟨a0, xs0, T0, e0, h0, _⟩ := l.rep
          refine ⟨by rw [e0]; exact .inl ⟨rfl, xs0, .inl (.inl h0)⟩, P, S, T, ρ, y, w, e2, fun z H1 P1 U1 g1 r1 u1 u2 => ?_⟩
          have w1 := w.aside g1 u1 u2 (Rep.there y z U1 r1)
          obtain ⟨a, xs, T1, ev, hh, rl, hS, k⟩ := loc_lst w1 (l.grow g1)
          have hl' : xs.length < sizeLine := by rw [← rl.length]; exact lim_lt hl
          have ha0 : 0 < S a := by have := l.sum a; have := hS a; simp [one] at *; omega
          refine ⟨a, xs, z, ev, rfl, hh, hl', ?_⟩
          have keepT : ∀ b u, 0 < T1 b + U1 b → H1 b = some u → upd H1 a (.lst (xs ++ [z])) b = some u := fun b u hb hu => by
            have : b ≠ a := fun q => by
              subst q
              have := w1.le b; have := l.sum b; have := hS b
              simp [one, fa] at *; omega
            rw [upd_ne this]; exact hu
          have r2 : RepL ⟨X.K, cl, X.w⟩ P1 (upd H1 a (.lst (xs ++ [z]))) (ds ++ [y]) (xs ++ [z]) (fa T1 (fa U1 fz)) :=
            RepL.append (repL_h' rl fun b u hb hu => keepT b u (by omega) hu) ⟨z, [], U1, fz, rfl, Rep.mono (.refl _) y z U1 (fun b u hb hu => keepT b u (by omega) hu) r1, ⟨rfl, rfl⟩, rfl⟩
          have w2 := k _ _ _ fz r2 fun b => by simp only [fa, fz]; omega
          exact q .non _ P1 _ fz w2 g1.p ⟨rfl, rfl⟩ fun b u hb hu => by
            have : b ≠ a := fun z2 => by subst z2; have := w.le b; omega
            rw [upd_ne this]; exact g1.h b u hu
        · cases hm
      · cases hm
end
end LI

namespace LI
open PySem L2

section
variable {X : Cx} {cl : Nat → Addr} {E : En} {e a b o : Expr} {es : List Expr} {pos pos' p apos : Pos} {m : RM} {g : GM} {ms : AM} {n : Nat} {f nm : Str} {L : Lens} {σ : L2.St}
theorem loc_own {c : LC} {P H : Hp} {S T U : FP} {ρ : List D} {v : V} {d : D} {Sd R T1 : FP} {a : Addr} (w : Wd c E P S (fa T U) σ H ρ) (l : Loc c L P H σ ρ S v d Sd R) (hSd : ∀ b, Sd b = one a b + T1 b) (hu : ∀ b, 0 < T1 b + U b → H b ≠ none) :
    ∀ (o : HO) (d2 : D) (T2 U2 : FP), Rep c P (upd H a o) d2 v (fa (one a) T2) → (∀ b, T2 b + U2 b ≤ T1 b + U b) → Wd c E P (fa (fa (one a) T2) R) (fa T U2) σ (upd H a o) (L.put ρ d2) := by
  intro o d2 T2 U2 r2 hb
  have ha : 0 < S a := by have := l.sum a; have := hSd a; simp [one] at *; omega
  have henv := l.put P (upd H a o) d2 (fa (one a) T2) (.refl _) (fun b u hb hu => by
    have hne : b ≠ a := fun z => by
      subst z
      have := w.le b; have := l.sum b; have := hSd b
      simp [one] at *; omega
    rw [upd_ne hne]; exact hu) r2
  have hP : P a = none := w.out a (by omega)
  refine ⟨henv, fun b => ?_, fun b z => ?_, fun b z => ?_, fun b u z => ?_, w.p0, fun b u z1 z2 => ?_, w.np, fun b z => ?_, w.kp⟩
  · have := w.le b; have := l.sum b; have := hSd b; have := hb b; simp only [fa] at *; omega
  · refine w.out b ?_; have := l.sum b; have := hSd b; have := hb b; simp only [fa] at *; omega
  · by_cases e : b = a
    · subst e; rw [upd_same]; simp
    · rw [upd_ne e]
      by_cases hT : 0 < fa T U b
      · exact w.th b hT
      · refine hu b ?_
        have := hb b; simp only [fa] at *; omega
  · have e : b ≠ a := fun q => by subst q; rw [hP] at z; cases z
    rw [upd_ne e]; exact w.ph b u z
  · have e : b ≠ a := fun q => by
      subst q
      rcases w.ns b (by omega) with y | y
      · omega
      · rw [y] at z2; cases z2
    rw [upd_ne e]; exact w.fr b u z1 z2
  · refine w.ns b ?_; have := l.sum b; have := hSd b; have := hb b; simp only [fa] at *; omega
theorem keep_own {c : LC} {P H : Hp} {S T : FP} {ρ : List D} {v : V} {d : D} {Sd R T1 : FP} {a : Addr} (w : Wd c E P S T σ H ρ) (l : Loc c L P H σ ρ S v d Sd R) (hSd : ∀ b, Sd b = one a b + T1 b) (o : HO) : ∀ b u, 0 < T1 b + T b → H b = some u → upd H a o b = some u := fun b u hb hu => by
  have : b ≠ a := fun q => by
    subst q
    have := w.le b; have := l.sum b; have := hSd b
    simp [one] at *; omega
  rw [upd_ne this]; exact hu

def setFD (n : Nat) (f : Str) (d : D) : D → Option D
  | .obj true k fs ds => if k = n ∧ fs.length < 1000 then some (match fIx f fs with | some j => .obj true k fs (ds.set j d) | none => .obj true k (fs ++ [f]) (ds ++ [d])) else none
  | _ => none
def fldM (n : Nat) (f : Str) (L : Lens) (g : GM) : SM := fun ρ => (g ρ).bind fun r => (L.get r.2).bind fun self => (setFD n f r.1 self).map fun self' => (.nx, L.put r.2 self')
theorem fIx_lt {f : Str} : ∀ {fs : List Str} {j : Nat}, fIx f fs = some j → j < fs.length
  | [], j, h => by cases h
  | g :: gs, j, h => by
    unfold fIx at h
    by_cases e : f = g
    · rw [if_pos e] at h; cases h; simp
    · rw [if_neg e] at h
      cases z : fIx f gs with
      | none => rw [z] at h; cases h
      | some j' => rw [z] at h; cases h; have := fIx_lt z; simp; omega
theorem putF_some {f : Str} {y : V} : ∀ {fs : List Str} {xs : List V} {j : Nat}, fIx f fs = some j → fs.length = xs.length → putF f y (fs.zip xs) = fs.zip (xs.set j y)
  | [], xs, j, h, n => by cases h
  | g :: gs, [], j, h, n => by simp at n
  | g :: gs, x :: xs, j, h, n => by
    unfold fIx at h
    by_cases e : f = g
    · rw [if_pos e] at h; cases h
      rw [List.zip_cons_cons]
      show (if g = f then (g, y) :: gs.zip xs else _) = _
      rw [if_pos e.symm]; rfl
    · rw [if_neg e] at h
      cases z : fIx f gs with
      | none => rw [z] at h; cases h
      | some j' =>
        rw [z] at h; cases h
        rw [List.zip_cons_cons]
        show (if g = f then _ else (g, x) :: putF f y (gs.zip xs)) = _
        rw [if_neg (fun q => e q.symm), putF_some z (by simpa using n)]; rfl
theorem putF_none {f : Str} {y : V} : ∀ {fs : List Str} {xs : List V}, fIx f fs = none → fs.length = xs.length → putF f y (fs.zip xs) = (fs ++ [f]).zip (xs ++ [y])
  | [], xs, h, n => by
    have : xs = [] := List.length_eq_zero_iff.mp n.symm
    subst this; rfl
  | g :: gs, [], h, n => by simp at n
  | g :: gs, x :: xs, h, n => by
    unfold fIx at h
    by_cases e : f = g
    · rw [if_pos e] at h; cases h
    · rw [if_neg e] at h
      have z : fIx f gs = none := by cases z : fIx f gs with | none => rfl | some j' => rw [z] at h; cases h
      rw [List.zip_cons_cons]
      show (if g = f then _ else (g, x) :: putF f y (gs.zip xs)) = _
      rw [if_neg (fun q => e q.symm), putF_none z (by simpa using n)]; rfl
theorem s_fld (n : Nat) {value : Expr} (hc : Cls X.K (cl n)) (hn : NoAttr X.K (cl n) f) (he : PE X value (tG ⟨X.K, cl, X.w⟩ E g)) (ho : PE X o (tPl ⟨X.K, cl, X.w⟩ E L)) (hs : swapsWith value (some (.Attribute o f pos')) pos.line X.env = pure false := by rfl) :
    PS X (.Assign [.Attribute o f pos'] value pos) (tS ⟨X.K, cl, X.w⟩ E (fldM n f L g)) := PS_imp (ps_fld ho he hs) fun D σ H ⟨P, S, ρ, fl, ρ', w, hm, q⟩ => by
  unfold fldM at hm
  cases eg : g ρ with
  | none => rw [eg] at hm; cases hm
  | some r =>
    obtain ⟨d, ρ1⟩ := r
    rw [eg, Option.bind_some] at hm
    cases el : L.get ρ1 with
    | none => rw [el] at hm; cases hm
    | some self =>
      rw [el, Option.bind_some] at hm
      cases ef : setFD n f d self with
      | none => rw [ef] at hm; cases hm
      | some self' =>
        rw [ef] at hm
        cases hm
        refine g_run w eg fun y H1 P1 S1 U w1 e1 r1 => ⟨P1, S1, U, ρ1, self, w1, el, fun v Sd R l => ?_⟩
        unfold setFD at ef
        split at ef
        · rename_i k fs ds
          split at ef
          · rename_i hk
            obtain ⟨rfl, hl⟩ := hk
            cases ef
            obtain ⟨a, dx, xs, T1, ev, hh, nl, rl, hf⟩ := l.rep
            have hS : ∀ b, Sd b = one a b + T1 b := fun b => by rw [hf]; rfl
            have w1' : Wd ⟨X.K, cl, X.w⟩ E P1 S1 (fa fz U) σ H1 ρ1 := by rw [fz_fa]; exact w1
            refine ⟨a, cl k, dx, _, ev, hh, hc, hn, by rw [List.length_zip]; omega, ?_⟩
            have kp := fun o => keep_own w1 l hS o
            have hu : ∀ b, 0 < T1 b + U b → H1 b ≠ none := fun b hb => by
              by_cases hU : 0 < U b
              · exact w1.th b hU
              · exact RepL.there ds xs T1 rl b (by omega)
            cases ej : fIx f fs with
            | some j =>
              have hj : j < xs.length := by
                have := fIx_lt ej
                omega
              obtain ⟨x0, hx0⟩ : ∃ x0, ds[j]? = some x0 := ⟨_, List.getElem?_eq_getElem (by rw [rl.length]; exact hj)⟩
              obtain ⟨v0, S0, R0, k1, k2, k3, k4⟩ := rl.focus hx0
              rw [putF_some ej nl]
              have rnew := k4 P1 (upd H1 a (.ins (cl k) dx (fs.zip (xs.set j y)))) d y U (.refl _) (fun b u hb hu => kp _ b u (by have := k3 b; omega) hu) (Rep.mono (.refl _) d y U (fun b u hb hu => kp _ b u (by omega) hu) r1)
              have w2 := loc_own w1' l hS hu (.ins (cl k) dx (fs.zip (xs.set j y))) (.obj true k fs (ds.set j d)) (fa U R0) fz ⟨a, dx, _, fa U R0, ev, upd_same, by rw [List.length_set]; exact nl, rnew, rfl⟩ (fun b => by have := k3 b; simp only [fa, fz]; omega)
              rw [fa_fz] at w2
              simp only [ej] at q
              exact q σ _ P1 _ w2 e1
            | none =>
              rw [putF_none ej nl]
              have rnew : RepL ⟨X.K, cl, X.w⟩ P1 (upd H1 a (.ins (cl k) dx ((fs ++ [f]).zip (xs ++ [y])))) (ds ++ [d]) (xs ++ [y]) (fa T1 (fa U fz)) :=
                RepL.append (repL_h' rl fun b u hb hu => kp _ b u (by omega) hu) ⟨y, [], U, fz, rfl, Rep.mono (.refl _) d y U (fun b u hb hu => kp _ b u (by omega) hu) r1, ⟨rfl, rfl⟩, rfl⟩
              have w2 := loc_own w1' l hS hu (.ins (cl k) dx ((fs ++ [f]).zip (xs ++ [y]))) (.obj true k (fs ++ [f]) (ds ++ [d])) (fa T1 (fa U fz)) fz ⟨a, dx, _, _, ev, upd_same, by simp [nl], rnew, rfl⟩ (fun b => by simp only [fa, fz]; omega)
              rw [fa_fz] at w2
              simp only [ej] at q
              exact q σ _ P1 _ w2 e1
          · cases ef
        · cases ef

def extS (i : Nat) (g : GM) : GM := fun ρ => match ρ[i]? with
  | some (.lst true _) => (g ρ).bind fun r => match r.1, r.2[i]? with
    | .lst _ ys, some (.lst true ds) => if frzL ys = true ∧ ds.length + ys.length ≤ LIM then some (.non, r.2.set i (.lst true (ds ++ ys))) else none
    | _, _ => none
  | _ => none
theorem loc_v {c : LC} {P H : Hp} {S T : FP} {ρ : List D} {i : Nat} {d : D} {v : V} (w : Wd c E P S T σ H ρ) (h : ρ[i]? = some d) (hn : notGone d = true) (hv : σ[i]? = some (some v)) : ∃ Sd R, Loc c (vL i) P H σ ρ S v d Sd R := by
  obtain ⟨v', Sd, R, k1, k2, k3, k4⟩ := w.env.focus h hn
  rw [hv] at k1
  cases k1
  exact ⟨Sd, R, k3, k2, k4⟩
theorem g_ext (i : Nat) {x : Str} {px : Pos} (he : PE X e (tG ⟨X.K, cl, X.w⟩ E g)) (hN : X.N[i]? = some x := by rfl) (hv : Vis X.env.scope x := by first | exact Or.inl rfl | exact Or.inr (Or.inl rfl) | exact Or.inr (Or.inr rfl))
    (hd : (x == ("__debug__" : Str)) = false := by decide) (hcd : (x == ("__classdict__" : Str)) = false := by decide)
    (hbase : attributeBase (.Name x px) "extend" X.env (eval (.Name x px) X.env) = eval (.Name x px) X.env := by rfl)
    (hfew : ((backTo pos (starEach [e] X.env)).all (fun x => !x.1) && (backToKw pos (keywordEach [] X.env)).all (fun x => x.1.isSome)
      && decide ([e].length + ([] : List Keyword).length + (if ([] : List Keyword).isEmpty then 0 else 1) < 30)) = true := by rfl)
    (hline : (apos.endLine == pos.line) = true := by rfl) (hs : starEach [e] X.env = (false, eval e X.env) :: starEach [] X.env := by rfl) : PE X (.Call (.Attribute (.Name x px) "extend" apos) [e] [] pos) (tG ⟨X.K, cl, X.w⟩ E (extS i g)) := by
  refine PE_imp (pe_bm PySem.F.plainAttrs_list PySem.F.slot_list_extend PySem.F.type_list_extend mt_extend (pe_var hN hv hd hcd) (pa_cons he pa_nil hs) hbase hfew hline hs) fun σ H Q ⟨P, S, T, ρ, d, ρ', w, hm, q⟩ => ?_
  unfold extS at hm
  split at hm
  · rename_i ds0 hi
    cases eg : g ρ with
    | none => rw [eg] at hm; cases hm
    | some r =>
      obtain ⟨dy, ρ1⟩ := r
      rw [eg, Option.bind_some] at hm
      split at hm
      · rename_i o' ys ds h1 h2
        split at hm
        · rename_i hl
          cases hm
          obtain ⟨v, Sd0, R0, hv0, r0, _, _⟩ := w.env.focus hi rfl
          obtain ⟨a0, xs0, T0, ev0, h0, _⟩ := r0
          refine ⟨v, hv0, by rw [ev0]; exact .inl ⟨rfl, xs0, .inl (.inl h0)⟩, P, S, T, ρ, dy, ρ1, w, eg, fun z H1 P1 S1 U1 w1 ep r1 kT => ?_⟩
          replace h1 : dy = .lst o' ys := h1
          subst h1
          obtain ⟨Sd, R, l⟩ := loc_v w1 (show ρ1[i]? = some _ from h2) rfl hv0
          obtain ⟨a, xs, T1, ev, hh, rl, hf⟩ := l.rep
          have hS : ∀ b, Sd b = one a b + T1 b := fun b => by rw [hf]; rfl
          obtain ⟨p2, zs, ez, hz, rz⟩ := lst_heap0 w1.ph r1 hl.1
          refine ⟨a, p2, xs, zs, ev, by rw [ez], hh, hz, by rw [← rl.length, ← rz.length]; exact lim_le hl.2, ?_⟩
          have kp := fun o => keep_own w1 l hS o
          have hu : ∀ b, 0 < T1 b + U1 b → H1 b ≠ none := fun b hb => by
            by_cases hU : 0 < U1 b
            · exact w1.th b (by simp only [fa]; omega)
            · exact RepL.there ds xs T1 rl b (by omega)
          have rnew : RepL ⟨X.K, cl, X.w⟩ P1 (upd H1 a (.lst (xs ++ zs))) (ds ++ ys) (xs ++ zs) (fa T1 fz) :=
            RepL.append (repL_h' rl fun b u hb hu => kp _ b u (by omega) hu) (repL_h rz)
          have w2 := loc_own w1 l hS hu (.lst (xs ++ zs)) (.lst true (ds ++ ys)) (fa T1 fz) fz ⟨a, _, _, ev, upd_same, rnew, rfl⟩ (fun b => by simp only [fa, fz]; omega)
          exact q .non _ P1 _ fz w2 ep ⟨rfl, rfl⟩ fun b u hb hu => kp _ b u (by simp only [fa]; omega) (kT b u hb hu)
        · cases hm
      · cases hm
  · cases hm

end
end LI

namespace LI
open PySem L2

section
variable {X : Cx} {cl : Nat → Addr} {E : En} {e a b o : Expr} {es : List Expr} {pos pos' p apos : Pos} {m mo : RM} {g : GM} {ms : AM} {n : Nat} {f nm : Str} {L : Lens} {σ : L2.St}
def frM (m : RM) : RM := fun ρ => (m ρ).bind fun d => if frz d = true then some d else none
theorem f_fr (h : PE X e (tR ⟨X.K, cl, X.w⟩ E m)) : PE X e (tF ⟨X.K, cl, X.w⟩ E (frM m)) := PE_imp h fun σ H Q ⟨P, S, T, ρ, d, w, hm, q⟩ => by
  unfold frM at hm
  cases hd : m ρ with
  | none => rw [hd] at hm; cases hm
  | some d1 =>
    rw [hd, Option.bind_some] at hm
    split at hm
    · rename_i hf
      cases hm
      refine ⟨P, S, T, ρ, d, w, hd, fun v H' P' U g r => ?_⟩
      have z := Rep.frz0 d v U hf r
      subst z
      exact q v H' P' fz g r (fun _ => Nat.zero_le _) fun a z => by simp [fz] at z
    · cases hm

end

def spLaw (K : PySem.W.Frag) : Sp := fun vs H Q _ => ∃ (a : Addr) (ns : List Int), vs = [.ref a] ∧ SqL K H a (ns.map V.int) ∧ ns.length ≤ 63 ∧ (∀ z ∈ ns, Builtin.Int.intBits z ≤ 1048576) ∧ ∀ H', Q (.bl true) H'
theorem law_ok {P : Program} {w : World} {K : PySem.W.Frag} {mg : Str → Option Value} {base : Heap} {CX : CXT} {k : Nat} {f : Addr} {fd : FuncData} {ps : List Str} {F : FM} {cl : Nat → Addr} (G : FnOk P w K mg base CX k f fd ps (spD ⟨K, cl, w⟩ F))
    (h : ∀ ns : List Int, ns.length ≤ 63 → (∀ z ∈ ns, Builtin.Int.intBits z ≤ 1048576) → ∃ ds', F [.scr ns] = some (.bl true, ds')) : FnOk P w K mg base CX k f fd ps (spLaw K) :=
  G.imp fun vs H Q E ⟨a, ns, e, hs, hl, hb, q⟩ => by
    obtain ⟨ds', hF⟩ := h ns hl hb
    refine ⟨H, fz, [.scr ns], .bl true, ds', ⟨.ref a, [], fz, fz, e, ⟨a, rfl, hs, rfl⟩, ⟨rfl, rfl⟩, (fa_fz fz).symm⟩, .refl _, fun _ => Nat.zero_le _, fun a z => by simp [fz] at z, hF, fun v H' P' U S' st rd _ => ?_⟩
    rw [rd.1]
    exact q H'
end LI

namespace LI
open PySem L2

section
variable {X : Cx} {cl : Nat → Addr} {E : En} {e a b o : Expr} {es : List Expr} {pos pos' p apos : Pos} {m mo ma mb : RM} {g : GM} {ms : AM} {n : Nat} {nm x : Str} {L : Lens} {σ : L2.St} {CX : CXT} {k : Nat} {fa' : Addr} {fd : FuncData} {ps : List Str} {F : FM} {XE : XK}
def VQ (c : LC) (P H : Hp) (d : D) (Q : VK) : Prop := ∀ v H' P' U, Gr P H P' H' → Rep c H' H' d v U → Q v H'
def tV (c : LC) (E : En) (m : RM) : TE := fun σ H Q => ∃ P S T ρ d, Wd c E P S T σ H ρ ∧ m ρ = some d ∧ VQ c P H d Q
theorem v_r (h : PE X e (tR ⟨X.K, cl, X.w⟩ E m)) : PE X e (tV ⟨X.K, cl, X.w⟩ E m) := PE_imp h fun σ H Q ⟨P, S, T, ρ, d, w, hm, q⟩ => ⟨P, S, T, ρ, d, w, hm, fun v H' P' U g r => q v H' P' U g (Rep.mono g.ph d v U (fun _ _ _ h => h) r)⟩
theorem FQ.flatV {c : LC} {P H : Hp} {d : D} {Q : VK} (hp : Ex P H) (hd : isFlat d = true) (h : FQ c P H d Q) : FQ c H H d Q := fun v H' P' U g r _ _ =>
  h v H' P fz ⟨.refl _, g.h, hp.trans g.h, fun _ z => .inl z⟩ (flat_any (c := c) hd r) (fun _ => Nat.zero_le _) fun a z => by simp [fz] at z
def FlatOp (f : D → D → Option D) : Prop := ∀ a b d, f a b = some d → isFlat d = true
theorem op2_runW {r : R2} {f : D → D → Option D} (hf : Op2 ⟨X.K, cl, X.w⟩ r f) (hz : FlatOp f) {H : Hp} {Q : VK} (h : tF ⟨X.K, cl, X.w⟩ E (m2 f ma mb) σ H Q) : tOp r (tV ⟨X.K, cl, X.w⟩ E ma) (tV ⟨X.K, cl, X.w⟩ E mb) σ H Q := by
  obtain ⟨P, S, T, ρ, d, w, hm, q⟩ := h
  obtain ⟨da, db, ea, eb, hm⟩ := m2_split hm
  refine ⟨P, S, T, ρ, da, w, ea, fun x H1 P1 U1 g1 r1 => ⟨P1, S, T, ρ, db, w.grow g1, eb, fun y H2 P2 U2 g2 r2 => ?_⟩⟩
  exact hf H2 H2 (.refl _) _ _ _ _ _ _ _ hm (Rep.mono g2.h da x U1 (fun a o _ h => g2.h a o h) r1) r2 Q ((q.grow (g1.trans g2)).flatV g2.ph (hz _ _ _ hm))
theorem tv_cmp {op : CmpOp} {r : R2} {f : D → D → Option D} (ho : OpR X (compareOp op) r) (hf : Op2 ⟨X.K, cl, X.w⟩ r f) (hz : FlatOp f) (ha : PE X a (tV ⟨X.K, cl, X.w⟩ E ma)) (hb : PE X b (tV ⟨X.K, cl, X.w⟩ E mb)) (hm : behindInMarks op b = false) : PT X (.Compare a [op] [b] pos) (tT ⟨X.K, cl, X.w⟩ E (bM (m2 f ma mb))) :=
  t_test (pt_cmpR ho ha hb hm) fun _ _ _ h => op2_runW hf hz h
theorem flat_eq : FlatOp eqD := fun a b d h => by
  unfold eqD at h
  cases z : eqB a b with
  | none => rw [z] at h; cases h
  | some k => rw [z] at h; cases h; rfl
theorem flat_ne : FlatOp neD := fun a b d h => by
  unfold neD at h
  cases z : eqB a b with
  | none => rw [z] at h; cases h
  | some k => rw [z] at h; cases h; rfl
def callVM (F : FM) (ms : AM) : RM := fun ρ => (ms ρ).bind fun ds => (F (iceL ds)).map (·.1)
theorem spD_viewV {c : LC} {F : FM} {P H : Hp} {ds : List D} {vs : List V} {U : FP} {d : D} {ds' : List D} {Q : VK} {E : XK} (e : Ex P H) (r : RepL c P H ds vs U) (hf : F (iceL ds) = some (d, ds')) (q : VQ c P H d Q) : spD c F vs H Q E := by
  refine ⟨coldP U P H, fz, iceL ds, d, ds', RepL.ice (coldP_p e) ds vs U (fun a o h1 h2 => by unfold coldP; rw [if_pos h1]; exact h2) r, coldP_h e, fun _ => Nat.zero_le _, fun a h => by simp [fz] at h, hf, fun v H' P' U2 S' st rd rs => ?_⟩
  have hH : Ex H H' := fun a o h => st.fr a o rfl h
  exact q v H' P U2 ⟨.refl _, hH, e.trans hH, fun a h => .inl h⟩ (Rep.mono st.ph d v U2 (fun _ _ _ h => h) rd)
theorem callV_split {ρ : List D} {d : D} (h : callVM F ms ρ = some d) : ∃ ds ds', ms ρ = some ds ∧ F (iceL ds) = some (d, ds') := by
  unfold callVM at h
  cases e1 : ms ρ with
  | none => rw [e1] at h; cases h
  | some ds =>
    rw [e1, Option.bind_some] at h
    cases e2 : F (iceL ds) with
    | none => rw [e2] at h; cases h
    | some r => rw [e2] at h; cases h; exact ⟨ds, r.2, rfl, e2⟩
theorem v_call (G : FnOk X.prog X.w X.K X.mg X.base CX k fa' fd ps (spD ⟨X.K, cl, X.w⟩ F)) (hr : Room k X.A) (hg : Gl X x) (hm : X.mg x = some (.ref fa')) (hk : PySem.W.keepIn X.K (.ref fa') = true) (hb : Binds X.K fd ps []) (hx : Passes CX X XE)
    (ha : PA X (e :: es) (tAR ⟨X.K, cl, X.w⟩ E ms)) (hdb : (x == ("__debug__" : Str)) = false := by decide) (he : starEach (e :: es) X.env = (false, eval e X.env) :: starEach es X.env := by rfl) (hpl : (backTo pos (starEach es X.env)).any (·.1) = false := by rfl) :
    PE X (.Call (.Name x p) (e :: es) [] pos) (tV ⟨X.K, cl, X.w⟩ E (callVM F ms)) := PE_imp (pe_call G hr hg hm hk hb .nil hx ha hdb he hpl) fun σ H Q ⟨P, S, T, ρ, d, w, h, q⟩ => by
  obtain ⟨ds, ds', e1, e2⟩ := callV_split h
  refine ⟨P, S, T, ρ, ds, w, e1, fun vs H1 P1 U1 g1 r1 => ?_⟩
  show spD ⟨X.K, cl, X.w⟩ F (vs ++ []) H1 Q XE
  rw [List.append_nil]
  exact spD_viewV g1.ph r1 e2 fun v H' P' U g r => q v H' P' U (g1.trans g) r
theorem f_isi' {ty : String} {b0 : Expr} (ha : PE X a (tR ⟨X.K, cl, X.w⟩ E ma)) (hb : PE X b0 (tC (.ty ty))) (hm : X.mg "isinstance" = none) (hg : Gl X "isinstance" := by rfl)
    (hs1 : starEach [a, b0] X.env = (false, eval a X.env) :: starEach [b0] X.env := by rfl) (hs2 : starEach [b0] X.env = (false, eval b0 X.env) :: starEach [] X.env := by rfl) (hpl : (backTo pos (starEach [b0] X.env)).any (·.1) = false := by rfl) : PE X (.Call (.Name "isinstance" p) [a, b0] [] pos) (tF ⟨X.K, cl, X.w⟩ E (isiM ty ma)) :=
  f_isi hg hm (by decide +kernel) ha hb (by decide) (by decide) hs1 hs2 hpl
end
end LI

namespace LI
open PySem L2

def mvM (L : Lens) : GM := fun ρ => (L.get ρ).bind fun d => some (d, L.put ρ .gone)
def iceAt (i : Nat) (ρ : List D) : List D := match ρ[i]? with
  | some d => ρ.set i (ice d)
  | none => ρ
def iceM (i : Nat) (m : SM) : SM := fun ρ => (m ρ).map fun r => match r.1 with
  | .nx => (.nx, iceAt i r.2)
  | f => (f, r.2)
section
variable {X : Cx} {cl : Nat → Addr} {E : En} {e a b tg : Expr} {pos : Pos} {L : Lens} {m ma mb : RM}
theorem g_mv (h : PE X e (tPl ⟨X.K, cl, X.w⟩ E L)) : PE X e (tG ⟨X.K, cl, X.w⟩ E (mvM L)) := PE_imp h fun σ H Q ⟨P, S, T, ρ, d, ρ', w, hm, q⟩ => by
  unfold mvM at hm
  cases hd : L.get ρ with
  | none => rw [hd] at hm; cases hm
  | some d1 =>
    rw [hd] at hm
    cases hm
    refine ⟨P, S, T, ρ, d, w, hd, fun v Sd R l => ?_⟩
    have henv := l.put P H .gone fz (.refl P) (fun _ _ _ h => h) rfl
    refine q v H P (fa fz R) Sd ?_ (.refl P) l.rep (fun _ _ _ h => h)
    have hs := l.sum
    refine ⟨henv, fun x => ?_, fun x hx => ?_, fun x hx => ?_, w.ph, w.p0, w.fr, w.np, fun x hx => ?_, w.kp⟩
    · have := w.le x; have := hs x; simp only [fa, fz] at *; omega
    · exact w.out x (by have := hs x; simp only [fa, fz] at *; omega)
    · by_cases z : 0 < T x
      · exact w.th x z
      · exact Rep.there d v Sd l.rep x (by simp only [fa] at hx; omega)
    · exact w.ns x (by have := hs x; simp only [fa, fz] at *; omega)
theorem RepE.iceAt {c : LC} {P H : Hp} : ∀ {ρ : List D} {σ : St} {S : FP} (i : Nat), RepE c P H ρ σ S → ∃ (U R : FP), (∀ a, S a = U a + R a) ∧ (∀ a, 0 < U a → H a ≠ none) ∧
    ∀ (P2 H2 : Hp), Ex P P2 → (∀ a o, 0 < U a → H a = some o → P2 a = some o) → (∀ a o, 0 < R a → H a = some o → H2 a = some o) → RepE c P2 H2 (LI.iceAt i ρ) σ R
  | [], [], S, i, h => ⟨fz, S, fun a => by simp [fz], fun a p => by simp [fz] at p, fun P2 H2 _ _ _ => h⟩
  | d0 :: ρ, v0 :: σ, S, 0, ⟨T, U, r, rs, f⟩ => ⟨T, U, fun a => by rw [f]; rfl, r.there, fun P2 H2 e k1 k2 => by
      refine ⟨fz, U, ?_, rs.mono e ρ σ U k2, by funext a; simp [fa, fz]⟩
      cases v0 with
      | none => obtain ⟨rfl, _⟩ := r; exact ⟨rfl, rfl⟩
      | some v => exact Rep.ice e d0 v T k1 r⟩
  | d0 :: ρ, v0 :: σ, S, i + 1, ⟨T, T2, r, rs, f⟩ => by
    obtain ⟨U, R, h1, h0, h2⟩ := RepE.iceAt i rs
    refine ⟨U, fa T R, fun a => by have := h1 a; rw [f]; simp only [fa]; omega, h0, fun P2 H2 e k1 k2 => ?_⟩
    have := h2 P2 H2 e k1 (fun a o z1 z2 => k2 a o (by simp only [fa]; omega) z2)
    have e2 : LI.iceAt (i + 1) (d0 :: ρ) = d0 :: LI.iceAt i ρ := by
      simp only [LI.iceAt, List.getElem?_cons_succ]
      cases ρ[i]? <;> rfl
    rw [e2]
    exact ⟨T, R, RepO.mono e (fun a o z1 z2 => k2 a o (by simp only [fa]; omega) z2) r, this, rfl⟩
  | [], _ :: _, _, _, h => h.elim
  | _ :: _, [], _, _, h => h.elim
theorem Wd.iceAt {c : LC} {P H : Hp} {S T : FP} {σ : St} {ρ : List D} (w : Wd c E P S T σ H ρ) (i : Nat) : ∃ P' S', Wd c E P' S' T σ H (LI.iceAt i ρ) ∧ Ex P P' := by
  obtain ⟨U, R, h1, h0, h2⟩ := RepE.iceAt i w.env
  have hP : ∀ a, 0 < U a → P a = none := fun a z => w.out a (by have := h1 a; omega)
  have ex : Ex P (fun a => if 0 < U a then H a else P a) := fun a o z => by
    by_cases hu : 0 < U a
    · rw [hP a hu] at z; cases z
    · simp [hu, z]
  refine ⟨fun a => if 0 < U a then H a else P a, R, ⟨h2 _ H ex (fun a o z1 z2 => by simp [z1, z2]) (fun _ _ _ h => h), fun a => ?_, fun a z => ?_, w.th, fun a o z => ?_, w.p0.trans ex, w.fr, fun a z => ?_, fun a z => w.ns a (by have := h1 a; omega), w.kp⟩, ex⟩
  · have := w.le a; have := h1 a; omega
  · have l := w.le a; have s := h1 a
    have hu : ¬ 0 < U a := by omega
    simp only [hu, if_false]
    exact w.out a (by omega)
  · by_cases hu : 0 < U a
    · simpa [hu] using z
    · exact w.ph a o (by simpa [hu] using z)
  · by_cases hu : 0 < U a
    · exact .inr (w.ns a (by have := h1 a; omega))
    · exact w.np a (by simpa [hu] using z)
theorem s_seqI (i : Nat) {st : Stmt} {m : SM} (h : PS X st (tS ⟨X.K, cl, X.w⟩ E m)) : PS X st (tS ⟨X.K, cl, X.w⟩ E (iceM i m)) := PS_imp h fun D σ H ⟨P, S, ρ, fl, ρ', w, hm, q⟩ => by
  unfold iceM at hm
  cases eg : m ρ with
  | none => rw [eg] at hm; cases hm
  | some r =>
    obtain ⟨f1, ρ1⟩ := r
    rw [eg] at hm
    refine ⟨P, S, ρ, f1, ρ1, w, eg, ?_⟩
    cases f1 with
    | nx =>
      cases hm
      intro σ' H' P' S' w' x
      obtain ⟨P2, S2, w2, e2⟩ := w'.iceAt i
      exact q σ' H' P2 S2 w2 (x.trans e2)
    | rt d => cases hm; exact q
    | bk => cases hm; exact q
    | ct => cases hm; exact q
    | ex n fs es => cases hm; exact q

def enumFrom (n : Nat) : List D → List D
  | [] => []
  | d :: ds => .tup [.int (n : Int), d] :: enumFrom (n + 1) ds
def lstD : D → Option (List D)
  | .lst false ds => if frzL ds = true then some ds else none
  | .scr ns => some (ns.map .int)
  | _ => none
def enumM (m : RM) : AM := fun ρ => (m ρ).bind fun d => (lstD d).map (enumFrom 0)
def zipD : List D → List D → List D
  | a :: as, b :: bs => .tup [a, b] :: zipD as bs
  | _, _ => []
def zipM (m1 m2 : RM) : AM := fun ρ => (m1 ρ).bind fun d1 => (m2 ρ).bind fun d2 => (lstD d1).bind fun a => (lstD d2).map fun b => zipD a b
def revM (m : RM) : AM := fun ρ => (m ρ).bind fun d => (lstD d).map List.reverse
end
def IterV (c : LC) (P H : Hp) (J : It) (ds : List D) : Prop := ∃ (G : Hp → Prop) (Y : Nat → Hp → V → Hp → Prop), Walk J ds.length G Y ∧ (∀ P2 H2, Gr P H P2 H2 → G H2) ∧
  ∀ i P2 H2 x H3, Gr P H P2 H2 → i < ds.length → Y i H2 x H3 → ∃ P3 d, Gr P2 H2 P3 H3 ∧ ds[i]? = some d ∧ Rep c P3 H3 d x fz
def tIV (c : LC) (E : En) (m : AM) : TI := fun σ H R => ∃ P S T ρ ds, Wd c E P S T σ H ρ ∧ m ρ = some ds ∧ ∀ J H' P', Gr P H P' H' → IterV c P' H' J ds → R J H'
def itemsV : D → Option (List D)
  | .lst _ ds => if frzL ds = true then some ds else none
  | d => itemsD d
def itV (m : RM) : AM := fun ρ => (m ρ).bind itemsV
section
variable {X : Cx} {cl : Nat → Addr} {E : En} {e a b tg : Expr} {pos : Pos} {m ma mb : RM}
theorem i_up {ms : AM} (h : PI X tg e (tI ⟨X.K, cl, X.w⟩ E ms)) : PI X tg e (tIV ⟨X.K, cl, X.w⟩ E ms) := PI_imp h fun σ H R ⟨P, S, T, ρ, ds, w, hm, q⟩ =>
  ⟨P, S, T, ρ, ds, w, hm, fun J H1 P1 g1 ⟨G, Y, wk, hG, hY⟩ => q J H1 P1 g1 ⟨G, Y, wk, fun P2 H2 g2 => hG P2 H2 g2.p g2.ph, fun i P2 H2 x H3 g2 hi y => hY i P2 H2 x H3 g2.p g2.ph hi y⟩⟩
theorem i_seqV (h : PE X e (tR ⟨X.K, cl, X.w⟩ E m)) : PI X tg e (tIV ⟨X.K, cl, X.w⟩ E (itV m)) := by
  refine PI_imp (PI_or (pi_list h) (i_up (i_seq h))) fun σ H R ⟨P, S, T, ρ, ds, w, hm, q⟩ => ?_
  unfold itV at hm
  cases ea : m ρ with
  | none => rw [ea] at hm; cases hm
  | some d =>
    rw [ea] at hm
    replace hm : itemsV d = some ds := hm
    cases d with
    | lst o es =>
      replace hm : (if frzL es = true then some es else none) = some ds := hm
      split at hm
      · rename_i hf
        cases hm
        refine .inl ⟨P, S, T, ρ, _, w, ea, fun v H1 P1 U1 g1 r1 => ?_⟩
        obtain ⟨p, xs, T', e1, hp, rl, _⟩ := lst_heap g1.ph r1
        have z := RepL.frz0 _ xs _ hf rl
        subst z
        refine ⟨p, e1, ⟨xs, .inl (.inl hp)⟩, q _ H1 P1 g1 ⟨_, _, by rw [rl.length]; exact walk_list (K := X.K) (a := p) (xs := xs), fun P2 H2 g2 => Or.inl (Or.inl (g2.h _ _ hp)), fun i P2 H2 x H3 g2 hi y => ?_⟩⟩
        obtain ⟨rfl, hx⟩ := y
        obtain ⟨d, h1, h2⟩ := rep_get0 (repL_h (H' := H3) rl) hx
        exact ⟨P2, d, .refl g2.ph, h1, Rep.mono g2.p d x fz (fun a o z _ => by simp [fz] at z) h2⟩
      · cases hm
    | _ => exact .inr ⟨P, S, T, ρ, ds, w, by unfold itM; rw [ea]; exact hm, q⟩
theorem lcV_run {c : LC} {vs tl : List Nat} {f : TgM} {mc : BM} {me : RM} {ms : AM} (ht : ∀ j ∈ tl, j ∈ vs) (hk : ∀ j ∈ vs, E.kp[j]? ≠ some true) {σ : St} {H : Hp} {Q : VK} (h : tF c E (compM vs f mc me ms) σ H Q) :
    tLc (tIV c E ms) (tPG c E tl f) (tTs c E mc) (tR c E me) vs σ H Q := by
  obtain ⟨P, S, T, ρ, d, w, hm, q⟩ := h
  unfold compM at hm
  cases es : ms ρ with
  | none => rw [es] at hm; cases hm
  | some ds =>
    rw [es, Option.bind_some] at hm
    split at hm
    · rename_i hlim
      cases ec : compL f mc me (goneAt ρ vs) ds with
      | none => rw [ec] at hm; cases hm
      | some ys =>
        rw [ec] at hm
        cases hm
        refine ⟨P, S, T, ρ, ds, w, es, fun J H1 P1 g1 io => ?_⟩
        intro Dl hD
        obtain ⟨G, Y, wk, hG, hY⟩ := io
        have hP1 : P1 Dl = none := none_of g1.ph hD
        -- the invariant
        refine lc_it wk (fun i Hh => ∃ P2 zs acc, compL f mc me (goneAt ρ vs) (ds.take i) = some zs ∧ Gr P1 H1 P2 Hh ∧ P2 Dl = none ∧ Hh Dl = some (.lst acc) ∧ RepL c P2 Hh zs acc fz) ?_ ?_ ?_ ?_
        · exact ⟨P1, [], [], rfl, ⟨.refl _, ex_new hD, g1.ph.trans (ex_new hD), fun a z => .inl z⟩, hP1, upd_same, rfl, rfl⟩
        · rintro i Hh hi ⟨P2, zs, acc, h1, g2, _, _, _⟩
          exact hG P2 Hh g2
        · rintro i x Hh H3 hi ⟨P2, zs, acc, h1, g2, hD2, hDl, rl⟩ y
          obtain ⟨P3, d, g3, hd, rd⟩ := hY i P2 Hh x H3 g2 hi y
          obtain ⟨zs', ρ1, k, t1, t2, t3, t4, t5⟩ := compL_turn ec hd
          rw [h1] at t1
          cases t1
          obtain ⟨S3, w3⟩ := (((w.grow g1).grow g2).grow g3).wipe vs hk
          have w3' : Wd c E P3 S3 (fa T fz) (L2.wipe σ vs) H3 (goneAt ρ vs) := by rw [fa_fz]; exact w3
          have hD3 : P3 Dl = none := by
            cases z : P3 Dl with
            | none => rfl
            | some o =>
              rcases g3.new Dl (by rw [z]; simp) with q' | q'
              · exact absurd hD2 q'
              · rw [hDl] at q'; cases q'
          refine ⟨P3, S3, T, fz, _, d, ρ1, w3', rd, t2, fun σ' S' w4 l4 k4 => ⟨?_, P3, S', T, ρ1, k, w4, t3, fun H4 P4 g4 => ?_⟩⟩
          · rw [wipe_eq (vs := vs) l4 fun j hj => k4 j fun z => hj (ht j z)]
            exact wipe_wipe σ vs
          · have hD4 : P4 Dl = none := by
              cases z : P4 Dl with
              | none => rfl
              | some o =>
                rcases g4.new Dl (by rw [z]; simp) with q' | q'
                · exact absurd hD3 q'
                · rw [g3.h _ _ hDl] at q'; cases q'
            cases k with
            | true =>
              obtain ⟨y', e1, e2, e3⟩ := t4 rfl
              refine iteT ⟨P4, S', T, ρ1, y', w4.grow g4, e1, fun v H5 P5 U5 g5 r5 => ?_⟩
              have hU := Rep.frz0 y' v U5 e2 r5
              subst hU
              have hD5 : P5 Dl = none := by
                cases z : P5 Dl with
                | none => rfl
                | some o =>
                  rcases g5.new Dl (by rw [z]; simp) with q' | q'
                  · exact absurd hD4 q'
                  · rw [g4.h _ _ (g3.h _ _ hDl)] at q'; cases q'
              have gg := ((g2.trans g3).trans g4).trans g5
              have hDl5 : H5 Dl = some (.lst acc) := g5.h _ _ (g4.h _ _ (g3.h _ _ hDl))
              refine ⟨acc, hDl5, ?_, P5, zs ++ [y'], acc ++ [v], e3, ⟨gg.p, fun a o z => ?_, fun a o z => ?_, gg.new⟩, hD5, upd_same, ?_⟩
              · have h2 := compL_len h1
                have h3 := rl.length
                have : zs.length ≤ ds.length := Nat.le_trans h2 (by rw [List.length_take]; omega)
                have : (zs ++ [y']).length ≤ (ds.take (i + 1)).length := compL_len e3
                rw [List.length_append, List.length_take] at this
                have e4 : acc.length < LIM := by
                  simp only [List.length_cons, List.length_nil] at this
                  omega
                exact lim_lt e4
              · by_cases z2 : a = Dl
                · subst z2; rw [hD] at z; cases z
                · rw [upd_ne z2]; exact gg.h a o z
              · by_cases z2 : a = Dl
                · subst z2; rw [hD5] at z; cases z
                · rw [upd_ne z2]; exact g5.ph a o z
              · have r6 := RepL.append (repL_h (H' := upd H5 Dl (.lst (acc ++ [v]))) (((rl.gr g3).gr g4).gr g5)) (show RepL c P5 (upd H5 Dl (.lst (acc ++ [v]))) [y'] [v] fz from ⟨v, [], fz, fz, rfl, Rep.mono (.refl _) y' v fz (fun a o z _ => by simp [fz] at z) r5, ⟨rfl, rfl⟩, (fa_fz fz).symm⟩)
                rwa [fa_fz] at r6
            | false =>
              refine iteF ⟨P4, zs, acc, t5 rfl, (g2.trans g3).trans g4, hD4, g4.h _ _ (g3.h _ _ hDl), (rl.gr g3).gr g4⟩
        · rintro Hh ⟨P2, zs, acc, h1, g2, hD2, hDl, rl⟩
          rw [List.take_length, ec] at h1
          cases h1
          refine q _ Hh P2 (one Dl) (g1.trans g2) ⟨Dl, acc, fz, rfl, hDl, rl, (fa_fz _).symm⟩ one_le fun a z => ?_
          rw [one_pos z]
          refine ⟨?_, hD2⟩
          cases z : H Dl with
          | none => rfl
          | some o => rw [g1.h _ _ z] at hD; cases hD
    · cases hm
theorem f_lcV {elt tg iter : Expr} {ifs : List Expr} {scope : Scope} (own : List (Str × Nat)) {vs : List Nat} {tl : List Nat} {f : TgM} {mc : BM} {me : RM} {ms : AM} (hvs : own.map (·.2) = vs) (hc : X.calm = true) (hN : X.N.Nodup) (hi : PI X tg iter (tIV ⟨X.K, cl, X.w⟩ E ms)) (ok : BlkOk X.N X.env.scope scope own)
    (hg : ∀ (s : Shared) (H : Hp) (C : Addr) (c : List (Str × Addr)) (fp : List Addr), PG (X.blk s H scope (compEnvC scope c C X.env) fp) tg (tPG ⟨X.K, cl, X.w⟩ E tl f)) (ht : ∀ (s : Shared) (H : Hp) (C : Addr) (c : List (Str × Addr)) (fp : List Addr), PTs (X.blk s H scope (compEnvC scope c C X.env) fp) ifs (tTs ⟨X.K, cl, X.w⟩ E mc))
    (he : ∀ (s : Shared) (H : Hp) (C : Addr) (c : List (Str × Addr)) (fp : List Addr), PE (X.blk s H scope (compEnvC scope c C X.env) fp) elt (tR ⟨X.K, cl, X.w⟩ E me)) (h1 : ∀ j ∈ tl, j ∈ vs) (h2 : ∀ j ∈ vs, E.kp[j]? ≠ some true) (hs : ∀ x, foldedSetIterable iter X.env x = pure x := by intro _; rfl) :
    PE X (.ListComp elt [⟨tg, iter, ifs, 0⟩] scope pos) (tF ⟨X.K, cl, X.w⟩ E (compM vs f mc me ms)) := by
  subst hvs
  exact PE_imp (pe_lc hc hN hi ok hg ht he hs) fun _ _ _ h => lcV_run h1 h2 h
theorem s_setLcV (i : Nat) {y : Str} {py : Pos} {elt tg iter : Expr} {ifs : List Expr} {scope : Scope} (own : List (Str × Nat)) {spos : Pos} {vs : List Nat} {tl : List Nat} {f : TgM} {mc : BM} {me : RM} {ms : AM} (hvs : own.map (·.2) = vs) (hc : X.calm = true) (hN : X.N.Nodup) (hy : X.N[i]? = some y) (hyl : X.env.scope.names.lookup y = some .local) (hki : E.kp[i]? ≠ some true)
    (hi : PI X tg iter (tIV ⟨X.K, cl, X.w⟩ E ms)) (ok : BlkOk X.N X.env.scope scope own)
    (hg : ∀ (s : Shared) (H : Hp) (C : Addr) (c : List (Str × Addr)) (fp : List Addr), PG (X.blk s H scope (compEnvC scope c C X.env) fp) tg (tPG ⟨X.K, cl, X.w⟩ E tl f)) (ht : ∀ (s : Shared) (H : Hp) (C : Addr) (c : List (Str × Addr)) (fp : List Addr), PTs (X.blk s H scope (compEnvC scope c C X.env) fp) ifs (tTs ⟨X.K, cl, X.w⟩ E mc))
    (he : ∀ (s : Shared) (H : Hp) (C : Addr) (c : List (Str × Addr)) (fp : List Addr), PE (X.blk s H scope (compEnvC scope c C X.env) fp) elt (tR ⟨X.K, cl, X.w⟩ E me)) (h1 : ∀ j ∈ tl, j ∈ vs) (h2 : ∀ j ∈ vs, E.kp[j]? ≠ some true)
    (hsw : swapsWith (.ListComp elt [⟨tg, iter, ifs, 0⟩] scope pos) (some (.Name y py)) spos.line X.env = pure true) (hs : ∀ x, foldedSetIterable iter X.env x = pure x := by intro _; rfl) :
    PS X (.Assign [.Name y py] (.ListComp elt [⟨tg, iter, ifs, 0⟩] scope pos) spos) (tS ⟨X.K, cl, X.w⟩ E (asgM (nameT i) (upF (compM vs f mc me ms)))) := by
  subst hvs
  refine PS_imp (ps_setLc hc hN hy hyl hsw hi ok hg ht he hs) fun D σ H ⟨P, S, ρ, fl, ρ', w, hm, q⟩ => ?_
  unfold asgM upF at hm
  cases eg : compM (own.map (·.2)) f mc me ms ρ with
  | none => rw [eg] at hm; cases hm
  | some d =>
    rw [eg] at hm
    cases hm
    refine lcV_run (c := ⟨X.K, cl, X.w⟩) h1 h2 ⟨P, S, fz, ρ, d, w, eg, fun v H' P' U g r u1 u2 => ?_⟩
    obtain ⟨S2, w2⟩ := (w.aside g u1 u2 (Rep.there d v U r)).store r i hki
    exact q _ H' P' S2 w2 g.p
end
end LI

namespace LI
open PySem L2

theorem FQ.dK {c : LC} {P H : Hp} {Q : VK} {ks : List Key} {ds : List D} {xs : List V} (h : FQ c P H (.dK true ks ds) Q) (e : Ex P H) (n : ks.length = xs.length) (r : RepL c P H ds xs fz) : ∀ p, H p = none → Q (.ref p) (upd H p (.dK (ks.zip xs))) := fun p hp => by
  refine h _ _ P (one p) ⟨.refl _, ex_new hp, e.trans (ex_new hp), fun _ z => .inl z⟩ ⟨p, xs, fz, rfl, upd_same, n, RepL.mono (.refl _) ds xs fz (fun a o z _ => by simp [fz] at z) r, (fa_fz _).symm⟩ one_le fun a z => ?_
  rw [one_pos z]
  exact ⟨hp, none_of e hp⟩
section
variable {X : Cx} {cl : Nat → Addr} {E : En} {pos : Pos}
def dispM (mk mv : AM) : RM := fun ρ => (mk ρ).bind fun kds => (mv ρ).bind fun vds => (keyDs kds).bind fun ks => if ks.Nodup ∧ frzL vds = true ∧ ks.length ≤ 15 ∧ ks.length = vds.length then some (.dK true ks vds) else none
end
end LI

namespace LI
open PySem PySem.Spec PyProof.Rows L2

def enumSM (m : RM) : AM := fun ρ => (m ρ).bind fun d => match d with
  | .str s => some (enumFrom 0 (strsD s))
  | d => (lstD d).map (enumFrom 0)
section
variable {X : Cx} {cl : Nat → Addr} {E : En} {e a b tg : Expr} {pos : Pos} {m : RM}
end
end LI

namespace LI
open PySem PySem.Spec PyProof.Rows L2

def kdGet : List (List Nat × List Nat) → List Nat → Option (List Nat)
  | [], _ => none
  | kv :: kvs, z => if kv.1 = z then some kv.2 else kdGet kvs z
def inK (kvs : List (List Nat × List Nat)) : D → Option D
  | .str z => some (.bl (kdGet kvs z).isSome)
  | _ => none
def ninK (kvs : List (List Nat × List Nat)) : D → Option D
  | .str z => some (.bl (!(kdGet kvs z).isSome))
  | _ => none
def ixK (kvs : List (List Nat × List Nat)) : D → Option D
  | .str z => (kdGet kvs z).map .str
  | _ => none
section
variable {X : Cx} {cl : Nat → Addr} {E : En} {e a b : Expr} {pos p : Pos} {m : RM} {x : Str} {kvs : List (List Nat × List Nat)}
end
end LI

namespace LI
open PySem L2
def binVG (f : D → D → Option D) (i : Nat) (g : GM) : GM := fun ρ => (vM i ρ).bind fun _ => (g ρ).bind fun r => (vM i r.2).bind fun x => (f x r.1).map fun d => (d, r.2)
section
variable {X : Cx} {cl : Nat → Addr} {E : En} {a b : Expr} {pos p : Pos} {g : GM} {r : R2} {f : D → D → Option D}
end
end LI

namespace LI
open PySem L2

def rng1D : D → Option (List D) := fun d => match d with | .int j => if -(2 ^ 62) ≤ j ∧ j < 2 ^ 62 then some (upD 0 j.toNat) else none | _ => none
def rng2D : D → D → Option (List D) := fun x y => match x, y with | .int i, .int j => if -(2 ^ 62) ≤ i ∧ i < 2 ^ 62 ∧ -(2 ^ 62) ≤ j ∧ j < 2 ^ 62 then some (upD i (j - i).toNat) else none | _, _ => none
section
variable {ρ : List D} {i n : Nat} {d : D} {m ma mb mc : RM} {ms : AM} {f : D → D → Option D} {g : D → Option D} {F : FM}
@[simp] theorem ev_v : vM i ρ = (ρ[i]?).bind fun d => if notGone d = true then some d else none := (rfl)
@[simp] theorem ev_k : kM d ρ = some d := (rfl)
@[simp] theorem ev_m2 : m2 f ma mb ρ = (ma ρ).bind fun x => (mb ρ).bind fun y => f x y := (rfl)
@[simp] theorem ev_m1 : m1 g ma ρ = (ma ρ).bind g := (rfl)
@[simp] theorem ev_nil : nilM ρ = some [] := (rfl)
@[simp] theorem ev_cons : consM m ms ρ = (m ρ).bind fun d => (ms ρ).map fun ds => d :: ds := (rfl)
@[simp] theorem ev_tup : tupM ms ρ = (ms ρ).bind fun ds => if frzL ds = true ∧ ds.length ≤ LIM then some (.tup ds) else none := (rfl)
@[simp] theorem ev_lst : lstM ms ρ = (ms ρ).bind fun ds => if frzL ds = true ∧ ds.length ≤ LIM then some (.lst true ds) else none := (rfl)
@[simp] theorem ev_call : callM F ms ρ = (ms ρ).bind fun ds => (F (iceL ds)).bind fun r => if frzL ds = true ∨ noIce r.1 = true then some r.1 else none := (rfl)
@[simp] theorem ev_callV : callVM F ms ρ = (ms ρ).bind fun ds => (F (iceL ds)).map (·.1) := (rfl)
@[simp] theorem ev_upF : upF m ρ = (m ρ).map fun d => (d, ρ) := (rfl)
@[simp] theorem ev_upR : upR m ρ = (m ρ).bind fun d => if frz d = true then some (d, ρ) else none := (rfl)
@[simp] theorem ev_cold : coldM m ρ = (m ρ).map ice := (rfl)
@[simp] theorem ev_fr : frM m ρ = (m ρ).bind fun d => if frz d = true then some d else none := (rfl)
@[simp] theorem ev_tru : truM m ρ = (m ρ).bind truD := (rfl)
@[simp] theorem ev_bM : bM m ρ = (m ρ).bind fun d => match d with | .bl b => some b | _ => none := (rfl)
@[simp] theorem ev_notB {b : BM} : notB b ρ = (b ρ).map not := (rfl)
@[simp] theorem ev_andB {a b : BM} : andB a b ρ = (a ρ).bind fun k => if k = true then b ρ else some false := (rfl)
@[simp] theorem ev_orB {a b : BM} : orB a b ρ = (a ρ).bind fun k => if k = true then some true else b ρ := (rfl)
@[simp] theorem ev_notD : notD m ρ = ((m ρ).bind truD).map fun k => .bl (!k) := (rfl)
@[simp] theorem ev_andM : andM ma mb ρ = (bM ma ρ).bind fun k => if k = true then mb ρ else some (.bl false) := (rfl)
@[simp] theorem ev_orM : orM ma mb ρ = (bM ma ρ).bind fun k => if k = true then some (.bl true) else mb ρ := (rfl)
@[simp] theorem ev_iteM {b : BM} : iteM b ma mb ρ = (b ρ).bind fun k => if k = true then ma ρ else mb ρ := (rfl)
@[simp] theorem ev_ch {f g : D → D → Option D} : chM f g ma mb mc ρ = (ma ρ).bind fun x => (mb ρ).bind fun y => (f x y).bind fun z => match z with | .bl true => (mc ρ).bind fun u => g y u | .bl false => some (.bl false) | _ => none := (rfl)
@[simp] theorem ev_mA {f : List D → Option D} : mA f ms ρ = (ms ρ).bind f := (rfl)
@[simp] theorem ev_isi {ty : String} : isiM ty m ρ = (m ρ).bind fun d => (tyD d).bind fun t => (kitB t ty).map .bl := (rfl)
@[simp] theorem ev_noM : noM ρ = some none := (rfl)
@[simp] theorem ev_soM : soM m ρ = (m ρ).bind fun d => match d with | .int i => some (some i) | _ => none := (rfl)
@[simp] theorem ev_slM {lo hi : OM} : slM m lo hi ρ = (m ρ).bind fun d => (lo ρ).bind fun l => (hi ρ).bind fun h => slD l h d := (rfl)
@[simp] theorem ev_it : itM m ρ = (m ρ).bind itemsD := (rfl)
@[simp] theorem ev_itV : itV m ρ = (m ρ).bind itemsV := (rfl)
@[simp] theorem ev_disp {mk mv : AM} : dispM mk mv ρ = (mk ρ).bind fun kds => (mv ρ).bind fun vds => (keyDs kds).bind fun ks => if ks.Nodup ∧ frzL vds = true ∧ ks.length ≤ 15 ∧ ks.length = vds.length then some (.dK true ks vds) else none := (rfl)
@[simp] theorem keyDs_nil : keyDs [] = some [] := (rfl)
@[simp] theorem keyDs_cons {d : D} {ds : List D} : keyDs (d :: ds) = (keyD d).bind fun k => (keyDs ds).map fun ks => k :: ks := (rfl)
@[simp] theorem keyD_int {i : Int} : keyD (.int i) = some (.inl i) := (rfl)
@[simp] theorem keyD_str {s : List Nat} : keyD (.str s) = some (.inr ⟨s.toArray⟩) := (rfl)
@[simp] theorem ev_enumS : enumSM m ρ = (m ρ).bind fun d => match d with | .str s => some (enumFrom 0 (strsD s)) | d => (lstD d).map (enumFrom 0) := (rfl)
@[simp] theorem ev_binV {g : GM} : binVG f i g ρ = (vM i ρ).bind fun _ => (g ρ).bind fun r => (vM i r.2).bind fun x => (f x r.1).map fun d => (d, r.2) := (rfl)
@[simp] theorem ev_rng1 : rng1M m ρ = (m ρ).bind rng1D := (rfl)
@[simp] theorem ev_rng2 : rng2M ma mb ρ = (ma ρ).bind fun x => (mb ρ).bind fun y => rng2D x y := (rfl)
@[simp] theorem ev_enum : enumM m ρ = (m ρ).bind fun d => (lstD d).map (enumFrom 0) := (rfl)
@[simp] theorem ev_zip : zipM ma mb ρ = (ma ρ).bind fun d1 => (mb ρ).bind fun d2 => (lstD d1).bind fun a => (lstD d2).map fun b => zipD a b := (rfl)
@[simp] theorem ev_rev : revM m ρ = (m ρ).bind fun d => (lstD d).map List.reverse := (rfl)
@[simp] theorem ev_comp {vs : List Nat} {f : TgM} {mc : BM} : compM vs f mc m ms ρ = (ms ρ).bind fun ds => if ds.length ≤ LIM then (compL f mc m (goneAt ρ vs) ds).map (.lst true) else none := (rfl)
@[simp] theorem ev_yes : yesB ρ = some true := (rfl)
@[simp] theorem ev_name : nameT i d ρ = some (ρ.set i d) := (rfl)
@[simp] theorem ev_tupT {f : List D → List D → Option (List D)} {ds : List D} : tupT f (.tup ds) ρ = f ds ρ := (rfl)
@[simp] theorem ev_consT {f : TgM} {g : List D → List D → Option (List D)} {ds : List D} : consT f g (d :: ds) ρ = (f d ρ).bind fun ρ => g ds ρ := (rfl)
@[simp] theorem ev_nilT : nilT [] ρ = some ρ := (rfl)
@[simp] theorem ev_gone0 : goneAt ρ [] = ρ := (rfl)
@[simp] theorem ev_gone1 {v : Nat} {vs : List Nat} : goneAt ρ (v :: vs) = (goneAt ρ vs).set v .gone := (rfl)
@[simp] theorem ev_vLget : (vL i).get ρ = (ρ[i]?).bind fun d => if notGone d = true then some d else none := (rfl)
@[simp] theorem ev_vLput : (vL i).put ρ d = ρ.set i d := (rfl)
@[simp] theorem ev_mv {L : Lens} : mvM L ρ = (L.get ρ).bind fun d => some (d, L.put ρ .gone) := (rfl)
@[simp] theorem ev_app {L : Lens} : appL L m ρ = (L.get ρ).bind fun d => (m ρ).bind fun y => match d with | .lst true ds => if ds.length < LIM then some (.non, L.put ρ (.lst true (ds ++ [y]))) else none | _ => none := (rfl)
@[simp] theorem ev_iceAt : iceAt i ρ = match ρ[i]? with | some d => ρ.set i (ice d) | none => ρ := (rfl)
@[simp] theorem ev_spNx {ρ' : List D} : maskL [] ρ' = [] := (rfl)
@[simp] theorem ev_mask {b : Bool} {bs : List Bool} {ds : List D} : maskL (b :: bs) (d :: ds) = (if b = true then d else .gone) :: maskL bs ds := (rfl)
@[simp] theorem ev_mask0 {b : Bool} {bs : List Bool} : maskL (b :: bs) [] = .gone :: maskL bs [] := (rfl)
end
@[simp] theorem ng_non : notGone .non = true := (rfl)
@[simp] theorem ng_gone : notGone .gone = false := (rfl)
@[simp] theorem ng_bl {b} : notGone (.bl b) = true := (rfl)
@[simp] theorem ng_int {b} : notGone (.int b) = true := (rfl)
@[simp] theorem ng_str {b} : notGone (.str b) = true := (rfl)
@[simp] theorem ng_scr {b} : notGone (.scr b) = true := (rfl)
@[simp] theorem ng_kst {b} : notGone (.kst b) = true := (rfl)
@[simp] theorem ng_tup {b} : notGone (.tup b) = true := (rfl)
@[simp] theorem ng_lst {o b} : notGone (.lst o b) = true := (rfl)
@[simp] theorem ng_dK {o k b} : notGone (.dK o k b) = true := (rfl)
@[simp] theorem ng_dT {o k b} : notGone (.dT o k b) = true := (rfl)
@[simp] theorem ng_dN {o k b} : notGone (.dN o k b) = true := (rfl)
@[simp] theorem ng_obj {o k f b} : notGone (.obj o k f b) = true := (rfl)
@[simp] theorem fl_non : isFlat .non = true := (rfl)
@[simp] theorem fl_bl {b} : isFlat (.bl b) = true := (rfl)
@[simp] theorem fl_int {b} : isFlat (.int b) = true := (rfl)
@[simp] theorem fl_str {b} : isFlat (.str b) = true := (rfl)

@[simp] theorem inK_str {kvs z} : inK kvs (.str z) = some (.bl (kdGet kvs z).isSome) := (rfl)
@[simp] theorem ninK_str {kvs z} : ninK kvs (.str z) = some (.bl (!(kdGet kvs z).isSome)) := (rfl)
@[simp] theorem ixK_str {kvs z} : ixK kvs (.str z) = (kdGet kvs z).map D.str := (rfl)
@[simp] theorem fz_gone : frz .gone = true := (rfl)
@[simp] theorem fz_non : frz .non = true := (rfl)
@[simp] theorem fz_bl {b} : frz (.bl b) = true := (rfl)
@[simp] theorem fz_int {b} : frz (.int b) = true := (rfl)
@[simp] theorem fz_str {b} : frz (.str b) = true := (rfl)
@[simp] theorem fz_scr {b} : frz (.scr b) = true := (rfl)
@[simp] theorem fz_kst {b} : frz (.kst b) = true := (rfl)
@[simp] theorem fz_tup {b} : frz (.tup b) = frzL b := (rfl)
@[simp] theorem fz_lst {o b} : frz (.lst o b) = (!o && frzL b) := (rfl)
@[simp] theorem fz_dK {o k b} : frz (.dK o k b) = (!o && frzL b) := (rfl)
@[simp] theorem fz_dT {o k b} : frz (.dT o k b) = (!o && frzL b) := (rfl)
@[simp] theorem fz_dN {o k b} : frz (.dN o k b) = (!o && frzL b) := (rfl)
@[simp] theorem fz_obj {o k f b} : frz (.obj o k f b) = (!o && frzL b) := (rfl)
@[simp] theorem fzL_nil : frzL [] = true := (rfl)
@[simp] theorem fzL_cons {d ds} : frzL (d :: ds) = (frz d && frzL ds) := (rfl)
@[simp] theorem frzL_map {α : Type} {f : α → D} {xs : List α} : frzL (xs.map f) = true ↔ ∀ x ∈ xs, frz (f x) = true := by simp [frzL_iff]
@[simp] theorem frzL_app {a b : List D} : frzL (a ++ b) = (frzL a && frzL b) := by
  rw [Bool.eq_iff_iff]; simp only [frzL_iff, List.mem_append, Bool.and_eq_true]
  exact ⟨fun h => ⟨fun d q => h d (.inl q), fun d q => h d (.inr q)⟩, fun h d q => q.elim (h.1 d) (h.2 d)⟩
@[simp] theorem ice_gone : ice .gone = .gone := (rfl)
@[simp] theorem ice_non : ice .non = .non := (rfl)
@[simp] theorem ice_bl {b} : ice (.bl b) = .bl b := (rfl)
@[simp] theorem ice_int {b} : ice (.int b) = .int b := (rfl)
@[simp] theorem ice_str {b} : ice (.str b) = .str b := (rfl)
@[simp] theorem ice_scr {b} : ice (.scr b) = .scr b := (rfl)
@[simp] theorem ice_kst {b} : ice (.kst b) = .kst b := (rfl)
@[simp] theorem ice_tup {b} : ice (.tup b) = .tup (iceL b) := (rfl)
@[simp] theorem ice_lst {o b} : ice (.lst o b) = .lst false (iceL b) := (rfl)
@[simp] theorem ice_dK {o k b} : ice (.dK o k b) = .dK false k (iceL b) := (rfl)
@[simp] theorem ice_dT {o k b} : ice (.dT o k b) = .dT false k (iceL b) := (rfl)
@[simp] theorem ice_dN {o k b} : ice (.dN o k b) = .dN false k (iceL b) := (rfl)
@[simp] theorem ice_obj {o k f b} : ice (.obj o k f b) = .obj false k f (iceL b) := (rfl)
@[simp] theorem iceL_nil : iceL [] = [] := (rfl)
@[simp] theorem iceL_cons {d ds} : iceL (d :: ds) = ice d :: iceL ds := (rfl)
theorem iceL_eq : ∀ {ds : List D}, iceL ds = ds.map ice
  | [] => rfl
  | d :: ds => by simp [iceL_eq (ds := ds)]
@[simp] theorem iceL_map {α : Type} {f : α → D} {xs : List α} : iceL (xs.map f) = xs.map fun x => ice (f x) := by rw [iceL_eq, List.map_map]; rfl
@[simp] theorem iceL_app {a b : List D} : iceL (a ++ b) = iceL a ++ iceL b := by simp [iceL_eq]
mutual
theorem toP_ice : ∀ d : D, toP (ice d) = toP d
  | .gone | .non | .bl _ | .int _ | .str _ | .scr _ | .kst _ | .key _ => rfl
  | .tup ds => by simp only [ice_tup, toP, toPL_iceL ds]
  | .lst _ ds => by simp only [ice_lst, toP, toPL_iceL ds]
  | .dK _ k ds => rfl
  | .dT _ k ds => rfl
  | .dN _ k ds => rfl
  | .obj _ k f ds => rfl
theorem toPL_iceL : ∀ ds : List D, toPL (iceL ds) = toPL ds
  | [] => rfl
  | d :: ds => by simp only [iceL_cons, toPL, toP_ice d, toPL_iceL ds]
end
def good (n : Nat) (d : D) : Bool := match toP d with
  | some p => p.canLay0 && decide (p.depth ≤ n)
  | none => false
@[simp] theorem good_non {n} : good n .non = true := by simp [good, toP, PyData.canLay0, PyData.depth]
@[simp] theorem good_bl {n b} : good n (.bl b) = true := by simp [good, toP, PyData.canLay0, PyData.depth]
@[simp] theorem good_int {n b} : good n (.int b) = true := by simp [good, toP, PyData.canLay0, PyData.depth]
@[simp] theorem eqB_int {a b : Int} : eqB (.int a) (.int b) = some (a == b) := by simp [eqB, toP, SeqAt.shaped, PyData.canLay0, PyData.depth, PyData.eqv]
@[simp] theorem eqD_int {a b : Int} : eqD (.int a) (.int b) = some (.bl (a == b)) := by simp [eqD]
@[simp] theorem neD_int {a b : Int} : neD (.int a) (.int b) = some (.bl (a != b)) := by simp [neD, bne]
@[simp] theorem good_str {n : Nat} {b : List Nat} : good n (.str b) = b.all (fun k => decide (k < 0x110000)) := by
  simp [good, toP, PyData.canLay0, PyData.depth, PyData.strOk]
@[simp] theorem add_int {a b : Int} : addD (.int a) (.int b) = some (.int (a + b)) := (rfl)
@[simp] theorem sub_int {a b : Int} : subD (.int a) (.int b) = some (.int (a - b)) := (rfl)
@[simp] theorem add_str {a b : List Nat} : addD (.str a) (.str b) = if a.length + b.length ≤ LIM then some (.str (a ++ b)) else none := (rfl)
@[simp] theorem add_lst {o p : Bool} {a b : List D} : addD (.lst o a) (.lst p b) = if (frzL a && frzL b) = true ∧ a.length + b.length ≤ LIM then some (.lst true (a ++ b)) else none := (rfl)
@[simp] theorem add_tup {a b : List D} : addD (.tup a) (.tup b) = if (frzL a && frzL b) = true ∧ a.length + b.length ≤ LIM then some (.tup (a ++ b)) else none := (rfl)
@[simp] theorem mul_int {a b : Int} : mulD (.int a) (.int b) = if (-(2 ^ 64) < a ∧ a < 2 ^ 64) ∨ (-(2 ^ 64) < b ∧ b < 2 ^ 64) then some (.int (a * b)) else none := (rfl)
@[simp] theorem mul_lst {o : Bool} {a : List D} {k : Int} : mulD (.lst o a) (.int k) = if frzL a = true ∧ k ≤ 1000000 ∧ -1000000 ≤ k ∧ a.length * k.toNat ≤ LIM then some (.lst true (List.replicate k.toNat a).flatten) else none := (rfl)
@[simp] theorem mul_str {a : List Nat} {k : Int} : mulD (.str a) (.int k) = if k ≤ 1000000 ∧ -1000000 ≤ k ∧ a.length * k.toNat ≤ LIM then some (.str (List.replicate k.toNat a).flatten) else none := (rfl)
@[simp] theorem fdiv_int {a b : Int} : fdivD (.int a) (.int b) = if 0 < b ∧ b.natAbs.log2 < 9000 then some (.int (a / b)) else none := (rfl)
@[simp] theorem mod_int {a b : Int} : modD (.int a) (.int b) = if 0 < b then some (.int (a % b)) else none := (rfl)
@[simp] theorem pow_int {a b : Int} : powD (.int a) (.int b) = if 0 ≤ b ∧ b ≤ 1000000 ∧ a.natAbs < 2 ^ 64 then some (.int (a ^ b.toNat)) else none := (rfl)
@[simp] theorem neg_int {a : Int} : negD (.int a) = some (.int (-a)) := (rfl)
@[simp] theorem lt_int {a b : Int} : ltD (.int a) (.int b) = some (.bl (decide (a < b))) := (rfl)
@[simp] theorem le_int {a b : Int} : leD (.int a) (.int b) = some (.bl (decide (a ≤ b))) := (rfl)
@[simp] theorem gt_int {a b : Int} : gtD (.int a) (.int b) = some (.bl (decide (b < a))) := (rfl)
@[simp] theorem ge_int {a b : Int} : geD (.int a) (.int b) = some (.bl (decide (b ≤ a))) := (rfl)
@[simp] theorem lt_str {a b : List Nat} : ltD (.str a) (.str b) = some (.bl (decide (a < b))) := (rfl)
@[simp] theorem le_str {a b : List Nat} : leD (.str a) (.str b) = some (.bl (!decide (b < a))) := (rfl)
@[simp] theorem ix_lst {o : Bool} {ds : List D} {i : Int} : ixD (.lst o ds) (.int i) = atI ds i := (rfl)
@[simp] theorem ix_tup {ds : List D} {i : Int} : ixD (.tup ds) (.int i) = atI ds i := (rfl)
@[simp] theorem ix_scr {ds : List Int} {i : Int} : ixD (.scr ds) (.int i) = (atI ds i).map .int := (rfl)
@[simp] theorem ix_str {s : List Nat} {i : Int} : ixD (.str s) (.int i) = if s.length ≤ LIM then (atI s i).map fun k => .str [k] else none := (rfl)
theorem atI_at {α : Type} {xs : List α} {i : Int} (h : 0 ≤ i) (hl : i.toNat < xs.length) : atI xs i = some (xs[i.toNat]) := by
  unfold atI ixN
  have h1 : ¬ i < 0 := by omega
  have h2 : i < xs.length := by omega
  simp [h1, h, h2, hl]
@[simp] theorem atI_0 {α : Type} {x : α} {xs : List α} : atI (x :: xs) 0 = some x := by rw [atI_at (by omega) (by simp)]; rfl
@[simp] theorem atI_1 {α : Type} {x y : α} {xs : List α} : atI (x :: y :: xs) 1 = some y := by rw [atI_at (by omega) (by simp)]; rfl
@[simp] theorem atI_2 {α : Type} {x y z : α} {xs : List α} : atI (x :: y :: z :: xs) 2 = some z := by rw [atI_at (by omega) (by simp)]; rfl
@[simp] theorem atI_3 {α : Type} {x y z u : α} {xs : List α} : atI (x :: y :: z :: u :: xs) 3 = some u := by rw [atI_at (by omega) (by simp)]; rfl
@[simp] theorem atI_4 {α : Type} {x y z u v : α} {xs : List α} : atI (x :: y :: z :: u :: v :: xs) 4 = some v := by rw [atI_at (by omega) (by simp)]; rfl
@[simp] theorem len_tup {ds : List D} : lenD [.tup ds] = some (.int ds.length) := (rfl)
@[simp] theorem len_lst {o : Bool} {ds : List D} : lenD [.lst o ds] = some (.int ds.length) := (rfl)
@[simp] theorem len_scr {ds : List Int} : lenD [.scr ds] = some (.int ds.length) := (rfl)
@[simp] theorem len_dK {o k ds} : lenD [.dK o k ds] = some (.int k.length) := (rfl)
@[simp] theorem len_str {s : List Nat} : lenD [.str s] = if s.length ≤ LIM then some (.int s.length) else none := (rfl)
@[simp] theorem max2_int {i j : Int} : max2D [.int i, .int j] = some (.int (if j > i then j else i)) := (rfl)
@[simp] theorem min2_int {i j : Int} : min2D [.int i, .int j] = some (.int (if j < i then j else i)) := (rfl)
@[simp] theorem intD_int {i : Int} : intD [.int i] = some (.int i) := (rfl)
@[simp] theorem intD_bl {b : Bool} : intD [.bl b] = some (.int (if b then 1 else 0)) := (rfl)
@[simp] theorem sum_lst {o : Bool} {ds : List D} : sumD [.lst o ds] = (intsD ds).map fun is => .int is.sum := (rfl)
@[simp] theorem ints_nil : intsD [] = some [] := (rfl)
@[simp] theorem ints_cons {i : Int} {ds : List D} : intsD (.int i :: ds) = (intsD ds).map fun is => i :: is := (rfl)
@[simp] theorem ints_map {α : Type} {f : α → Int} : ∀ {xs : List α}, intsD (xs.map fun x => .int (f x)) = some (xs.map f)
  | [] => rfl
  | x :: xs => by simp [ints_map (xs := xs)]
@[simp] theorem list_lst {o : Bool} {ds : List D} : listD [.lst o ds] = if frzL ds = true then some (.lst true ds) else none := (rfl)
@[simp] theorem list_tup {ds : List D} : listD [.tup ds] = if frzL ds = true then some (.lst true ds) else none := (rfl)
@[simp] theorem list_scr {ns : List Int} : listD [.scr ns] = some (.lst true (ns.map .int)) := (rfl)
@[simp] theorem tru_bl {b : Bool} : truD (.bl b) = some b := (rfl)
@[simp] theorem tru_non : truD .non = some false := (rfl)
@[simp] theorem tru_int {i : Int} : truD (.int i) = some (i != 0) := (rfl)
@[simp] theorem tru_str {s : List Nat} : truD (.str s) = if s.length ≤ LIM then some (!s.isEmpty) else none := (rfl)
@[simp] theorem tru_tup {s : List D} : truD (.tup s) = some (!s.isEmpty) := (rfl)
@[simp] theorem tru_lst {o : Bool} {s : List D} : truD (.lst o s) = some (!s.isEmpty) := (rfl)
@[simp] theorem tru_scr {s : List Int} : truD (.scr s) = some (!s.isEmpty) := (rfl)
@[simp] theorem ty_non : tyD .non = some "NoneType" := (rfl)
@[simp] theorem ty_bl {b} : tyD (.bl b) = some "bool" := (rfl)
@[simp] theorem ty_int {b} : tyD (.int b) = some "int" := (rfl)
@[simp] theorem ty_str {b} : tyD (.str b) = some "str" := (rfl)
@[simp] theorem ty_scr {b} : tyD (.scr b) = some "list" := (rfl)
@[simp] theorem ty_lst {o b} : tyD (.lst o b) = some "list" := (rfl)
@[simp] theorem ty_tup {b} : tyD (.tup b) = some "tuple" := (rfl)
@[simp] theorem ty_dK {o k b} : tyD (.dK o k b) = some "dict" := (rfl)
@[simp] theorem ty_dT {o k b} : tyD (.dT o k b) = some "dict" := (rfl)
@[simp] theorem in_1 {k : Nat} {z : List Nat} : inB (.str [k]) (.str z) = some (decide (k ∈ z)) := (rfl)
@[simp] theorem inD_eq {x y : D} : inD x y = (inB x y).map .bl := (rfl)
@[simp] theorem ninD_eq {x y : D} : ninD x y = (inB x y).map fun k => .bl (!k) := (rfl)
@[simp] theorem itemsV_lst {o : Bool} {ds : List D} : itemsV (.lst o ds) = if frzL ds = true then some ds else none := (rfl)
@[simp] theorem itemsV_tup {ds : List D} : itemsV (.tup ds) = if frzL ds = true then some ds else none := (rfl)
@[simp] theorem itemsV_scr {ds : List Int} : itemsV (.scr ds) = some (ds.map .int) := (rfl)
@[simp] theorem itemsV_str {s : List Nat} : itemsV (.str s) = some (s.map fun k => .str [k]) := (rfl)
@[simp] theorem items_lst {ds : List D} : itemsD (.lst false ds) = if frzL ds = true then some ds else none := (rfl)
@[simp] theorem items_tup {ds : List D} : itemsD (.tup ds) = if frzL ds = true then some ds else none := (rfl)
@[simp] theorem items_scr {ds : List Int} : itemsD (.scr ds) = some (ds.map .int) := (rfl)
@[simp] theorem items_str {s : List Nat} : itemsD (.str s) = some (s.map fun k => .str [k]) := (rfl)
@[simp] theorem lstD_lst {ds : List D} : lstD (.lst false ds) = if frzL ds = true then some ds else none := (rfl)
@[simp] theorem lstD_scr {ds : List Int} : lstD (.scr ds) = some (ds.map .int) := (rfl)
@[simp] theorem sl_lst {o : Bool} {lo hi : Option Int} {ds : List D} : slD lo hi (.lst o ds) = if frzL ds = true then some (.lst true (cutL ds lo hi)) else none := (rfl)
@[simp] theorem sl_tup {lo hi : Option Int} {ds : List D} : slD lo hi (.tup ds) = if frzL ds = true then some (.tup (cutL ds lo hi)) else none := (rfl)
@[simp] theorem sl_scr {lo hi : Option Int} {ds : List Int} : slD lo hi (.scr ds) = some (.lst true ((cutL ds lo hi).map .int)) := (rfl)
@[simp] theorem sl_str {lo hi : Option Int} {ds : List Nat} : slD lo hi (.str ds) = if ds.length ≤ LIM then some (.str (cutL ds lo hi)) else none := (rfl)
theorem cut_fromto {α : Type} {xs : List α} {k j : Int} (h : 0 ≤ k) (h2 : 0 ≤ j) : cutL xs (some k) (some j) = (xs.drop k.toNat).take (j.toNat - k.toNat) := by
  have e1 : HT.sIx xs.length 0 (some k) = min k.toNat xs.length := by
    unfold HT.sIx
    split <;> rename_i e <;> cases e <;> first | omega | (simp; omega) | skip
  have e2 : HT.sIx xs.length xs.length (some j) = min j.toNat xs.length := by
    unfold HT.sIx
    split <;> rename_i e <;> cases e <;> first | omega | (simp; omega) | skip
  unfold cutL
  rw [e1, e2]
  rcases Nat.le_total k.toNat xs.length with q | q
  · rw [Nat.min_eq_left q]
    rcases Nat.le_total j.toNat xs.length with q2 | q2
    · rw [Nat.min_eq_left q2]
    · rw [Nat.min_eq_right q2, List.take_of_length_le (by simp), List.take_of_length_le (by simp; omega)]
  · rw [Nat.min_eq_right q]; simp [List.drop_of_length_le q]

theorem seq_nx {a b : SM} {ρ ρ1 : List D} (h : a ρ = some (.nx, ρ1)) : seqM a b ρ = b ρ1 := by simp [seqM, h]
theorem seq_rt {a b : SM} {ρ ρ1 : List D} {d : D} (h : a ρ = some (.rt d, ρ1)) : seqM a b ρ = some (.rt d, ρ1) := by simp [seqM, h]
theorem run_eq {n : Nat} {kp : List Bool} {m : SM} {ds ρ' : List D} {d : D} (hl : ds.length = kp.length) (h : m (ds ++ List.replicate (n - ds.length) .gone) = some (.rt d, ρ')) : runM n kp m ds = some (d, maskL kp ρ') := by unfold runM; rw [if_pos hl, h]; rfl
section
variable {f : TgM} {body : SM} {kl : List Nat}
end

end LI

namespace LI
open PySem L2

theorem upD_eq (lo : Int) (n : Nat) : upD lo n = (List.range n).map fun (k : Nat) => D.int (lo + (k : Int)) := rfl
theorem for_at {f : TgM} {body : SM} {kl : List Nat} {ms : AM} {ρ ds : List D} (h : ms ρ = some ds) : forM f body kl ms ρ = forL f body kl ds ρ := by
  unfold forM; rw [h]; rfl
def cellF : FM := runM 2 [true, true] (seqM (ifM (bM (m2 ltD (vM 1) (mA lenD (consM (vM 0) nilM)))) (retM (upR (m2 ixD (vM 0) (vM 1)))) skipM)
  (retM (upF (kM (.int 0)))))
theorem cell_eq (ns : List Int) (k : Nat) : cellF [.scr ns, .int k] = some (.int (ns.getD k 0), [.scr ns, .int k]) := by
  unfold cellF
  refine run_eq (ρ' := [.scr ns, .int k]) rfl ?_
  by_cases h : k < ns.length
  · refine seq_rt ?_
    simp -implicitDefEqProofs [ifM, retM, h, atI_at, List.getD_eq_getElem?_getD]
  · rw [seq_nx (ρ1 := [.scr ns, .int k]) (by simp -implicitDefEqProofs [ifM, skipM, h])]
    simp -implicitDefEqProofs [retM, h, List.getD_eq_getElem?_getD]
theorem upD0 (n : Nat) : upD 0 n = (List.range n).map fun (k : Nat) => D.int (k : Int) := by
  rw [upD_eq]; simp
theorem atI_nat {α : Type} {xs : List α} {k : Nat} (h : k < xs.length) : atI xs (k : Int) = some xs[k] := atI_at (by omega) (by simpa using h)
theorem if_F {mc : BM} {a b : SM} {ρ : List D} (h : mc ρ = some false) : ifM mc a b ρ = b ρ := by unfold ifM; rw [h]; rfl
theorem if_T {mc : BM} {a b : SM} {ρ : List D} (h : mc ρ = some true) : ifM mc a b ρ = a ρ := by unfold ifM; rw [h]; rfl
@[simp] theorem kit_int_int : kitB "int" "int" = some true := by decide +kernel
@[simp] theorem kit_int_bool : kitB "int" "bool" = some false := by decide +kernel
@[simp] theorem kit_int_str : kitB "int" "str" = some false := by decide +kernel
@[simp] theorem kit_int_list : kitB "int" "list" = some false := by decide +kernel
@[simp] theorem kit_int_tuple : kitB "int" "tuple" = some false := by decide +kernel
@[simp] theorem kit_int_dict : kitB "int" "dict" = some false := by decide +kernel
@[simp] theorem kit_bool_int : kitB "bool" "int" = some true := by decide +kernel
@[simp] theorem kit_bool_bool : kitB "bool" "bool" = some true := by decide +kernel
@[simp] theorem kit_bool_str : kitB "bool" "str" = some false := by decide +kernel
@[simp] theorem kit_bool_list : kitB "bool" "list" = some false := by decide +kernel
@[simp] theorem kit_bool_tuple : kitB "bool" "tuple" = some false := by decide +kernel
@[simp] theorem kit_bool_dict : kitB "bool" "dict" = some false := by decide +kernel
@[simp] theorem kit_str_int : kitB "str" "int" = some false := by decide +kernel
@[simp] theorem kit_str_bool : kitB "str" "bool" = some false := by decide +kernel
@[simp] theorem kit_str_str : kitB "str" "str" = some true := by decide +kernel
@[simp] theorem kit_str_list : kitB "str" "list" = some false := by decide +kernel
@[simp] theorem kit_str_tuple : kitB "str" "tuple" = some false := by decide +kernel
@[simp] theorem kit_str_dict : kitB "str" "dict" = some false := by decide +kernel
@[simp] theorem kit_list_int : kitB "list" "int" = some false := by decide +kernel
@[simp] theorem kit_list_bool : kitB "list" "bool" = some false := by decide +kernel
@[simp] theorem kit_list_str : kitB "list" "str" = some false := by decide +kernel
@[simp] theorem kit_list_list : kitB "list" "list" = some true := by decide +kernel
@[simp] theorem kit_list_tuple : kitB "list" "tuple" = some false := by decide +kernel
@[simp] theorem kit_list_dict : kitB "list" "dict" = some false := by decide +kernel
@[simp] theorem kit_tuple_int : kitB "tuple" "int" = some false := by decide +kernel
@[simp] theorem kit_tuple_bool : kitB "tuple" "bool" = some false := by decide +kernel
@[simp] theorem kit_tuple_str : kitB "tuple" "str" = some false := by decide +kernel
@[simp] theorem kit_tuple_list : kitB "tuple" "list" = some false := by decide +kernel
@[simp] theorem kit_tuple_tuple : kitB "tuple" "tuple" = some true := by decide +kernel
@[simp] theorem kit_tuple_dict : kitB "tuple" "dict" = some false := by decide +kernel
@[simp] theorem kit_dict_int : kitB "dict" "int" = some false := by decide +kernel
@[simp] theorem kit_dict_bool : kitB "dict" "bool" = some false := by decide +kernel
@[simp] theorem kit_dict_str : kitB "dict" "str" = some false := by decide +kernel
@[simp] theorem kit_dict_list : kitB "dict" "list" = some false := by decide +kernel
@[simp] theorem kit_dict_tuple : kitB "dict" "tuple" = some false := by decide +kernel
@[simp] theorem kit_dict_dict : kitB "dict" "dict" = some true := by decide +kernel
@[simp] theorem kit_NoneType_int : kitB "NoneType" "int" = some false := by decide +kernel
@[simp] theorem kit_NoneType_bool : kitB "NoneType" "bool" = some false := by decide +kernel
@[simp] theorem kit_NoneType_str : kitB "NoneType" "str" = some false := by decide +kernel
@[simp] theorem kit_NoneType_list : kitB "NoneType" "list" = some false := by decide +kernel
@[simp] theorem kit_NoneType_tuple : kitB "NoneType" "tuple" = some false := by decide +kernel
@[simp] theorem kit_NoneType_dict : kitB "NoneType" "dict" = some false := by decide +kernel
@[simp] theorem lim_ge (n : Nat) : (OfNat.ofNat n : Nat) ≤ LIM ↔ n ≤ 4000000 := Iff.rfl
@[simp] theorem lim_0 : 0 ≤ LIM := by decide
@[simp] theorem lim_1 : 1 ≤ LIM := by decide
end LI

namespace LI
open PySem L2

section
variable {X : Cx} {cl : Nat → Addr} {E : En} {e e0 a b o tg : Expr} {es : List Expr} {pos pos' p apos : Pos} {m mo ma mb : RM} {g : GM} {ms : AM} {n : Nat} {f nm x : Str} {L : Lens} {σ : L2.St}
theorem repL_any {c : LC} {P H : Hp} {ds : List D} {xs : List V} (r : RepL c P H ds xs fz) : ∀ H', RepL c P H' ds xs fz := fun H' => RepL.mono (.refl _) ds xs fz (fun a o h => by simp [fz] at h) r
theorem repL_cat {c : LC} {P H : Hp} {ds es : List D} {xs ys : List V} (r : RepL c P H ds xs fz) (s : RepL c P H es ys fz) : RepL c P H (ds ++ es) (xs ++ ys) fz := by
  have := RepL.append r s
  rwa [fa_fz] at this
end
end LI

namespace LI
open PySem L2

section
variable {X : Cx} {cl : Nat → Addr} {E : En} {e e0 a b o i tg : Expr} {es : List Expr} {pos pos' p apos : Pos} {m mo ma mb mi : RM} {g : GM} {ms ms1 ms2 : AM} {n : Nat} {f nm x : Str} {L : Lens} {σ : L2.St} {CX : CXT} {k : Nat} {fad : Addr} {fd : FuncData} {ps : List Str} {F : FM} {XE : XK}
def tAL (c : LC) (E : En) (ms1 : AM) (L : Lens) (ms2 : AM) : TA := fun σ H Q => ∃ P S T ρ ds1 d ds2, Wd c E P S T σ H ρ ∧ ms1 ρ = some ds1 ∧ L.get ρ = some d ∧ ms2 ρ = some ds2 ∧
  ∀ vs1 v vs2 H' P' U1 U2 Sd R, Gr P H P' H' → RepL c P' H' ds1 vs1 U1 → Loc c L P' H' σ ρ S v d Sd R → RepL c P' H' ds2 vs2 U2 → Q (vs1 ++ v :: vs2) H'
theorem al_here (he : PE X e (tPl ⟨X.K, cl, X.w⟩ E L)) (ha : PA X es (tAR ⟨X.K, cl, X.w⟩ E ms2)) (hs : starEach (e :: es) X.env = (false, eval e X.env) :: starEach es X.env := by rfl) : PA X (e :: es) (tAL ⟨X.K, cl, X.w⟩ E nilM L ms2) :=
  PA_imp (pa_cons he ha hs) fun σ H Q ⟨P, S, T, ρ, ds1, d, ds2, w, e1, e2, e3, q⟩ => by
    cases e1
    exact ⟨P, S, T, ρ, d, w, e2, fun v Sd R l => ⟨P, S, T, ρ, ds2, w, e3, fun vs H1 P1 U1 g1 r1 => q [] v vs H1 P1 fz U1 Sd R g1 ⟨rfl, rfl⟩ (l.grow g1) r1⟩⟩
theorem al_next (he : PE X e (tR ⟨X.K, cl, X.w⟩ E m)) (ha : PA X es (tAL ⟨X.K, cl, X.w⟩ E ms1 L ms2)) (hs : starEach (e :: es) X.env = (false, eval e X.env) :: starEach es X.env := by rfl) : PA X (e :: es) (tAL ⟨X.K, cl, X.w⟩ E (consM m ms1) L ms2) :=
  PA_imp (pa_cons he ha hs) fun σ H Q ⟨P, S, T, ρ, ds1, d, ds2, w, e1, e2, e3, q⟩ => by
    rw [ev_cons] at e1
    cases z1 : m ρ with
    | none => rw [z1] at e1; cases e1
    | some d0 =>
      cases z2 : ms1 ρ with
      | none => rw [z1, z2] at e1; cases e1
      | some ds0 =>
        rw [z1, z2] at e1
        cases e1
        refine ⟨P, S, T, ρ, d0, w, z1, fun v0 H1 P1 U0 g1 r0 => ⟨P1, S, T, ρ, ds0, d, ds2, w.grow g1, z2, e2, e3, fun vs1 v vs2 H2 P2 U1 U2 Sd R g2 r1 l r2 => ?_⟩⟩
        exact q (v0 :: vs1) v vs2 H2 P2 (fa U0 U1) U2 Sd R (g1.trans g2) ⟨v0, vs1, U0, U1, rfl, r0.gr g2, r1, rfl⟩ l r2
def lendM (F : FM) (ms1 : AM) (L : Lens) (ms2 : AM) : GM := fun ρ => (ms1 ρ).bind fun ds1 => (L.get ρ).bind fun d => (ms2 ρ).bind fun ds2 => if frzL ds1 = true ∧ frzL ds2 = true then (F (ds1 ++ d :: ds2)).bind fun r => (r.2[ds1.length]?).map fun d' => (r.1, L.put ρ d') else none
theorem lend_split {ρ : List D} {r : D × List D} (h : lendM F ms1 L ms2 ρ = some r) : ∃ ds1 d ds2 d1 ds' d', ms1 ρ = some ds1 ∧ L.get ρ = some d ∧ ms2 ρ = some ds2 ∧ frzL ds1 = true ∧ frzL ds2 = true ∧ F (ds1 ++ d :: ds2) = some (d1, ds') ∧ ds'[ds1.length]? = some d' ∧ r = (d1, L.put ρ d') := by
  unfold lendM at h
  cases e1 : ms1 ρ with
  | none => rw [e1] at h; cases h
  | some ds1 =>
    cases e2 : L.get ρ with
    | none => rw [e1, e2] at h; cases h
    | some d =>
      cases e3 : ms2 ρ with
      | none => rw [e1, e2, e3] at h; cases h
      | some ds2 =>
        rw [e1, e2, e3, Option.bind_some, Option.bind_some, Option.bind_some] at h
        split at h
        · rename_i hc
          cases e4 : F (ds1 ++ d :: ds2) with
          | none => rw [e4] at h; cases h
          | some rr =>
            obtain ⟨d1, ds'⟩ := rr
            rw [e4, Option.bind_some] at h
            dsimp only at h
            cases e5 : ds'[ds1.length]? with
            | none => rw [e5] at h; cases h
            | some d' => rw [e5] at h; cases h; exact ⟨ds1, d, ds2, d1, ds', d', rfl, rfl, rfl, hc.1, hc.2, e4, e5, rfl⟩
        · cases h
theorem g_lend (G : FnOk X.prog X.w X.K X.mg X.base CX k fad fd ps (spD ⟨X.K, cl, X.w⟩ F)) (hr : Room k X.A) (hg : Gl X x) (hm : X.mg x = some (.ref fad)) (hk : PySem.W.keepIn X.K (.ref fad) = true) (hb : Binds X.K fd ps []) (hx : Passes CX X XE)
    (ha : PA X (e :: es) (tAL ⟨X.K, cl, X.w⟩ E ms1 L ms2)) (hdb : (x == ("__debug__" : Str)) = false := by decide) (he : starEach (e :: es) X.env = (false, eval e X.env) :: starEach es X.env := by rfl) (hpl : (backTo pos (starEach es X.env)).any (·.1) = false := by rfl) :
    PE X (.Call (.Name x p) (e :: es) [] pos) (tG ⟨X.K, cl, X.w⟩ E (lendM F ms1 L ms2)) := PE_imp (pe_call G hr hg hm hk hb .nil hx ha hdb he hpl) fun σ H Q ⟨P, S, T, ρ, d1, ρ', w, hm, q⟩ => by
  obtain ⟨ds1, d, ds2, d2, ds', d', e1, e2, e3, z1, z2, e4, e5, e6⟩ := lend_split hm
  cases e6
  refine ⟨P, S, T, ρ, ds1, d, ds2, w, e1, e2, e3, fun vs1 v vs2 H1 P1 U1 U2 Sd R g1 r1 l r2 => ?_⟩
  have y1 := RepL.frz0 ds1 vs1 U1 z1 r1
  have y2 := RepL.frz0 ds2 vs2 U2 z2 r2
  subst y1; subst y2
  have w1 := w.grow g1
  show spD ⟨X.K, cl, X.w⟩ F ((vs1 ++ v :: vs2) ++ []) H1 Q XE
  rw [List.append_nil]
  have rall : RepL ⟨X.K, cl, X.w⟩ P1 H1 (ds1 ++ d :: ds2) (vs1 ++ v :: vs2) (fa fz (fa Sd fz)) := RepL.append r1 ⟨v, vs2, Sd, fz, rfl, l.rep, r2, rfl⟩
  rw [fa_fz, fz_fa] at rall
  refine ⟨P1, Sd, _, _, ds', rall, g1.ph, fun b => by have := w.le b; have := l.sum b; omega, fun b hb => w1.out b (by have := l.sum b; omega), e4, fun v2 H2 P2 U S' st rd rl => ?_⟩
  obtain ⟨v', Sd', R', h1, h2, h3, _⟩ := rl.focus e5
  have hv : v' = v := by
    rw [r1.length, List.getElem?_append_right (Nat.le_refl _), Nat.sub_self] at h1
    simpa using h1.symm
  subst hv
  have henv := l.put P2 H2 d' Sd' st.p0 (fun b u hb hu => st.fr b u (by have := w.le b; have := l.sum b; omega) hu) h2
  have w2 := w1.through l.sum st henv (U := U) (fun b => by have := h3 b; simp only [fa]; omega) (Rep.there d1 v2 U rd)
  exact q v2 H2 P2 _ U w2 (g1.p.trans st.p0) rd fun b u hb hu => st.fr b u (by have := w.le b; have := l.sum b; omega) (g1.h b u hu)
end
end LI

namespace LI
open PySem L2

section
variable {X : Cx} {cl : Nat → Addr} {E : En} {e a b o i : Expr} {pos p apos cpos : Pos} {g ga gb : GM} {m ma mb mc mk mv : RM} {r : R2} {f : D → D → Option D}
end
end LI

namespace LI
open PySem L2

section
variable {c : LC} {P H : Hp}
end
section
variable {X : Cx} {cl : Nat → Addr} {E : En} {e a b o i f0 : Expr} {pos p apos cpos pos' : Pos} {m ma mb mc mk mv mi : RM} {g : GM} {L : Lens}
end
end LI

namespace LI
open PySem L2

theorem Wd.iceL {c : LC} {P H : Hp} {S T : FP} {σ : L2.St} {ρ : List D} {L : Lens} {v : V} {d : D} {Sd R : FP} (w : Wd c E P S T σ H ρ) (l : Loc c L P H σ ρ S v d Sd R) : ∃ P' S', Wd c E P' S' T σ H (L.put ρ (ice d)) ∧ Ex P P' := by
  have h1 := l.sum
  have hP : ∀ a, 0 < Sd a → P a = none := fun a z => w.out a (by have := h1 a; omega)
  have ex : Ex P (fun a => if 0 < Sd a then H a else P a) := fun a o z => by
    by_cases hu : 0 < Sd a
    · rw [hP a hu] at z; cases z
    · simp [hu, z]
  have hr : Rep c (fun a => if 0 < Sd a then H a else P a) H (ice d) v fz := Rep.ice ex d v Sd (fun a o z1 z2 => by simp [z1, z2]) l.rep
  have henv := l.put _ H _ fz ex (fun _ _ _ h => h) hr
  rw [fz_fa] at henv
  refine ⟨fun a => if 0 < Sd a then H a else P a, R, ⟨henv, fun a => ?_, fun a z => ?_, w.th, fun a o z => ?_, w.p0.trans ex, w.fr, fun a z => ?_, fun a z => w.ns a (by have := h1 a; omega), w.kp⟩, ex⟩
  · have := w.le a; have := h1 a; omega
  · have l2 := w.le a; have s := h1 a
    have hu : ¬ 0 < Sd a := by omega
    simp only [hu, if_false]
    exact w.out a (by omega)
  · by_cases hu : 0 < Sd a
    · simpa [hu] using z
    · exact w.ph a o (by simpa [hu] using z)
  · by_cases hu : 0 < Sd a
    · exact .inr (w.ns a (by have := h1 a; omega))
    · exact w.np a (by simpa [hu] using z)
abbrev AGM := List D → Option (List D × List D)
def nilG : AGM := fun ρ => some ([], ρ)
section
variable {X : Cx} {cl : Nat → Addr} {E : En} {e : Expr} {es : List Expr} {pos p : Pos} {g : GM} {ms : AGM} {CX : CXT} {k : Nat} {f : Addr} {fd : FuncData} {ps : List Str} {F : FM} {XE : XK} {x : Str}
end
end LI

namespace LI
open PySem L2

section
variable {X : Cx} {cl : Nat → Addr} {E : En} {e a b : Expr} {pos : Pos} {m ma mb mi : RM} {L : Lens}
end
end LI
namespace LI
open PySem L2
def tAO (c : LC) (E : En) (m : AGM) : TA := fun σ H Q => ∃ P S T ρ ds ρ', Wd c E P S T σ H ρ ∧ m ρ = some (ds, ρ') ∧
  ∀ vs H' P' S' U, Wd c E P' S' (fa T U) σ H' ρ' → Ex P P' → RepL c P' H' ds vs U → (∀ a o, 0 < T a → H a = some o → H' a = some o) → Q vs H'
def consO (g : GM) (ms : AGM) : AGM := fun ρ => (g ρ).bind fun r => (ms r.2).map fun s => (r.1 :: s.1, s.2)
section
variable {X : Cx} {cl : Nat → Addr} {E : En} {e : Expr} {es : List Expr} {pos p : Pos} {g : GM} {ms : AGM}
theorem ao_nil : PA X [] (tAO ⟨X.K, cl, X.w⟩ E nilG) := PA_imp pa_nil fun σ H Q ⟨P, S, T, ρ, ds, ρ', w, hm, q⟩ => by
  cases hm
  exact q [] H P S fz (by rw [fa_fz]; exact w) (.refl _) ⟨rfl, rfl⟩ fun _ _ _ h => h
theorem ao_cons (h : PE X e (tG ⟨X.K, cl, X.w⟩ E g)) (hr : PA X es (tAO ⟨X.K, cl, X.w⟩ E ms)) (hs : starEach (e :: es) X.env = (false, eval e X.env) :: starEach es X.env := by rfl) : PA X (e :: es) (tAO ⟨X.K, cl, X.w⟩ E (consO g ms)) :=
  PA_imp (pa_cons h hr hs) fun σ H Q ⟨P, S, T, ρ, ds, ρ', w, hm, q⟩ => by
    unfold consO at hm
    cases e1 : g ρ with
    | none => rw [e1] at hm; cases hm
    | some r =>
      obtain ⟨d, ρ1⟩ := r
      rw [e1, Option.bind_some] at hm
      dsimp only at hm
      cases e2 : ms ρ1 with
      | none => rw [e2] at hm; cases hm
      | some s =>
        obtain ⟨ds2, ρ2⟩ := s
        rw [e2] at hm
        cases hm
        refine ⟨P, S, T, ρ, d, ρ1, w, e1, fun v H1 P1 S1 U w1 x1 r1 k1 => ?_⟩
        refine ⟨P1, S1, fa T U, ρ1, ds2, _, w1, e2, fun vs H2 P2 S2 U2 w2 x2 r2 k2 => ?_⟩
        rw [fa_assoc] at w2
        exact q (v :: vs) H2 P2 S2 (fa U U2) w2 (x1.trans x2) ⟨v, vs, U, U2, rfl, Rep.mono x2 d v U (fun a o z h => k2 a o (by simp only [fa]; omega) h) r1, r2, rfl⟩ fun a o z1 z2 => k2 a o (by simp only [fa]; omega) (k1 a o z1 z2)
def lstO (ms : AGM) : GM := fun ρ => (ms ρ).bind fun s => if s.1.length ≤ LIM then some (.lst true s.1, s.2) else none
theorem g_lstO (h : PA X es (tAO ⟨X.K, cl, X.w⟩ E ms)) : PE X (.List es pos) (tG ⟨X.K, cl, X.w⟩ E (lstO ms)) := PE_imp (pe_lst h) fun σ H Q ⟨P, S, T, ρ, d, ρ', w, hm, q⟩ => by
  unfold lstO at hm
  cases e1 : ms ρ with
  | none => rw [e1] at hm; cases hm
  | some s =>
    obtain ⟨ds, ρ1⟩ := s
    rw [e1, Option.bind_some] at hm
    dsimp only at hm
    split at hm
    · rename_i hl
      cases hm
      refine ⟨P, S, T, ρ, ds, _, w, e1, fun vs H1 P1 S1 U w1 x1 r1 k1 => ⟨by rw [← r1.length]; exact lim_le hl, fun p hp => ?_⟩⟩
      have hP : P1 p = none := none_of w1.ph hp
      have hU : ∀ a, 0 < U a → a ≠ p := fun a z e => by
        subst e
        exact RepL.there ds vs U r1 _ z hp
      have g2 : Gr P1 H1 P1 (upd H1 p (.lst vs)) := ⟨.refl _, ex_new hp, w1.ph.trans (ex_new hp), fun _ z => .inl z⟩
      have w2 := w1.aside g2 (U := one p) one_le (fun a z => by rw [one_pos z]; exact ⟨hp, hP⟩) (fun a z => by rw [one_pos z, upd_same]; simp)
      rw [fa_assoc, fa_comm U] at w2
      refine q (.ref p) _ P1 S1 (fa (one p) U) w2 x1 ⟨p, vs, U, rfl, upd_same, RepL.mono (.refl _) ds vs U (fun a o z h => by rw [upd_ne (hU a z)]; exact h) r1, rfl⟩ fun a o z1 z2 => ?_
      have h3 := k1 a o z1 z2
      exact ex_new hp _ _ h3
    · cases hm
end
end LI

namespace LI
open PySem L2

section
variable {X : Cx} {cl : Nat → Addr} {E : En} {e a b o i : Expr} {es : List Expr} {pos p apos : Pos} {m ma mb : RM} {ms : AM} {L : Lens}
theorem FQ.key {c : LC} {P H : Hp} {Q : VK} {ks : List Key} (h : FQ c P H (.key ks) Q) (e : Ex P H) : ∀ p, H p = none → Q (.ref p) (upd H p (.tup (ks.map kV))) := fun p hp => by
  have hP := none_of e hp
  refine h _ _ (upd P p (.tup (ks.map kV))) fz ⟨ex_new hP, ex_new hp, fun a o z => ?_, fun a z => ?_⟩ ⟨p, rfl, upd_same, rfl⟩ (fun _ => Nat.zero_le _) (fun a z => by simp [fz] at z)
  · by_cases q : a = p
    · subst q; rw [upd_same] at z ⊢; exact z
    · rw [upd_ne q] at z ⊢; exact e a o z
  · by_cases q : a = p
    · subst q; exact .inr hp
    · rw [upd_ne q] at z; exact .inl z
end
def putL {κ β : Type} [DecidableEq κ] (ks : List κ) (xs : List β) (k : κ) (y : β) : List κ × List β :=
  if (ks.any fun j => decide (j = k)) = true then (ks, (ks.zip xs).map fun p => if p.1 = k then y else p.2) else (ks ++ [k], xs ++ [y])
theorem putL_len {κ β : Type} [DecidableEq κ] {k : κ} {y : β} {ks : List κ} {xs : List β} (h : ks.length = xs.length) : (putL ks xs k y).1.length = (putL ks xs k y).2.length := by
  unfold putL
  split
  · show ks.length = (List.map _ (ks.zip xs)).length
    rw [List.length_map, List.length_zip, ← h, Nat.min_self]
  · show (ks ++ [k]).length = (xs ++ [y]).length
    rw [List.length_append, List.length_append, h]; rfl
theorem repl_rep {κ : Type} [DecidableEq κ] {c : LC} {P H : Hp} {k : κ} {d : D} {y : V} (r : Rep c P H d y fz) : ∀ {ks : List κ} {ds : List D} {xs : List V}, ks.length = xs.length → RepL c P H ds xs fz → RepL c P H ((ks.zip ds).map fun p => if p.1 = k then d else p.2) ((ks.zip xs).map fun p => if p.1 = k then y else p.2) fz
  | [], ds, xs, _, _ => ⟨by simp, rfl⟩
  | j :: ks, [], xs, h, rl => by rw [rl.1] at h; simp at h
  | j :: ks, d0 :: ds, xs, h, rl => by
    obtain ⟨x, ys, T, U, e, r0, rs, f⟩ := rl
    subst e
    have hT : T = fz := by funext b; have := congrFun f b; simp only [fa, fz] at this ⊢; omega
    have hU : U = fz := by funext b; have := congrFun f b; simp only [fa, fz] at this ⊢; omega
    subst hT hU
    have ih := repl_rep (k := k) r (ks := ks) (by simpa using h) rs
    rw [List.zip_cons_cons, List.zip_cons_cons, List.map_cons, List.map_cons]
    refine ⟨_, _, fz, fz, rfl, ?_, ih, by rw [fa_fz]⟩
    by_cases e : j = k
    · rw [if_pos e, if_pos e]; exact r
    · rw [if_neg e, if_neg e]; exact r0
theorem putL_rep {κ : Type} [DecidableEq κ] {c : LC} {P H : Hp} {k : κ} {d : D} {y : V} {ks : List κ} {ds : List D} {xs : List V} (r : Rep c P H d y fz) (h : ks.length = xs.length) (rl : RepL c P H ds xs fz) : RepL c P H (putL ks ds k d).2 (putL ks xs k y).2 fz := by
  unfold putL
  split
  · exact repl_rep r h rl
  · exact repL_cat rl ⟨y, [], fz, fz, rfl, r, ⟨rfl, rfl⟩, by rw [fa_fz]⟩
theorem putL_keys {κ β γ : Type} [DecidableEq κ] {k : κ} {y : β} {z : γ} {ks : List κ} {xs : List β} {zs : List γ} : (putL ks xs k y).1 = (putL ks zs k z).1 := by
  unfold putL; split <;> rfl
end LI

namespace LI
open PySem L2

abbrev Ts := List Char
def eU : Unit → D := fun _ => .non
def eI : Int → D := .int
def eB : Bool → D := .bl
def eS (s : Ts) : D := .str (s.map Char.toNat)
def eC : List Int → D := .scr
def eO {α : Type} (e : α → D) : Option α → D
  | none => .non
  | some x => e x
def eL {α : Type} (o : Bool) (e : α → D) (xs : List α) : D := .lst o (xs.map e)
def e1 {α : Type} (a : α → D) (t : α) : D := .tup [a t]
def e2 {α β : Type} (a : α → D) (b : β → D) (t : α × β) : D := .tup [a t.1, b t.2]
def e3 {α β γ : Type} (a : α → D) (b : β → D) (c : γ → D) (t : α × β × γ) : D := .tup [a t.1, b t.2.1, c t.2.2]
def e4 {α β γ δ : Type} (a : α → D) (b : β → D) (c : γ → D) (d : δ → D) (t : α × β × γ × δ) : D := .tup [a t.1, b t.2.1, c t.2.2.1, d t.2.2.2]
def e5 {α β γ δ ε : Type} (a : α → D) (b : β → D) (c : γ → D) (d : δ → D) (e : ε → D) (t : α × β × γ × δ × ε) : D := .tup [a t.1, b t.2.1, c t.2.2.1, d t.2.2.2.1, e t.2.2.2.2]
def e6 {α β γ δ ε ζ : Type} (a : α → D) (b : β → D) (c : γ → D) (d : δ → D) (e : ε → D) (f : ζ → D) (t : α × β × γ × δ × ε × ζ) : D := .tup [a t.1, b t.2.1, c t.2.2.1, d t.2.2.2.1, e t.2.2.2.2.1, f t.2.2.2.2.2]
structure An where
  d : D
  ng : notGone d = true
  fz : frz d = true
class Ng {α : Type} (e : α → D) : Prop where
  ng : ∀ x, notGone (e x) = true
class Fz {α : Type} (e : α → D) : Prop where
  fz : ∀ x, frz (e x) = true
class Ic {α : Type} (e : α → D) (e' : outParam (α → D)) : Prop where
  ic : ∀ x, ice (e x) = e' x
class Nic {α : Type} (e : α → D) : Prop where
  ni : ∀ x, noIce (e x) = true
theorem nic_map {α : Type} {a : α → D} [Nic a] : ∀ xs : List α, noIceL (xs.map a) = true
  | [] => rfl
  | x :: xs => by rw [List.map_cons, noIceL, Nic.ni x, nic_map xs]; rfl
section
variable {α β γ δ ε ζ : Type} {a : α → D} {b : β → D} {c : γ → D} {d : δ → D} {e : ε → D} {f : ζ → D} {a' : α → D} {b' : β → D} {c' : γ → D} {d' : δ → D} {e' : ε → D} {f' : ζ → D} {o : Bool}
instance : Ng eI := ⟨fun _ => rfl⟩
instance : Ng eB := ⟨fun _ => rfl⟩
instance : Ng eS := ⟨fun _ => rfl⟩
instance : Ng eC := ⟨fun _ => rfl⟩
instance [Ng a] : Ng (eO a) := ⟨fun x => by cases x with | none => rfl | some x => exact Ng.ng x⟩
instance : Ng (eL o a) := ⟨fun _ => rfl⟩
instance : Ng (e2 a b) := ⟨fun _ => rfl⟩
instance : Ng (e3 a b c) := ⟨fun _ => rfl⟩
instance : Ng (e4 a b c d) := ⟨fun _ => rfl⟩
instance : Nic eI := ⟨fun _ => rfl⟩
instance : Nic eB := ⟨fun _ => rfl⟩
instance : Nic eS := ⟨fun _ => rfl⟩
instance [Nic a] : Nic (eO a) := ⟨fun x => by cases x with | none => rfl | some x => exact Nic.ni x⟩
instance [Nic a] : Nic (eL true a) := ⟨fun x => by unfold eL; rw [noIce, nic_map]; rfl⟩
instance [Nic a] [Nic b] : Nic (e2 a b) := ⟨fun x => by simp [e2, noIce, noIceL, Nic.ni]⟩
instance [Nic a] [Nic b] [Nic c] : Nic (e3 a b c) := ⟨fun x => by simp [e3, noIce, noIceL, Nic.ni]⟩
instance : Fz eI := ⟨fun _ => rfl⟩
instance : Fz eS := ⟨fun _ => rfl⟩
instance : Fz eC := ⟨fun _ => rfl⟩
instance [Fz a] : Fz (eO a) := ⟨fun x => by cases x with | none => rfl | some x => exact Fz.fz x⟩
theorem fz_map [Fz a] (xs : List α) : frzL (xs.map a) = true := frzL_map.mpr fun x _ => Fz.fz x
instance [Fz a] : Fz (eL false a) := ⟨fun x => by simp [eL, Fz.fz]⟩
instance [Fz a] [Fz b] : Fz (e2 a b) := ⟨fun x => by simp [e2, Fz.fz]⟩
instance [Fz a] [Fz b] [Fz c] : Fz (e3 a b c) := ⟨fun x => by simp [e3, Fz.fz]⟩
instance [Fz a] [Fz b] [Fz c] [Fz d] : Fz (e4 a b c d) := ⟨fun x => by simp [e4, Fz.fz]⟩
instance : Ic eI eI := ⟨fun _ => rfl⟩
instance : Ic eS eS := ⟨fun _ => rfl⟩
instance : Ic eC eC := ⟨fun _ => rfl⟩
instance [Ic a a'] : Ic (eO a) (eO a') := ⟨fun x => by cases x with | none => rfl | some x => exact Ic.ic x⟩
instance [Ic a a'] : Ic (eL o a) (eL false a') := ⟨fun x => by simp [eL, Ic.ic (e := a)]⟩
instance [Ic a a'] [Ic b b'] : Ic (e2 a b) (e2 a' b') := ⟨fun x => by simp [e2, Ic.ic (e := a), Ic.ic (e := b)]⟩
instance [Ic a a'] [Ic b b'] [Ic c c'] : Ic (e3 a b c) (e3 a' b' c') := ⟨fun x => by simp [e3, Ic.ic (e := a), Ic.ic (e := b), Ic.ic (e := c)]⟩
instance [Ic a a'] [Ic b b'] [Ic c c'] [Ic d d'] : Ic (e4 a b c d) (e4 a' b' c' d') := ⟨fun x => by simp [e4, Ic.ic (e := a), Ic.ic (e := b), Ic.ic (e := c), Ic.ic (e := d)]⟩
end

theorem toNat_lt (c : Char) : c.toNat < 1114112 := by
  rcases c.valid with h | ⟨_, h⟩
  · have : c.toNat < 55296 := h
    omega
  · exact h
theorem toNat_inj {a b : Char} (h : a.toNat = b.toNat) : a = b := Char.toNat_inj.mp h
class Pe {α : Type} (e : α → D) (n : outParam Nat) where
  p : α → PyData
  to : ∀ x, toP (e x) = some (p x)
  lay : ∀ x, (p x).canLay0 = true
  dep : ∀ x, (p x).depth ≤ n
  eq : ∀ x y, (p x).eqv (p y) = true ↔ x = y
instance : Pe eI 0 := ⟨.int, fun _ => rfl, fun _ => by simp [PyData.canLay0], fun _ => by simp [PyData.depth], fun _ _ => by simp [PyData.eqv]⟩
theorem ts_map_inj {x y : Ts} : x.map Char.toNat = y.map Char.toNat ↔ x = y :=
  ⟨fun h => List.map_inj_right (fun _ _ => toNat_inj) |>.mp h, fun h => by rw [h]⟩
instance : Pe eS 0 := ⟨fun s => .str ⟨(s.map Char.toNat).toArray⟩, fun _ => rfl, fun s => by
    simp [PyData.canLay0, PyData.strOk, toNat_lt], fun _ => by simp [PyData.depth], fun x y => by
    have : ((⟨(x.map Char.toNat).toArray⟩ : Str) == ⟨(y.map Char.toNat).toArray⟩) = (x.map Char.toNat == y.map Char.toNat) := str_beq _ _
    simp only [PyData.eqv, this, beq_iff_eq, ts_map_inj]⟩
theorem pe_toL {α : Type} {e : α → D} {n : Nat} [Pe e n] : ∀ xs : List α, toPL (xs.map e) = some (xs.map (Pe.p e))
  | [] => rfl
  | x :: xs => by simp [toPL, Pe.to (e := e) x, pe_toL xs]
theorem pe_lays {α : Type} {e : α → D} {n : Nat} [Pe e n] : ∀ xs : List α, PyData.canLayAll0 (xs.map (Pe.p e)) = true
  | [] => rfl
  | x :: xs => by simp [PyData.canLayAll0, Pe.lay (e := e) x, pe_lays xs]
theorem pe_deps {α : Type} {e : α → D} {n : Nat} [Pe e n] : ∀ xs : List α, PyData.depthAll (xs.map (Pe.p e)) ≤ n
  | [] => Nat.zero_le _
  | x :: xs => by have := Pe.dep (e := e) x; have := pe_deps (e := e) xs; simp [PyData.depthAll]; omega
theorem pe_eqs {α : Type} {e : α → D} {n : Nat} [Pe e n] : ∀ xs ys : List α, PyData.eqvAll (xs.map (Pe.p e)) (ys.map (Pe.p e)) = true ↔ xs = ys
  | [], [] => by simp [PyData.eqvAll]
  | [], y :: ys => by simp [PyData.eqvAll]
  | x :: xs, [] => by simp [PyData.eqvAll]
  | x :: xs, y :: ys => by simp [PyData.eqvAll, Pe.eq (e := e), pe_eqs xs ys]
instance {α : Type} {e : α → D} {n : Nat} {o : Bool} [Pe e n] : Pe (eL o e) (n + 1) := ⟨fun xs => .list (xs.map (Pe.p e)), fun xs => by simp [eL, toP, pe_toL], fun xs => by simp [PyData.canLay0, pe_lays], fun xs => by
  have := pe_deps (e := e) xs; simp [PyData.depth]; omega, fun x y => by simp [PyData.eqv, pe_eqs]⟩
section
variable {α β γ δ ε ζ : Type} {a : α → D} {b : β → D} {c : γ → D} {d : δ → D} {e : ε → D} {f : ζ → D} {na nb nc nd ne nf : Nat}
class Nn {α : Type} (e : α → D) : Prop where
  nn : ∀ x, ∀ p, toP (e x) = some p → p.eqv .none = false ∧ PyData.eqv .none p = false
instance : Nn eI := ⟨fun x p h => by cases h; simp [PyData.eqv]⟩
instance [Nn a] [Pe a na] : Pe (eO a) na := ⟨fun x => match x with | none => .none | some x => Pe.p a x, fun x => by cases x with | none => rfl | some x => exact Pe.to (e := a) x,
  fun x => by cases x with | none => simp [PyData.canLay0] | some x => exact Pe.lay (e := a) x, fun x => by cases x with | none => simp [PyData.depth] | some x => exact Pe.dep (e := a) x, fun x y => by
    cases x with
    | none => cases y with
      | none => simp [PyData.eqv]
      | some y => have := (Nn.nn (e := a) y _ (Pe.to (e := a) y)).2; simp [this]
    | some x => cases y with
      | none => have := (Nn.nn (e := a) x _ (Pe.to (e := a) x)).1; simp [this]
      | some y => simp [Pe.eq (e := a)]⟩
instance [Pe a na] [Pe b nb] : Pe (e2 a b) (max na nb + 1) := ⟨fun t => .tuple [Pe.p a t.1, Pe.p b t.2], fun t => by simp [e2, toP, toPL, Pe.to (e := a), Pe.to (e := b)], fun t => by simp [PyData.canLay0, PyData.canLayAll0, Pe.lay (e := a), Pe.lay (e := b)], fun t => by
  have h1 := Pe.dep (e := a) t.1; have h2 := Pe.dep (e := b) t.2; simp [PyData.depth, PyData.depthAll]; omega, fun x y => by simp [PyData.eqv, PyData.eqvAll, Pe.eq (e := a), Pe.eq (e := b), Prod.ext_iff]⟩
instance [Pe a na] [Pe b nb] [Pe c nc] : Pe (e3 a b c) (max na (max nb nc) + 1) := ⟨fun t => .tuple [Pe.p a t.1, Pe.p b t.2.1, Pe.p c t.2.2], fun t => by simp [e3, toP, toPL, Pe.to (e := a), Pe.to (e := b), Pe.to (e := c)], fun t => by simp [PyData.canLay0, PyData.canLayAll0, Pe.lay (e := a), Pe.lay (e := b), Pe.lay (e := c)], fun t => by
  have h1 := Pe.dep (e := a) t.1; have h2 := Pe.dep (e := b) t.2.1; have h3 := Pe.dep (e := c) t.2.2; simp [PyData.depth, PyData.depthAll]; omega, fun x y => by simp [PyData.eqv, PyData.eqvAll, Pe.eq (e := a), Pe.eq (e := b), Pe.eq (e := c), Prod.ext_iff]⟩
instance [Pe a na] [Pe b nb] [Pe c nc] [Pe d nd] : Pe (e4 a b c d) (max na (max nb (max nc nd)) + 1) := ⟨fun t => .tuple [Pe.p a t.1, Pe.p b t.2.1, Pe.p c t.2.2.1, Pe.p d t.2.2.2], fun t => by simp [e4, toP, toPL, Pe.to (e := a), Pe.to (e := b), Pe.to (e := c), Pe.to (e := d)], fun t => by simp [PyData.canLay0, PyData.canLayAll0, Pe.lay (e := a), Pe.lay (e := b), Pe.lay (e := c), Pe.lay (e := d)], fun t => by
  have h1 := Pe.dep (e := a) t.1; have h2 := Pe.dep (e := b) t.2.1; have h3 := Pe.dep (e := c) t.2.2.1; have h4 := Pe.dep (e := d) t.2.2.2; simp [PyData.depth, PyData.depthAll]; omega, fun x y => by simp [PyData.eqv, PyData.eqvAll, Pe.eq (e := a), Pe.eq (e := b), Pe.eq (e := c), Pe.eq (e := d), Prod.ext_iff]⟩
end
theorem eqB_ice (x y : D) : eqB x y = eqB (ice x) (ice y) := by unfold eqB; rw [toP_ice, toP_ice]
theorem eqB_pe {α : Type} [DecidableEq α] {e1 e2 e' : α → D} {n : Nat} [Ic e1 e'] [Ic e2 e'] [Pe e' n] (hn : n ≤ 64) (x y : α) : eqB (e1 x) (e2 y) = some (decide (x = y)) := by
  rw [eqB_ice, Ic.ic (e := e1), Ic.ic (e := e2)]
  unfold eqB
  have s : ∀ z, SeqAt.shaped (Pe.p e' z) = true := fun z => by
    have := Pe.dep (e := e') z
    simp [SeqAt.shaped, Pe.lay (e := e') z]; omega
  have q : (Pe.p e' x).eqv (Pe.p e' y) = decide (x = y) := by
    rw [Bool.eq_iff_iff, Pe.eq, decide_eq_true_iff]
  simp only [Pe.to (e := e'), Option.bind_some, s, and_self, if_true, q]
end LI

namespace LI
open PySem L2

def Ev {α : Type} (e : α → D) (m : RM) (ρ : List D) (o : Option α) : Prop := ∀ x, o = some x → m ρ = some (e x)
def Et (m : BM) (ρ : List D) (o : Option Bool) : Prop := ∀ x, o = some x → m ρ = some x
def Eg {α : Type} (e : α → D) (env : α → List D) (g : GM) (ρ : List D) (o : Option α) : Prop := ∀ x, o = some x → g ρ = some (e x, env x)
structure Ea {τ : Type} (e e' : τ → List D) (z : Bool) (ms : AM) (ρ : List D) (o : Option τ) : Prop where
  run : ∀ x, o = some x → ms ρ = some (e x)
  ic : ∀ x, iceL (e x) = e' x
  fz : z = true → ∀ x, frzL (e x) = true
def Ei {α : Type} (e : α → D) (ms : AM) (ρ : List D) (o : Option (List α)) : Prop := ∀ xs, o = some xs → ms ρ = some (xs.map e)
def Eo (m : OM) (ρ : List D) (o : Option (Option Int)) : Prop := ∀ x, o = some x → m ρ = some x

theorem ob_some {α β : Type} {o : Option α} {k : α → Option β} {z : β} (h : o.bind k = some z) : ∃ x, o = some x ∧ k x = some z := by
  cases o with
  | none => cases h
  | some x => exact ⟨x, rfl, h⟩

section
variable {α β γ δ : Type} {a : α → D} {b : β → D} {c : γ → D} {e : α → D} {e' : α → D} {m ma mb mc : RM} {ρ : List D} {o oa : Option α} {ob : Option β} {oc : Option γ}
theorem x_v {i : Nat} (e : α → D) (x : α) [Ng e] (h : ρ[i]? = some (e x)) : Ev e (vM i) ρ (some x) := fun y hy => by
  cases hy; rw [LI.ev_v, h]; simp [Ng.ng]
theorem x_k {d : D} (e : α → D) (x : α) (h : d = e x) : Ev e (kM d) ρ (some x) := fun y hy => by cases hy; rw [LI.ev_k, h]
theorem x_map {e : α → D} {f : β → D} (k : α → β) (hk : ∀ x, f (k x) = e x) (h : Ev e m ρ o) : Ev f m ρ (o.bind fun x => some (k x)) := fun y hy => by
  obtain ⟨x, h1, h2⟩ := ob_some hy; cases h2; rw [h x h1, hk]
theorem x_un {o : Option (Option α)} (h : Ev (eO e) m ρ o) : Ev e m ρ (o.bind fun x => x) := fun y hy => by
  obtain ⟨x, h1, h2⟩ := ob_some hy; rw [h x h1, h2]; rfl
theorem x_fr [Fz e] (h : Ev e m ρ o) : Ev e (frM m) ρ o := fun y hy => by rw [LI.ev_fr, h y hy]; simp [Fz.fz]
theorem x_cold [Ic e e'] (h : Ev e m ρ o) : Ev e' (coldM m) ρ o := fun y hy => by rw [LI.ev_cold, h y hy, Option.map_some, Ic.ic]

def O2 (f : D → D → Option D) (a : α → D) (b : β → D) (c : γ → D) (g : α → β → Option γ) : Prop := ∀ x y z, g x y = some z → f (a x) (b y) = some (c z)
def O1 (f : D → Option D) (a : α → D) (c : γ → D) (g : α → Option γ) : Prop := ∀ x z, g x = some z → f (a x) = some (c z)
theorem x_m2 {f : D → D → Option D} {g : α → β → Option γ} (hf : O2 f a b c g) (ha : Ev a ma ρ oa) (hb : Ev b mb ρ ob) : Ev c (m2 f ma mb) ρ (oa.bind fun x => ob.bind fun y => g x y) := fun z hz => by
  obtain ⟨x, h1, h2⟩ := ob_some hz
  obtain ⟨y, h3, h4⟩ := ob_some h2
  rw [LI.ev_m2, ha x h1, Option.bind_some, hb y h3, Option.bind_some, hf x y z h4]
theorem x_m1 {f : D → Option D} {g : α → Option γ} (hf : O1 f a c g) (ha : Ev a ma ρ oa) : Ev c (m1 f ma) ρ (oa.bind g) := fun z hz => by
  obtain ⟨x, h1, h2⟩ := ob_some hz
  rw [LI.ev_m1, ha x h1, Option.bind_some, hf x z h2]
theorem x_a1 {f : List D → Option D} {g : α → Option γ} (hf : O1 (fun d => f [d]) a c g) (ha : Ev a ma ρ oa) : Ev c (mA f (consM ma nilM)) ρ (oa.bind g) := fun z hz => by
  obtain ⟨x, h1, h2⟩ := ob_some hz
  have := hf x z h2
  simp only [ev_mA, LI.ev_cons, ha x h1, Option.bind_some, LI.ev_nil, Option.map_some]
  exact this
theorem o2_tot {f : D → D → Option D} {g : α → β → γ} (h : ∀ x y, f (a x) (b y) = some (c (g x y))) : O2 f a b c (fun x y => some (g x y)) := fun x y z hz => by cases hz; exact h x y
theorem o1_tot {f : D → Option D} {g : α → γ} (h : ∀ x, f (a x) = some (c (g x))) : O1 f a c (fun x => some (g x)) := fun x z hz => by cases hz; exact h x
end

def catL {α : Type} (x y : List α) : Option (List α) := if x.length + y.length ≤ LIM then some (x ++ y) else none
def repS (x : Ts) (k : Int) : Option Ts := if k ≤ 1000000 ∧ -1000000 ≤ k ∧ x.length * k.toNat ≤ LIM then some (List.replicate k.toNat x).flatten else none
def mulT (x y : Int) : Option Int := if (-(2 ^ 64) < x ∧ x < 2 ^ 64) ∨ (-(2 ^ 64) < y ∧ y < 2 ^ 64) then some (x * y) else none
def modT (x y : Int) : Option Int := if 0 < y then some (x % y) else none
theorem o2_addI : O2 addD eI eI eI (fun x y => some (x + y)) := o2_tot fun _ _ => rfl
theorem o2_subI : O2 subD eI eI eI (fun x y => some (x - y)) := o2_tot fun _ _ => rfl
theorem o2_mul : O2 mulD eI eI eI mulT := fun x y z h => by
  unfold mulT at h; split at h
  · cases h; rename_i q; exact if_pos q
  · cases h
theorem o2_repS : O2 mulD eS eI eS repS := fun x y z h => by
  unfold repS at h; split at h
  · cases h; rename_i q; simp [eS, eI, mulD, q]
  · cases h
theorem o2_mod : O2 modD eI eI eI modT := fun x y z h => by
  unfold modT at h; split at h
  · cases h; rename_i q; exact if_pos q
  · cases h
theorem o1_neg : O1 negD eI eI (fun x => some (-x)) := o1_tot fun _ => rfl
section
variable {α β : Type} {e : α → D} {m ma mb : RM} {ρ : List D} {oa ob : Option Int}
def b64 (k : Int) : Bool := decide (-18446744073709551616 < k) && decide (k < 18446744073709551616)
theorem b64_in {k : Int} (h : b64 k = true) : -(2 ^ 64) < k ∧ k < 2 ^ 64 := by
  unfold b64 at h; simp at h; exact ⟨by omega, by omega⟩
theorem x_mulR (k : Int) (hk : b64 k = true) (ha : Ev eI ma ρ oa) : Ev eI (m2 mulD ma (kM (.int k))) ρ (oa.bind fun x => some (x * k)) := fun z hz => by
  obtain ⟨x, h1, h2⟩ := ob_some hz; cases h2
  rw [LI.ev_m2, ha x h1]; exact if_pos (.inr (b64_in hk))
theorem log_lt {k : Int} (h : b64 k = true) : k.natAbs.log2 < 9000 := by
  have := b64_in h
  by_cases z : k.natAbs = 0
  · rw [z]; decide
  · have h1 : k.natAbs < 2 ^ 9000 := Nat.lt_of_lt_of_le (show k.natAbs < 2 ^ 65 by omega) (Nat.pow_le_pow_right (by decide) (by decide))
    exact (Nat.log2_lt z).mpr h1
theorem x_modP (k : Int) {mk : RM} (hk : decide (0 < k) = true) (ha : Ev eI ma ρ oa) (hm : Ev eI mk ρ (some k)) : Ev eI (m2 modD ma mk) ρ (oa.bind fun x => some (x % k)) := fun z hz => by
  obtain ⟨x, h1, h2⟩ := ob_some hz; cases h2
  rw [LI.ev_m2, ha x h1, hm k rfl]; exact if_pos (of_decide_eq_true hk)
theorem x_fdivP (k : Int) {mk : RM} (hk : (decide (0 < k) && b64 k) = true) (ha : Ev eI ma ρ oa) (hm : Ev eI mk ρ (some k)) : Ev eI (m2 fdivD ma mk) ρ (oa.bind fun x => some (x / k)) := fun z hz => by
  obtain ⟨x, h1, h2⟩ := ob_some hz; cases h2
  simp only [Bool.and_eq_true] at hk
  rw [LI.ev_m2, ha x h1, hm k rfl]; exact if_pos ⟨of_decide_eq_true hk.1, log_lt hk.2⟩
theorem x_pow (x y c : Int) (h : (decide (0 ≤ y) && decide (y ≤ 1000000) && b64 x && (x ^ y.toNat == c)) = true) : Ev eI (m2 powD (kM (.int x)) (kM (.int y))) ρ (some c) := fun z hz => by
  cases hz
  simp only [Bool.and_eq_true, beq_iff_eq] at h
  obtain ⟨⟨⟨h1, h2⟩, h3⟩, h4⟩ := h
  have := b64_in h3
  rw [LI.ev_m2, LI.ev_k, LI.ev_k, Option.bind_some, Option.bind_some, pow_int, if_pos ⟨of_decide_eq_true h1, of_decide_eq_true h2, by omega⟩, h4]; rfl
end

theorem o2_ltI : O2 ltD eI eI eB (fun x y => some (decide (x < y))) := o2_tot fun _ _ => rfl
theorem o2_gtI : O2 gtD eI eI eB (fun x y => some (decide (y < x))) := o2_tot fun _ _ => rfl
theorem o2_geI : O2 geD eI eI eB (fun x y => some (decide (y ≤ x))) := o2_tot fun _ _ => rfl
theorem o2_eq {α : Type} [DecidableEq α] {a b e' : α → D} {n : Nat} [Ic a e'] [Ic b e'] [Pe e' n] (hn : n ≤ 64) : O2 eqD a b eB (fun x y => some (decide (x = y))) := o2_tot fun x y => by
  unfold eqD; rw [eqB_pe (e' := e') hn]; rfl
theorem o2_ne {α : Type} [DecidableEq α] {a b e' : α → D} {n : Nat} [Ic a e'] [Ic b e'] [Pe e' n] (hn : n ≤ 64) : O2 neD a b eB (fun x y => some (!decide (x = y))) := o2_tot fun x y => by
  unfold neD; rw [eqB_pe (e' := e') hn]; rfl
class No {α : Type} (e : α → D) : Prop where
  no : ∀ x, isNo (e x) = some false
instance : No eI := ⟨fun _ => rfl⟩
section
variable {α β γ δ ε ζ : Type} {a : α → D} {b : β → D} {c : γ → D} {d : δ → D} {e : ε → D} {f : ζ → D} {o : Bool}
instance : No (e2 a b) := ⟨fun _ => rfl⟩
theorem o2_isN [No a] : O2 isD (eO a) eU eB (fun x _ => some x.isNone) := o2_tot fun x y => by
  cases x with
  | none => rfl
  | some x => simp [eO, eU, isD, No.no]; rfl
theorem o2_nisN [No a] : O2 nisD (eO a) eU eB (fun x _ => some x.isSome) := o2_tot fun x y => by
  cases x with
  | none => rfl
  | some x => simp [eO, eU, nisD, No.no]; rfl
theorem o2_nisB : O2 nisD eB eB eB (fun x y => some (!decide (x = y))) := o2_tot fun x y => by cases x <;> cases y <;> rfl
end

section
variable {α : Type} {e : α → D} {m ma mb mc : RM} {ρ : List D} {o : Option α} {x y : Bool} {ta tb : BM} {oa ob : Option Bool}
theorem et_b {o : Option Bool} (h : Ev eB m ρ o) : Et (bM m) ρ o := fun z hz => by rw [ev_bM, h z hz]; rfl
theorem et_not (h : Et ta ρ oa) : Et (notB ta) ρ (oa.bind fun b => some (!b)) := fun z hz => by
  obtain ⟨x, h1, h2⟩ := ob_some hz; cases h2; rw [ev_notB, h x h1]; rfl
theorem et_and (h : Et ta ρ oa) (k : Et tb ρ ob) : Et (andB ta tb) ρ (oa.bind fun b => if b = true then ob else some false) := fun z hz => by
  obtain ⟨x, h1, h2⟩ := ob_some hz
  rw [ev_andB, h x h1, Option.bind_some]
  cases x with
  | true => rw [if_pos rfl] at h2 ⊢; exact k z h2
  | false => simpa using h2
theorem et_or (h : Et ta ρ oa) (k : Et tb ρ ob) : Et (orB ta tb) ρ (oa.bind fun b => if b = true then some true else ob) := fun z hz => by
  obtain ⟨x, h1, h2⟩ := ob_some hz
  rw [ev_orB, h x h1, Option.bind_some]
  cases x with
  | true => simpa using h2
  | false => simp at h2 ⊢; exact k z h2
theorem et_andT (h : Et ta ρ (some x)) (k : Et tb ρ (some y)) : Et (andB ta tb) ρ (some (x && y)) := fun z hz => by
  cases hz; rw [ev_andB, h x rfl, Option.bind_some]; cases x <;> simp [k y rfl]
theorem et_orT (h : Et ta ρ (some x)) (k : Et tb ρ (some y)) : Et (orB ta tb) ρ (some (x || y)) := fun z hz => by
  cases hz; rw [ev_orB, h x rfl, Option.bind_some]; cases x <;> simp [k y rfl]
theorem x_andT (h : Ev eB ma ρ (some x)) (k : Ev eB mb ρ (some y)) : Ev eB (andM ma mb) ρ (some (x && y)) := fun z hz => by
  cases hz; rw [ev_andM, et_b h x rfl, Option.bind_some]; cases x <;> simp [k y rfl] <;> rfl
class Tr {α : Type} (e : α → D) (t : outParam (α → Option Bool)) : Prop where
  tr : ∀ x z, t x = some z → truD (e x) = some z
instance : Tr eB (fun x => some x) := ⟨fun x z h => by cases h; rfl⟩
theorem et_tru {t : α → Option Bool} [Tr e t] (h : Ev e m ρ o) : Et (truM m) ρ (o.bind t) := fun z hz => by
  obtain ⟨x, h1, h2⟩ := ob_some hz; rw [ev_tru, h x h1]; exact Tr.tr x z h2
theorem x_not {t : α → Option Bool} [Tr e t] (h : Ev e m ρ o) : Ev eB (notD m) ρ ((o.bind t).bind fun b => some (!b)) := fun z hz => by
  obtain ⟨y, h1, h2⟩ := ob_some hz; cases h2
  have := et_tru (t := t) h y h1
  rw [ev_tru] at this
  rw [ev_notD, this]; rfl
end
section
variable {α β γ : Type} {a : α → D} {b : β → D} {c : γ → D} {f g : D → D → Option D} {ma mb mc : RM} {ρ : List D} {oa : Option α} {ob : Option β} {oc : Option γ}
end

def ixS (s : Ts) (i : Int) : Option Ts := if s.length ≤ LIM then (atI s i).map fun c => [c] else none
theorem o2_ixL {α : Type} {a : α → D} {o : Bool} : O2 ixD (eL o a) eI a (fun xs i => atI xs i) := fun x y z h => by
  show atI (x.map a) y = _
  rw [atI_map]; simp [h]
theorem o2_ixC : O2 ixD eC eI eI (fun xs i => atI xs i) := fun x y z h => by show (atI x y).map D.int = _; simp [h]; rfl
theorem o2_ixS : O2 ixD eS eI eS ixS := fun x y z h => by
  unfold ixS at h; split at h
  · rename_i q
    cases w : atI x y with
    | none => rw [w] at h; cases h
    | some c =>
      rw [w] at h; cases h
      show (if (x.map Char.toNat).length ≤ LIM then (atI (x.map Char.toNat) y).map fun k => D.str [k] else none) = _
      rw [if_pos (by simpa using q), atI_map, w]; rfl
  · cases h
theorem x_pr {α β : Type} {e : α → D} {f : β → D} {m : RM} {ρ : List D} {o : Option α} (k : Int) (p : α → β) (hp : ∀ x, ixD (e x) (.int k) = some (f (p x))) (h : Ev e m ρ o) : Ev f (m2 ixD m (kM (.int k))) ρ (o.bind fun x => some (p x)) := fun z hz => by
  obtain ⟨x, h1, h2⟩ := ob_some hz; cases h2
  rw [LI.ev_m2, h x h1, Option.bind_some, LI.ev_k, Option.bind_some, hp]
theorem eo_so {m : RM} {ρ : List D} {o : Option Int} (h : Ev eI m ρ o) : Eo (soM m) ρ (o.bind fun x => some (some x)) := fun z hz => by
  obtain ⟨x, h1, h2⟩ := ob_some hz; cases h2
  rw [ev_soM, h x h1]; rfl
class Sl {α : Type} {β : outParam Type} (e : α → D) (f : outParam (β → D)) (g : outParam (Option Int → Option Int → α → Option β)) : Prop where
  sl : ∀ lo hi x z, g lo hi x = some z → slD lo hi (e x) = some (f z)
instance : Sl eC (eL true eI) (fun lo hi xs => some (cutL xs lo hi)) := ⟨fun lo hi x z h => by cases h; rfl⟩
theorem x_sl {α β : Type} {e : α → D} {f : β → D} {g : Option Int → Option Int → α → Option β} [Sl e f g] {m : RM} {lo hi : OM} {ρ : List D} {o : Option α} {ol oh : Option (Option Int)} (h : Ev e m ρ o) (hl : Eo lo ρ ol) (hh : Eo hi ρ oh) :
    Ev f (slM m lo hi) ρ (o.bind fun x => ol.bind fun l => oh.bind fun h => g l h x) := fun z hz => by
  obtain ⟨x, h1, h2⟩ := ob_some hz
  obtain ⟨y, h3, h4⟩ := ob_some h2
  obtain ⟨u, h5, h6⟩ := ob_some h4
  rw [ev_slM, h x h1, Option.bind_some, hl y h3, Option.bind_some, hh u h5, Option.bind_some, Sl.sl y u x z h6]
def inS (x z : Ts) : Option Bool := match x with | [c] => some (decide (c ∈ z)) | _ => none
def memT {α : Type} [DecidableEq α] (x : α) (xs : List α) : Bool := decide (x ∈ xs)
class In {α β : Type} (a : α → D) (b : β → D) (g : outParam (α → β → Option Bool)) : Prop where
  is : ∀ x y k, g x y = some k → inB (a x) (b y) = some k
theorem o1_lenL {α : Type} {a : α → D} {o : Bool} : O1 (fun d => lenD [d]) (eL o a) eI (fun xs => some (xs.length : Int)) := o1_tot fun x => by simp [eL, lenD]; rfl
theorem o1_lenC : O1 (fun d => lenD [d]) eC eI (fun xs => some (xs.length : Int)) := o1_tot fun x => rfl
theorem o1_lenK {α : Type} {a : α → D} {n : Int} (h : ∀ x, lenD [a x] = some (.int n)) : O1 (fun d => lenD [d]) a eI (fun _ => some n) := o1_tot fun x => h x
theorem o1_listL {α : Type} {a : α → D} [Fz a] {o : Bool} : O1 (fun d => listD [d]) (eL o a) (eL true a) (fun x => some x) := o1_tot fun x => by simp [eL, listD, Fz.fz]
theorem x_isi {α : Type} {e : α → D} {ty : String} {m : RM} {ρ : List D} {o : Option α} (k : α → Bool) (hk : ∀ x, ((tyD (e x)).bind fun t => kitB t ty) = some (k x)) (h : Ev e m ρ o) : Ev eB (isiM ty m) ρ (o.bind fun x => some (k x)) := fun z hz => by
  obtain ⟨x, h1, h2⟩ := ob_some hz; cases h2
  have := hk x
  rw [LI.ev_isi, h x h1, Option.bind_some]
  cases w : tyD (e x) with
  | none => rw [w] at this; cases this
  | some t => rw [w, Option.bind_some] at this; rw [Option.bind_some, this]; rfl
section
variable {α τ β : Type} {e e' : α → D} {et et' : τ → List D} {z : Bool} {m : RM} {ms : AM} {ρ : List D} {o : Option α} {os : Option τ}
theorem ea_nil : Ea (τ := Unit) (fun _ => []) (fun _ => []) true nilM ρ (some ()) := ⟨fun x h => by cases h; rfl, fun _ => rfl, fun _ _ => rfl⟩
theorem ea_cons [Ic e e'] [Fz e] (h : Ev e m ρ o) (hs : Ea et et' z ms ρ os) : Ea (fun t : α × τ => e t.1 :: et t.2) (fun t => e' t.1 :: et' t.2) z (consM m ms) ρ (o.bind fun x => os.bind fun xs => some (x, xs)) :=
  ⟨fun x hx => by
    obtain ⟨y, h1, h2⟩ := ob_some hx
    obtain ⟨ys, h3, h4⟩ := ob_some h2
    cases h4
    rw [LI.ev_cons, h y h1, Option.bind_some, hs.run ys h3]; rfl, fun x => by rw [iceL_cons, Ic.ic (e := e), hs.ic], fun hz x => by rw [fzL_cons, Fz.fz, hs.fz hz]; rfl⟩
theorem ea_consW [Ic e e'] (h : Ev e m ρ o) (hs : Ea et et' z ms ρ os) : Ea (fun t : α × τ => e t.1 :: et t.2) (fun t => e' t.1 :: et' t.2) false (consM m ms) ρ (o.bind fun x => os.bind fun xs => some (x, xs)) :=
  ⟨fun x hx => by
    obtain ⟨y, h1, h2⟩ := ob_some hx
    obtain ⟨ys, h3, h4⟩ := ob_some h2
    cases h4
    rw [LI.ev_cons, h y h1, Option.bind_some, hs.run ys h3]; rfl, fun x => by rw [iceL_cons, Ic.ic (e := e), hs.ic], fun hz => by cases hz⟩
theorem x_tup {f : β → D} (k : τ → β) (hs : Ea et et' true ms ρ os) (hk : ∀ t, f (k t) = .tup (et t)) (hl : ∀ t, (et t).length ≤ LIM) : Ev f (tupM ms) ρ (os.bind fun t => some (k t)) := fun x hx => by
  obtain ⟨t, h1, h2⟩ := ob_some hx; cases h2
  rw [LI.ev_tup, hs.run t h1, Option.bind_some, if_pos ⟨hs.fz rfl t, hl t⟩, hk]
theorem x_lst {f : β → D} (k : τ → β) (hs : Ea et et' true ms ρ os) (hk : ∀ t, f (k t) = .lst true (et t)) (hl : ∀ t, (et t).length ≤ LIM) : Ev f (lstM ms) ρ (os.bind fun t => some (k t)) := fun x hx => by
  obtain ⟨t, h1, h2⟩ := ob_some hx; cases h2
  rw [LI.ev_lst, hs.run t h1, Option.bind_some, if_pos ⟨hs.fz rfl t, hl t⟩, hk]
def Tf {σ : Type} (et' : τ → List D) (er : σ → D) (F : FM) (t : τ → Option σ) : Prop := ∀ x r, t x = some r → ∃ ds', F (et' x) = some (er r, ds')
theorem x_call {σ : Type} {er : σ → D} {F : FM} {t : τ → Option σ} (hT : Tf et' er F t) (hs : Ea et et' true ms ρ os) : Ev er (callM F ms) ρ (os.bind t) := fun r hr => by
  obtain ⟨x, h1, h2⟩ := ob_some hr
  obtain ⟨ds', h3⟩ := hT x r h2
  rw [LI.ev_call, hs.run x h1, Option.bind_some, hs.ic, h3, Option.bind_some, if_pos (.inl (hs.fz rfl x))]
theorem x_callF {σ : Type} {er : σ → D} {F : FM} {t : τ → Option σ} [Nic er] (hT : Tf et' er F t) (hs : Ea et et' z ms ρ os) : Ev er (callM F ms) ρ (os.bind t) := fun r hr => by
  obtain ⟨x, h1, h2⟩ := ob_some hr
  obtain ⟨ds', h3⟩ := hT x r h2
  rw [LI.ev_call, hs.run x h1, Option.bind_some, hs.ic, h3, Option.bind_some, if_pos (.inr (Nic.ni r))]
theorem x_callV {σ : Type} {er : σ → D} {F : FM} {t : τ → Option σ} (hT : Tf et' er F t) (hs : Ea et et' z ms ρ os) : Ev er (callVM F ms) ρ (os.bind t) := fun r hr => by
  obtain ⟨x, h1, h2⟩ := ob_some hr
  obtain ⟨ds', h3⟩ := hT x r h2
  rw [LI.ev_callV, hs.run x h1, Option.bind_some, hs.ic, h3]; rfl
end

def rngT (n : Int) : Option (List Int) := if -(2 ^ 62) ≤ n ∧ n < 2 ^ 62 then some ((List.range n.toNat).map fun (k : Nat) => (k : Int)) else none
class It1 {α : Type} {β : outParam Type} (e : α → D) (f : outParam (β → D)) (g : outParam (α → List β)) : Prop where
  it : ∀ x, itemsV (e x) = some ((g x).map f)
  fr : ∀ x, frz (e x) = true → itemsD (e x) = some ((g x).map f)
instance {α : Type} {a : α → D} [Fz a] {o : Bool} : It1 (eL o a) a (fun x => x) := ⟨fun x => by simp [eL, itemsV, Fz.fz], fun x h => by
  cases o with
  | true => simp [eL] at h
  | false => simp [eL, itemsD, Fz.fz]⟩
section
variable {α β γ δ : Type} {e : α → D} {f : β → D} {g : α → List β} {m ma mb : RM} {ρ : List D} {o : Option α}
theorem ei_it [It1 e f g] [Fz e] (h : Ev e m ρ o) : Ei f (itM m) ρ (o.bind fun x => some (g x)) := fun z hz => by
  obtain ⟨x, h1, h2⟩ := ob_some hz; cases h2
  rw [ev_it, h x h1]; exact It1.fr x (Fz.fz x)
theorem ei_itV [It1 e f g] (h : Ev e m ρ o) : Ei f (itV m) ρ (o.bind fun x => some (g x)) := fun z hz => by
  obtain ⟨x, h1, h2⟩ := ob_some hz; cases h2
  rw [ev_itV, h x h1]; exact It1.it x
theorem ei_rng1 {o : Option Int} (h : Ev eI m ρ o) : Ei eI (rng1M m) ρ (o.bind rngT) := fun z hz => by
  obtain ⟨x, h1, h2⟩ := ob_some hz
  unfold rngT at h2; split at h2
  · rename_i q
    cases h2
    rw [ev_rng1, h x h1]
    show rng1D (.int x) = _
    show (if -(2 ^ 62) ≤ x ∧ x < 2 ^ 62 then some (upD 0 x.toNat) else none) = _
    rw [if_pos q, upD0, List.map_map]; rfl
  · cases h2
end
def compG {α β : Type} (p : α → Option Bool) (g : α → Option β) : List α → Option (List β)
  | [] => some []
  | x :: xs => (p x).bind fun k => if k = true then (g x).bind fun y => (compG p g xs).bind fun ys => some (y :: ys) else compG p g xs
def compT {α β : Type} (p : α → Option Bool) (g : α → Option β) (xs : List α) : Option (List β) := if xs.length ≤ LIM then compG p g xs else none
theorem compL_T {α β : Type} {e : α → D} {f : β → D} [Fz f] {t : TgM} {mc : BM} {me : RM} {ρ0 : List D} {env : α → List D} {p : α → Option Bool} {g : α → Option β} (ht : ∀ x, t (e x) ρ0 = some (env x)) (hc : ∀ x, Et mc (env x) (p x)) (he : ∀ x, Ev f me (env x) (g x)) :
    ∀ (xs : List α) (ys : List β), compG p g xs = some ys → compL t mc me ρ0 (xs.map e) = some (ys.map f)
  | [], ys, h => by cases h; rfl
  | x :: xs, ys, h => by
    obtain ⟨k, h1, h2⟩ := ob_some h
    rw [List.map_cons, compL, ht, Option.bind_some, hc x k h1, Option.bind_some]
    cases k with
    | true =>
      rw [if_pos rfl] at h2 ⊢
      obtain ⟨y, h3, h4⟩ := ob_some h2
      obtain ⟨zs, h5, h6⟩ := ob_some h4
      cases h6
      rw [he x y h3, Option.bind_some, if_pos (Fz.fz y), compL_T ht hc he xs zs h5]; rfl
    | false =>
      simp only [if_neg Bool.false_ne_true] at h2 ⊢
      exact compL_T ht hc he xs ys h2
theorem x_comp {α β : Type} {e : α → D} {f : β → D} [Fz f] {vs : List Nat} {t : TgM} {mc : BM} {me : RM} {ms : AM} {ρ : List D} {p : α → Option Bool} {g : α → Option β} {o : Option (List α)} (env : α → List D) (hi : Ei e ms ρ o) (ht : ∀ x, t (e x) (goneAt ρ vs) = some (env x)) (hc : ∀ x, Et mc (env x) (p x)) (he : ∀ x, Ev f me (env x) (g x)) :
    Ev (eL true f) (compM vs t mc me ms) ρ (o.bind fun xs => compT p g xs) := fun ys hy => by
  obtain ⟨xs, h1, h2⟩ := ob_some hy
  unfold compT at h2; split at h2
  · rename_i q
    rw [LI.ev_comp, hi xs h1, Option.bind_some, if_pos (by simpa using q), compL_T ht hc he xs ys h2]; rfl
  · cases h2
theorem et_yes {ρ : List D} : Et yesB ρ (some true) := fun x h => by cases h; rfl
end LI

namespace LI
open PySem L2

def Bk {τ : Type} (Q : Fl → List D → τ → Prop) (m : SM) (ρ : List D) (o : Option τ) : Prop := ∀ t, o = some t → ∃ fl ρ', m ρ = some (fl, ρ') ∧ Q fl ρ' t
def nxB : Fl → Bool
  | .nx => true | _ => false
def goB : Fl → Bool
  | .nx => true | .ct => true | _ => false
def rtB : Fl → Bool
  | .rt _ => true | .ex _ _ _ => true | _ => false
def Qn {τ : Type} (Q : Fl → List D → τ → Prop) : Fl → List D → τ → Prop := fun fl ρ t => nxB fl = false ∧ Q fl ρ t
def Qj {σ : Type} (kl : List Nat) (env : σ → List D) : Fl → List D → σ → Prop := fun fl ρ s => nxB fl = true ∧ goneAt ρ kl = env s
def Ql {σ : Type} (kl : List Nat) (env : σ → List D) : Fl → List D → σ → Prop := fun fl ρ s => goB fl = true ∧ goneAt ρ kl = env s
inductive St (σ τ : Type) where
  | nx (s : σ) | bk (s : σ) | rt (t : τ)
def Qs {σ τ : Type} (kl : List Nat) (env : σ → List D) (Q : Fl → List D → τ → Prop) : Fl → List D → St σ τ → Prop := fun fl ρ t => match t with
  | .nx s => goB fl = true ∧ goneAt ρ kl = env s
  | .bk s => fl = .bk ∧ goneAt ρ kl = env s
  | .rt t => rtB fl = true ∧ Q fl ρ t
def Qf {τ : Type} (e : τ → D) (kp : List Bool) (mk : τ → List D) : Fl → List D → τ → Prop := fun fl ρ r => (fl = .rt (e r) ∨ (fl = .nx ∧ e r = .non)) ∧ maskL kp ρ = mk r

def seqT {σ τ : Type} (u : σ ⊕ τ) (k : σ → Option τ) : Option τ := match u with
  | .inl s => k s
  | .inr t => some t
theorem nxB_nx {fl : Fl} (h : nxB fl = true) : fl = .nx := by cases fl <;> first | rfl | cases h
section
variable {α β σ τ : Type} {Q : Fl → List D → τ → Prop} {e e' : α → D} {env : α → List D} {m r a b : SM} {g : GM} {mm : RM} {ρ : List D} {o : Option α} {oc : Option Bool} {c : BM} {k : α → Option τ}
theorem eg_f (h : Ev e mm ρ o) : Eg e (fun _ => ρ) (upF mm) ρ o := fun x hx => by rw [ev_upF, h x hx]; rfl
theorem eg_r [Fz e] (h : Ev e mm ρ o) : Eg e (fun _ => ρ) (upR mm) ρ o := fun x hx => by rw [ev_upR, h x hx, Option.bind_some, if_pos (Fz.fz x)]
theorem eg_mv {L : Lens} (e : α → D) (x : α) (ρ' : List D) (h : L.get ρ = some (e x)) (h2 : L.put ρ .gone = ρ') : Eg e (fun _ => ρ') (mvM L) ρ (some x) := fun y hy => by
  cases hy; rw [LI.ev_mv, h, Option.bind_some, h2]
theorem b_asg {f : TgM} (env2 : α → List D) (h : Eg e env g ρ o) (hf : ∀ x, f (e x) (env x) = some (env2 x)) (h2 : ∀ x, Bk Q m (env2 x) (k x)) : Bk Q (seqM (asgM f g) m) ρ (o.bind k) := fun t ht => by
  obtain ⟨x, h3, h4⟩ := ob_some ht
  obtain ⟨fl, ρ', h5, h6⟩ := h2 x t h4
  refine ⟨fl, ρ', ?_, h6⟩
  unfold seqM asgM
  rw [h x h3, Option.bind_some, hf]
  exact h5
theorem b_asgI {f : TgM} {i : Nat} (env2 : α → List D) (h : Eg e env g ρ o) (hf : ∀ x, (f (e x) (env x)).map (iceAt i) = some (env2 x)) (h2 : ∀ x, Bk Q m (env2 x) (k x)) : Bk Q (seqM (iceM i (asgM f g)) m) ρ (o.bind k) := fun t ht => by
  obtain ⟨x, h3, h4⟩ := ob_some ht
  obtain ⟨fl, ρ', h5, h6⟩ := h2 x t h4
  refine ⟨fl, ρ', ?_, h6⟩
  have := hf x
  cases w : f (e x) (env x) with
  | none => rw [w] at this; cases this
  | some ρ1 =>
    rw [w] at this
    have e2 : iceAt i ρ1 = env2 x := Option.some.inj this
    rw [← e2] at h5
    unfold seqM iceM asgM
    rw [h x h3, Option.bind_some, w]
    exact h5
theorem b_expr (h : Eg e env g ρ o) (h2 : ∀ x, Bk Q m (env x) (k x)) : Bk Q (seqM (exprM g) m) ρ (o.bind k) := fun t ht => by
  obtain ⟨x, h3, h4⟩ := ob_some ht
  obtain ⟨fl, ρ', h5, h6⟩ := h2 x t h4
  refine ⟨fl, ρ', ?_, h6⟩
  unfold seqM exprM
  rw [h x h3]
  exact h5
theorem b_ret {k : α → τ} (h : Eg e env g ρ o) (h2 : ∀ x, Q (.rt (e x)) (env x) (k x)) : Bk Q (seqM (retM g) m) ρ (o.bind fun x => some (k x)) := fun t ht => by
  obtain ⟨x, h3, h4⟩ := ob_some ht
  cases h4
  refine ⟨_, _, ?_, h2 x⟩
  unfold seqM retM
  rw [h x h3]; rfl
theorem b_retI {e : τ → D} {env : τ → List D} {o : Option τ} (h : Eg e env g ρ o) (h2 : ∀ x, Q (.rt (e x)) (env x) x) : Bk Q (seqM (retM g) m) ρ o := fun t ht => by
  refine ⟨_, _, ?_, h2 t⟩
  unfold seqM retM
  rw [h t ht]; rfl
theorem b_nil {t : τ} (h : Q .nx ρ t) : Bk Q skipM ρ (some t) := fun t' ht => by cases ht; exact ⟨_, _, rfl, h⟩
theorem b_ifT {oa ob : Option τ} (hc : Et c ρ oc) (ha : Bk (Qn Q) a ρ oa) (hr : Bk Q r ρ ob) : Bk Q (seqM (ifM c a skipM) r) ρ (oc.bind fun k => if k = true then oa else ob) := fun t ht => by
  obtain ⟨x, h1, h2⟩ := ob_some ht
  cases x with
  | true =>
    rw [if_pos rfl] at h2
    obtain ⟨fl, ρ', h3, h4, h5⟩ := ha t h2
    refine ⟨fl, ρ', ?_, h5⟩
    unfold seqM ifM
    rw [hc _ h1, Option.bind_some, if_pos rfl, h3]
    cases fl <;> first | rfl | cases h4
  | false =>
    simp at h2
    obtain ⟨fl, ρ', h3, h4⟩ := hr t h2
    refine ⟨fl, ρ', ?_, h4⟩
    unfold seqM ifM
    rw [hc _ h1, Option.bind_some, if_neg Bool.false_ne_true]
    exact h3
theorem b_join {kl : List Nat} (env : σ → List D) {oa ob : Option σ} {k : σ → Option τ} (hc : Et c ρ oc) (ha : Bk (Qj kl env) a ρ oa) (hb : Bk (Qj kl env) b ρ ob) (hr : ∀ s, Bk Q r (env s) (k s)) : Bk Q (seqM (ifM c a b) (killM kl r)) ρ (oc.bind fun x => (if x = true then oa else ob).bind k) := fun t ht => by
  obtain ⟨x, h1, h2⟩ := ob_some ht
  obtain ⟨s, h3, h4⟩ := ob_some h2
  obtain ⟨fl, ρ', h5, h6⟩ := hr s t h4
  have main : ∀ m : SM, Bk (Qj kl env) m ρ (if x = true then oa else ob) → ifM c a b ρ = m ρ → ∃ fl ρ', seqM (ifM c a b) (killM kl r) ρ = some (fl, ρ') ∧ Q fl ρ' t := fun m hm he => by
    obtain ⟨f2, ρ2, h7, h8, h9⟩ := hm s h3
    refine ⟨fl, ρ', ?_, h6⟩
    unfold seqM
    rw [he, h7, nxB_nx h8]
    show r (goneAt ρ2 kl) = _
    rw [h9]; exact h5
  cases x with
  | true => exact main a ha (if_T (hc _ h1))
  | false => exact main b hb (if_F (hc _ h1))
end

def foldT {σ α : Type} (g : σ → α → Option σ) : List α → σ → Option σ
  | [], s => some s
  | x :: xs, s => (g s x).bind fun s => foldT g xs s
def forT {σ α τ : Type} (g : σ → α → Option (St σ τ)) : List α → σ → Option (σ ⊕ τ)
  | [], s => some (.inl s)
  | x :: xs, s => (g s x).bind fun u => match u with
    | .nx s => forT g xs s
    | .bk s => some (.inl s)
    | .rt t => some (.inr t)
def whileT {σ : Type} (p : σ → Option Bool) (g : σ → Option σ) : Nat → σ → Option σ
  | 0, _ => none
  | n + 1, s => (p s).bind fun k => if k = true then (g s).bind fun s => whileT p g n s else some s
section
variable {α σ τ : Type} {Q : Fl → List D → τ → Prop} {e : α → D} {r body : SM} {ρ : List D} {oxs : Option (List α)} {c : BM} {k : σ → Option τ} {ms : AM} {f : TgM} {kl : List Nat}
theorem for_fold1 (env : σ → List D) (env1 : σ → α → List D) {g : σ → α → Option σ} (hf : ∀ s x, f (e x) (env s) = some (env1 s x)) (hb : ∀ s x, Bk (Ql kl env) body (env1 s x) (g s x)) : ∀ (xs : List α) (s s' : σ), foldT g xs s = some s' → forL f body kl (xs.map e) (env s) = some (.nx, env s')
  | [], s, s', h => by cases h; rfl
  | x :: xs, s, s', h => by
    obtain ⟨s1, h1, h2⟩ := ob_some h
    obtain ⟨fl, ρ', h3, h4, h5⟩ := hb s x s1 h1
    rw [List.map_cons]; unfold forL
    rw [hf, Option.bind_some, h3, Option.bind_some]
    have ih := for_fold1 env env1 hf hb xs s1 s' h2
    cases fl with
    | nx => simp only [h5]; exact ih
    | ct => simp only [h5]; exact ih
    | bk => cases h4
    | rt d => cases h4
    | ex n fs es => cases h4
theorem b_for (env : σ → List D) (s0 : σ) (env1 : σ → α → List D) {g : σ → α → Option σ} (hi : Ei e ms ρ oxs) (hρ : ρ = env s0) (hf : ∀ s x, f (e x) (env s) = some (env1 s x)) (hb : ∀ s x, Bk (Ql kl env) body (env1 s x) (g s x)) (hr : ∀ s, Bk Q r (env s) (k s)) :
    Bk Q (seqM (forM f body kl ms) r) ρ (oxs.bind fun xs => (foldT g xs s0).bind k) := fun t ht => by
  obtain ⟨xs, h1, h2⟩ := ob_some ht
  obtain ⟨s, h3, h4⟩ := ob_some h2
  obtain ⟨fl, ρ', h5, h6⟩ := hr s t h4
  refine ⟨fl, ρ', ?_, h6⟩
  unfold seqM
  rw [for_at (hi xs h1), hρ, for_fold1 env env1 hf hb xs s0 s h3]
  exact h5
theorem for_step1 (env : σ → List D) (env1 : σ → α → List D) {g : σ → α → Option (St σ τ)} (hf : ∀ s x, f (e x) (env s) = some (env1 s x)) (hb : ∀ s x, Bk (Qs kl env Q) body (env1 s x) (g s x)) : ∀ (xs : List α) (s : σ) (u : σ ⊕ τ), forT g xs s = some u →
    ∃ fl ρ', forL f body kl (xs.map e) (env s) = some (fl, ρ') ∧ match u with | .inl s => fl = .nx ∧ ρ' = env s | .inr t => rtB fl = true ∧ Q fl ρ' t
  | [], s, u, h => by cases h; exact ⟨_, _, rfl, rfl, rfl⟩
  | x :: xs, s, u, h => by
    obtain ⟨v, h1, h2⟩ := ob_some h
    obtain ⟨fl, ρ', h3, h4⟩ := hb s x v h1
    rw [List.map_cons]; unfold forL
    rw [hf, Option.bind_some, h3, Option.bind_some]
    cases v with
    | nx s1 =>
      obtain ⟨f2, ρ2, h5, h6⟩ := for_step1 env env1 hf hb xs s1 u h2
      refine ⟨f2, ρ2, ?_, h6⟩
      cases fl with
      | nx => simp only [h4.2]; exact h5
      | ct => simp only [h4.2]; exact h5
      | bk => cases h4.1
      | rt d => cases h4.1
      | ex n fs es => cases h4.1
    | bk s1 =>
      cases h2
      rw [h4.1]
      exact ⟨_, _, rfl, rfl, h4.2⟩
    | rt t =>
      cases h2
      cases fl with
      | rt d => exact ⟨_, _, rfl, h4⟩
      | ex n fs es => exact ⟨_, _, rfl, h4⟩
      | _ => cases h4.1
theorem b_forR (env : σ → List D) (s0 : σ) (env1 : σ → α → List D) {g : σ → α → Option (St σ τ)} (hi : Ei e ms ρ oxs) (hρ : ρ = env s0) (hf : ∀ s x, f (e x) (env s) = some (env1 s x)) (hb : ∀ s x, Bk (Qs kl env Q) body (env1 s x) (g s x)) (hr : ∀ s, Bk Q r (env s) (k s)) :
    Bk Q (seqM (forM f body kl ms) r) ρ (oxs.bind fun xs => (forT g xs s0).bind fun u => seqT u k) := fun t ht => by
  obtain ⟨xs, h1, h2⟩ := ob_some ht
  obtain ⟨u, h3, h4⟩ := ob_some h2
  obtain ⟨f2, ρ2, h7, h8⟩ := for_step1 env env1 hf hb xs s0 u h3
  unfold seqM
  rw [for_at (hi xs h1), hρ, h7, Option.bind_some]
  cases u with
  | inl s =>
    obtain ⟨rfl, rfl⟩ := h8
    exact hr s t h4
  | inr t2 =>
    cases h4
    cases f2 with
    | rt d => exact ⟨_, _, rfl, h8.2⟩
    | ex n fs es => exact ⟨_, _, rfl, h8.2⟩
    | _ => cases h8.1
theorem while_fold1 (env : σ → List D) {p : σ → Option Bool} {g : σ → Option σ} (hc : ∀ s, Et c (env s) (p s)) (hb : ∀ s, Bk (Ql kl env) body (env s) (g s)) : ∀ (n : Nat) (s s' : σ), whileT p g n s = some s' → whileL c body kl n (env s) = some (.nx, env s')
  | 0, s, s', h => by cases h
  | n + 1, s, s', h => by
    obtain ⟨b, h1, h2⟩ := ob_some h
    unfold whileL
    rw [hc s b h1, Option.bind_some]
    cases b with
    | false => simp at h2; rw [h2]; rfl
    | true =>
      rw [if_pos rfl] at h2 ⊢
      obtain ⟨s1, h3, h4⟩ := ob_some h2
      obtain ⟨fl, ρ', h5, h6, h7⟩ := hb s s1 h3
      rw [h5, Option.bind_some]
      have ih := while_fold1 env hc hb n s1 s' h4
      cases fl with
      | nx => simp only [h7]; exact ih
      | ct => simp only [h7]; exact ih
      | bk => cases h6
      | rt d => cases h6
      | ex n fs es => cases h6
theorem b_while {n : Nat} (env : σ → List D) (s0 : σ) {p : σ → Option Bool} {g : σ → Option σ} (hρ : ρ = env s0) (hc : ∀ s, Et c (env s) (p s)) (hb : ∀ s, Bk (Ql kl env) body (env s) (g s)) (hr : ∀ s, Bk Q r (env s) (k s)) :
    Bk Q (seqM (whileM n c body kl) r) ρ ((whileT p g n s0).bind k) := fun t ht => by
  obtain ⟨s, h3, h4⟩ := ob_some ht
  obtain ⟨fl, ρ', h5, h6⟩ := hr s t h4
  refine ⟨fl, ρ', ?_, h6⟩
  unfold seqM whileM
  rw [hρ, while_fold1 env hc hb n s0 s h3]
  exact h5
end

theorem run_T {τ : Type} {e : τ → D} {n : Nat} {kp : List Bool} {m : SM} {ds : List D} {mk : τ → List D} {o : Option τ} {r : τ} (hl : (ds.length == kp.length) = true) (hb : Bk (Qf e kp mk) m (ds ++ List.replicate (n - ds.length) .gone) o) (h : o = some r) : runM n kp m ds = some (e r, mk r) := by
  obtain ⟨fl, ρ', h1, h2, h3⟩ := hb r h
  unfold runM
  rw [if_pos (by simpa using hl), h1, Option.bind_some]
  rcases h2 with rfl | ⟨rfl, h2⟩
  · rw [← h3]
  · rw [← h3, h2]
end LI

namespace LI
open PySem L2

theorem fzL {α : Type} {e : α → D} [Fz e] (xs : List α) : frzL (xs.map e) = true := frzL_map.mpr fun x _ => Fz.fz x
section
variable {α β γ τ σ : Type} {e : α → D} {env : α → List D} {m mo : RM} {ms : AM} {g : GM} {ρ : List D} {o : Option α} {L : Lens}
theorem ev_get {x : α} (h : L.get ρ = some (e x)) : Ev e L.get ρ (some x) := fun y hy => by cases hy; exact h
def appT {α : Type} (xs : List α) (x : α) : Option (List α) := if xs.length < LIM then some (xs ++ [x]) else none
theorem eg_app {a : α → D} {xs : List α} {env : List α → List D} (h : L.get ρ = some (eL true a xs)) (hx : Ev a m ρ o) (hp : ∀ ys, L.put ρ (eL true a ys) = env ys) : Eg (fun _ => .non) env (appL L m) ρ (o.bind fun x => appT xs x) := fun ys hy => by
  obtain ⟨x, h1, h2⟩ := ob_some hy
  unfold appT at h2
  split at h2
  · rename_i q
    cases h2
    rw [LI.ev_app, h, Option.bind_some, hx x h1, Option.bind_some]
    show (if (xs.map a).length < LIM then _ else none) = _
    rw [if_pos (by simpa using q), ← hp]
    simp [eL]
  · cases h2
theorem eg_ext {a : β → D} {i : Nat} {xs0 : List β} {xs ys : α → List β} {o' : Bool} {env0 : α → List D} {env : α × List β → List D} [Fz a] (h0 : ρ[i]? = some (eL true a xs0)) (hg : Eg e env0 g ρ o) (he : ∀ x, e x = eL o' a (ys x)) (h1 : ∀ x, (env0 x)[i]? = some (eL true a (xs x))) (hp : ∀ p, (env0 p.1).set i (eL true a p.2) = env p) :
    Eg (fun _ => .non) env (extS i g) ρ (o.bind fun x => (catL (xs x) (ys x)).bind fun z => some (x, z)) := fun p hy => by
  obtain ⟨x, h2, h3⟩ := ob_some hy
  obtain ⟨z, h4, h5⟩ := ob_some h3
  cases h5
  unfold catL at h4
  split at h4
  · rename_i q
    cases h4
    unfold extS
    rw [h0]
    show (g ρ).bind _ = _
    rw [hg x h2, Option.bind_some]
    simp only [he, h1]
    show (if frzL ((ys x).map a) = true ∧ ((xs x).map a).length + ((ys x).map a).length ≤ LIM then _ else none) = _
    rw [if_pos ⟨fzL _, by simpa using q⟩, ← hp]
    simp [eL]
  · cases h4
theorem b_fld {Q : Fl → List D → τ → Prop} {r : SM} {k : α → Option τ} {n : Nat} {f : Str} (env2 : α → List D) (h : Eg e env g ρ o) (hp : ∀ x, ((L.get (env x)).bind fun self => (setFD n f (e x) self).map fun self' => L.put (env x) self') = some (env2 x)) (h2 : ∀ x, Bk Q r (env2 x) (k x)) : Bk Q (seqM (fldM n f L g) r) ρ (o.bind k) := fun t ht => by
  obtain ⟨x, h3, h4⟩ := ob_some ht
  obtain ⟨fl, ρ', h5, h6⟩ := h2 x t h4
  refine ⟨fl, ρ', ?_, h6⟩
  have := hp x
  unfold seqM fldM
  rw [h x h3, Option.bind_some]
  cases w1 : L.get (env x) with
  | none => rw [w1] at this; cases this
  | some self =>
    rw [w1, Option.bind_some] at this
    simp only [w1, Option.bind_some]
    cases w2 : setFD n f (e x) self with
    | none => rw [w2] at this; cases this
    | some s2 =>
      rw [w2] at this
      have e2 : L.put (env x) s2 = env2 x := Option.some.inj this
      rw [Option.map_some, e2]
      exact h5
def To {κ : Type} (ec : κ → D) (et : τ → List D) (er : σ → D) (F : FM) (t : κ → τ → Option σ) : Prop := ∀ x p r, t x p = some r → ∃ ds', F (ec x :: et p) = some (er r, ec x :: ds')
def Tn {κ : Type} (n : Nat) (et : τ → List D) (ec : κ → D) (F : FM) (t : τ → Option κ) : Prop := ∀ p r, t p = some r → ∃ ds', F (.obj true n [] [] :: et p) = some (.non, ec r :: ds')
theorem x_look {κ : Type} {ec ec' : κ → D} {et et' : τ → List D} {er : σ → D} {F : FM} {t : κ → τ → Option σ} {n : Nat} {nm : Str} {os : Option τ} {ok : Option κ} [Fz ec] [Ic ec ec'] (hk : ∀ x, isObjK n nm (ec x) = true) (hT : To ec' et' er F t) (ho : Ev ec mo ρ ok) (hs : Ea et et' true ms ρ os) :
    Ev er (lookM n nm mo F ms) ρ (ok.bind fun x => os.bind fun p => t x p) := fun r hr => by
  obtain ⟨x, h1, h2⟩ := ob_some hr
  obtain ⟨p, h3, h4⟩ := ob_some h2
  obtain ⟨ds', h5⟩ := hT x p r h4
  unfold lookM
  rw [ho x h1, Option.bind_some, hs.run p h3, Option.bind_some, if_pos (hk x), iceL_cons, Ic.ic (e := ec), hs.ic, h5, Option.bind_some, if_pos (.inl (by rw [fzL_cons, Fz.fz, hs.fz rfl]; rfl))]
theorem x_lookF {κ : Type} {ec ec' : κ → D} {et et' : τ → List D} {er : σ → D} {F : FM} {t : κ → τ → Option σ} {n : Nat} {nm : Str} {os : Option τ} {ok : Option κ} {z : Bool} [Nic er] [Ic ec ec'] (hk : ∀ x, isObjK n nm (ec x) = true) (hT : To ec' et' er F t) (ho : Ev ec mo ρ ok) (hs : Ea et et' z ms ρ os) :
    Ev er (lookM n nm mo F ms) ρ (ok.bind fun x => os.bind fun p => t x p) := fun r hr => by
  obtain ⟨x, h1, h2⟩ := ob_some hr
  obtain ⟨p, h3, h4⟩ := ob_some h2
  obtain ⟨ds', h5⟩ := hT x p r h4
  unfold lookM
  rw [ho x h1, Option.bind_some, hs.run p h3, Option.bind_some, if_pos (hk x), iceL_cons, Ic.ic (e := ec), hs.ic, h5, Option.bind_some, if_pos (.inr (Nic.ni r))]
theorem x_mk {κ : Type} {ec : κ → D} {et et' : τ → List D} {F : FM} {t : τ → Option κ} {n : Nat} {os : Option τ} (hT : Tn n et ec F t) (hs : Ea et et' true ms ρ os) : Ev ec (mkM n F ms) ρ (os.bind t) := fun r hr => by
  obtain ⟨p, h1, h2⟩ := ob_some hr
  obtain ⟨ds', h3⟩ := hT p r h2
  unfold mkM
  rw [hs.run p h1, Option.bind_some, if_pos (hs.fz rfl p), h3, Option.bind_some]
end
class Ki {α : Type} (e : α → D) (k : outParam String) : Prop where
  ki : ∀ x, tyD (e x) = some k
instance : Ki eI "int" := ⟨fun _ => rfl⟩
section
variable {α β γ δ ε ζ : Type} {a : α → D} {b : β → D} {c : γ → D} {d : δ → D} {e : ε → D} {f : ζ → D} {o : Bool}
instance : Ki (eL o a) "list" := ⟨fun _ => rfl⟩
instance : Ki (e2 a b) "tuple" := ⟨fun _ => rfl⟩
end
theorem x_isK {α : Type} {e : α → D} {k ty : String} {b : Bool} [Ki e k] {m : RM} {ρ : List D} {o : Option α} (hb : kitB k ty = some b) (h : Ev e m ρ o) : Ev eB (isiM ty m) ρ (o.bind fun _ => some b) :=
  x_isi (fun _ => b) (fun x => by rw [Ki.ki (e := e), Option.bind_some, hb]) h
theorem x_isO {α : Type} {e : α → D} {k ty : String} {b : Bool} [Ki e k] {m : RM} {ρ : List D} {o : Option (Option α)} (hb : kitB k ty = some b) (hn : kitB "NoneType" ty = some false) (h : Ev (eO e) m ρ o) : Ev eB (isiM ty m) ρ (o.bind fun x => some (x.isSome && b)) :=
  x_isi (fun x => x.isSome && b) (fun x => by
    cases x with
    | none => show ((tyD D.non).bind fun t => kitB t ty) = _; exact hn
    | some x => show ((tyD (e x)).bind fun t => kitB t ty) = _; rw [Ki.ki (e := e), Option.bind_some, hb]; simp) h
end LI
namespace OW
end OW

theorem bind_same {α : Type} (x : Option α) : (x.bind fun y => some y) = x := Option.bind_fun_some x
namespace LI
open PySem L2

section
variable {α β γ κ τ σ τ1 τ2 : Type} {Q : Fl → List D → τ → Prop} {e e' : α → D} {env : α → List D} {m r : SM} {g : GM} {mm mi : RM} {ms1 ms2 : AM} {ρ : List D} {o : Option α} {k : α → Option τ} {L : Lens}
theorem ice_set {i : Nat} {x : α} {ρ2 : List D} [Ic e e'] (h : ρ[i]? = some (e x)) (h2 : ρ.set i (e' x) = ρ2) : iceAt i ρ = ρ2 := by
  unfold iceAt
  rw [h]
  show ρ.set i (ice (e x)) = ρ2
  rw [Ic.ic (e := e), h2]
theorem b_asgC {i : Nat} [ic : Ic e e'] (env2 : α → List D) (h : Eg e env g ρ o) (hl : ∀ x, decide (i < (env x).length) = true) (h2 : ∀ x, (env x).set i (e' x) = env2 x) (h3 : ∀ x, Bk Q m (env2 x) (k x)) : Bk Q (seqM (iceM i (asgM (nameT i) g)) m) ρ (o.bind k) :=
  b_asgI env2 h (fun x => by
    rw [ev_name, Option.map_some, ice_set (e := e) (x := x) (ρ2 := env2 x)]
    · rw [List.getElem?_set_self (of_decide_eq_true (hl x))]
    · rw [List.set_set, h2]) h3
def Tl (et1 : τ1 → List D) (ec : κ → D) (et2 : τ2 → List D) (er : σ → D) (slf : σ → κ) (F : FM) (t : τ1 → κ → τ2 → Option σ) : Prop := ∀ p x q r, t p x q = some r → ∃ ds', F (et1 p ++ ec x :: et2 q) = some (er r, ds') ∧ ds'[(et1 p).length]? = some (ec (slf r))
theorem eg_lend {ec : κ → D} {x : κ} {et1 et1' : τ1 → List D} {et2 et2' : τ2 → List D} {er : σ → D} {slf : σ → κ} {F : FM} {t : τ1 → κ → τ2 → Option σ} {env : σ → List D} {o1 : Option τ1} {o2 : Option τ2} (hT : Tl et1 ec et2 er slf F t) (hg : L.get ρ = some (ec x)) (h1 : Ea et1 et1' true ms1 ρ o1) (h2 : Ea et2 et2' true ms2 ρ o2) (hp : ∀ r, L.put ρ (ec (slf r)) = env r) :
    Eg er env (lendM F ms1 L ms2) ρ (o1.bind fun p => o2.bind fun q => t p x q) := fun r hr => by
  obtain ⟨p, h3, h4⟩ := ob_some hr
  obtain ⟨q, h5, h6⟩ := ob_some h4
  obtain ⟨ds', h7, h8⟩ := hT p x q r h6
  unfold lendM
  rw [h1.run p h3, Option.bind_some, hg, Option.bind_some, h2.run q h5, Option.bind_some, if_pos ⟨h1.fz rfl p, h2.fz rfl q⟩, h7, Option.bind_some]
  dsimp only
  rw [h8, Option.map_some, hp]
end
end LI

namespace LI
open PySem L2

section
variable {α β γ κ τ σ ζ η : Type} {Q : Fl → List D → τ → Prop} {e e1 : α → D} {env env1 : α → List D} {m r a b : SM} {g ga gb : GM} {mm : RM} {ρ : List D} {o : Option α} {c : BM} {mc md : BGM} {oc od : Option (Bool × α)} {k : α → Option τ}
end
end LI

namespace LI
open PySem L2

class Ky {κ : Type} (ek : κ → D) (kk : outParam (κ → Key)) : Prop where
  ky : ∀ x, keyD (ek x) = some (kk x)
  inj : ∀ x y, kk x = kk y → x = y
section
variable {κ α β : Type} {o : Bool} {ek : κ → D} {kk : κ → Key} {a a' : α → D} {ρ : List D} {ma mb mc mk mv : RM} {ms mt : AM}
theorem frzL2 [Fz a] : ∀ m : List (κ × α), frzL (m.map fun p => a p.2) = true
  | [] => rfl
  | p :: m => by rw [List.map_cons]; show (frz (a p.2) && frzL _) = true; rw [Fz.fz, frzL2 m]; rfl
def getT {κ α : Type} [DecidableEq κ] : List (κ × α) → κ → Option α
  | [], _ => none
  | p :: m, k => if p.1 = k then some p.2 else getT m k
end
end LI
namespace LI
open PySem L2
end LI

namespace LI
open PySem L2
class Tu {α : Type} (e : α → D) : Prop where
  tu : ∀ x, ∃ ds, e x = .tup ds
section
variable {α β γ δ ε ζ : Type} {a : α → D} {b : β → D} {c : γ → D} {d : δ → D} {e : ε → D} {f : ζ → D}
instance : Tu (e3 a b c) := ⟨fun _ => ⟨_, rfl⟩⟩
end
def asL (o : Bool) : D → D
  | .tup ds => .lst o ds
  | d => d
def eH {α : Type} (o : Bool) (e : α → D) (x : α) : D := asL o (e x)
section
variable {α : Type} {o : Bool} {e e' : α → D}
instance [Tu e] : Ng (eH o e) := ⟨fun x => by obtain ⟨ds, h⟩ := Tu.tu (e := e) x; unfold eH; rw [h]; rfl⟩
instance [Tu e] [Tu e'] [Ic e e'] : Ic (eH o e) (eH false e') := ⟨fun x => by
  obtain ⟨ds, h⟩ := Tu.tu (e := e) x
  obtain ⟨ds', h'⟩ := Tu.tu (e := e') x
  have h2 : ice (e x) = e' x := Ic.ic x
  unfold eH; rw [h, h'] at h2; rw [h, h']
  have h3 : D.tup (iceL ds) = .tup ds' := h2
  show D.lst false (iceL ds) = .lst false ds'
  cases h3; rfl⟩
end
section
variable {α β σ τ : Type} {e : α → D} {env : α → List D} {g : GM} {ms : AGM} {ρ : List D} {o : Option α}
end
end LI

namespace LI
open PySem L2
section
variable {α β σ τ : Type} {o : Bool} {a : α → D} {xs : List α} {ρ : List D} {L : Lens} {mi : RM} {oi : Option Int} {envs : List α → List D} {g : GM}
def Eao {τ : Type} (et env : τ → List D) (ms : AGM) (ρ : List D) (o : Option τ) : Prop := ∀ t, o = some t → ms ρ = some (et t, env t)
theorem eao_nil : Eao (fun _ : Unit => []) (fun _ => ρ) nilG ρ (some ()) := fun t _ => rfl
theorem eao_cons {γ : Type} {e : γ → D} {env : γ → List D} {ms : AGM} {o : Option γ} {et2 env2 : γ → β → List D} {o2 : γ → Option β} (h : Eg e env g ρ o) (h2 : ∀ x, Eao (et2 x) (env2 x) ms (env x) (o2 x)) : Eao (fun p : γ × β => e p.1 :: et2 p.1 p.2) (fun p => env2 p.1 p.2) (consO g ms) ρ (o.bind fun x => (o2 x).bind fun y => some (x, y)) := fun t ht => by
  obtain ⟨x, h3, h4⟩ := ob_some ht
  obtain ⟨y, h5, h6⟩ := ob_some h4
  cases h6
  unfold consO
  rw [h x h3, Option.bind_some]
  dsimp only
  rw [h2 x y h5]; rfl
theorem eg_lstO {ms : AGM} {et env : τ → List D} {o : Option τ} {f : β → D} (k : τ → β) (h : Eao et env ms ρ o) (hk : ∀ x, f (k x) = .lst true (et x)) (hl : ∀ x, (et x).length ≤ LIM) : Eg (fun p : β × τ => f p.1) (fun p => env p.2) (lstO ms) ρ (o.bind fun x => some (k x, x)) := fun p hp => by
  obtain ⟨x, h3, h4⟩ := ob_some hp
  cases h4
  unfold lstO
  rw [h x h3, Option.bind_some]
  show (if (et x).length ≤ LIM then _ else none) = _
  rw [if_pos (hl x)]
  dsimp only
  rw [hk]
end
end LI

namespace LI
open PySem L2
def k2 {α β : Type} (a : α → Key) (b : β → Key) (t : α × β) : List Key := [a t.1, b t.2]
def k3 {α β γ : Type} (a : α → Key) (b : β → Key) (c : γ → Key) (t : α × β × γ) : List Key := [a t.1, b t.2.1, c t.2.2]
section
variable {α β γ κ τ : Type} {a : α → Key} {b : β → Key} {c : γ → Key} {kk : κ → List Key} {e : α → D} {e' : κ → D} {o : Bool} {ρ : List D} {m ma mb : RM} {ms : AM}
def putT {κ α : Type} [DecidableEq κ] (m : List (κ × α)) (k : κ) (v : α) : List (κ × α) := if (m.any fun p => decide (p.1 = k)) = true then m.map (fun p => if p.1 = k then (p.1, v) else p) else m ++ [(k, v)]
def putC {κ α : Type} [DecidableEq κ] (m : List (κ × α)) (k : κ) (v : α) : Option (List (κ × α)) := if m.length < LIM then some (putT m k v) else none
theorem put_any {κ2 : Type} [DecidableEq κ] [DecidableEq κ2] (f : κ → κ2) (hf : ∀ x y, f x = f y → x = y) (k : κ) : ∀ m : List (κ × α), ((m.map fun p => f p.1).any fun j => decide (j = f k)) = m.any fun p => decide (p.1 = k)
  | [] => rfl
  | p :: m => by
    rw [List.map_cons, List.any_cons, List.any_cons, put_any f hf k m]
    congr 1
    by_cases h : p.1 = k
    · rw [h]; simp
    · rw [decide_eq_false h, decide_eq_false (fun q => h (hf _ _ q))]
theorem put_map {κ2 : Type} [DecidableEq κ] [DecidableEq κ2] (f : κ → κ2) (hf : ∀ x y, f x = f y → x = y) (k : κ) (v : α) : ∀ m : List (κ × α), (((m.map fun p => f p.1).zip (m.map fun p => e p.2)).map fun p => if p.1 = f k then e v else p.2) = (m.map fun p => if p.1 = k then (p.1, v) else p).map fun p => e p.2
  | [] => rfl
  | p :: m => by
    simp only [List.map_cons, List.zip_cons_cons]
    rw [put_map f hf k v m]
    congr 1
    by_cases h : p.1 = k
    · rw [if_pos h, if_pos (by rw [h])]
    · rw [if_neg h, if_neg (fun q => h (hf _ _ q))]
theorem put_eq {κ2 : Type} [DecidableEq κ] [DecidableEq κ2] (f : κ → κ2) (hf : ∀ x y, f x = f y → x = y) (k : κ) (v : α) (m : List (κ × α)) : putL (m.map fun p => f p.1) (m.map fun p => e p.2) (f k) (e v) = ((putT m k v).map (fun p => f p.1), (putT m k v).map fun p => e p.2) := by
  unfold putL putT
  rw [put_any f hf]
  split
  · rw [put_map f hf]
    congr 1
    rw [List.map_map]
    apply List.map_congr_left
    intro p _
    show f p.1 = f (if p.1 = k then (p.1, v) else p).1
    split <;> rfl
  · simp
end
end LI

namespace LI
open PySem L2
section
variable {X : Cx} {cl : Nat → Addr} {E : En} {pos : Pos} {x : Str}
end
end LI

namespace LI
open PySem L2
section
variable {X : Cx} {pins : List (Addr × Obj)} {σ : L2.St} {H : Hp} {s : Shared}
end
end LI

namespace LI
open PySem L2
section
variable {X : Cx} {cl : Nat → Addr} {E : En} {e a b o i : Expr} {es : List Expr} {pos p apos cpos : Pos} {m ma mb : RM} {ms : AM} {L : Lens}
end
section
variable {α β γ κ τ : Type} {kk : κ → List Key} {kq : κ → Key} {ek : κ → D} {a : α → D} {o : Bool} {ρ : List D} {m ma mb : RM}
end
end LI

namespace LI
open PySem L2
def keyQ : Key → PyData
  | .inl i => .int i
  | .inr s => .str s
mutual
def toQ : D → Option PyData
  | .int i => some (.int i)
  | .str s => some (.str ⟨s.toArray⟩)
  | .key ks => some (.tuple (ks.map keyQ))
  | .tup ds => (toQL ds).map .tuple
  | _ => none
def toQL : List D → Option (List PyData)
  | [] => some []
  | d :: ds => (toQ d).bind fun p => (toQL ds).map fun ps => p :: ps
end
mutual
/-- a value that reads as data -/
def VD (K : PySem.W.Frag) (H : Hp) : PyData → V → Prop
  | .int i, v => v = .int i
  | .str s, v => v = .str s
  | .tuple ps, v => ∃ a xs, v = .ref a ∧ SqT K H a xs ∧ VDL K H ps xs
  | _, _ => False
def VDL (K : PySem.W.Frag) (H : Hp) : List PyData → List V → Prop
  | [], xs => xs = []
  | p :: ps, xs => ∃ y ys, xs = y :: ys ∧ VD K H p y ∧ VDL K H ps ys
end
section
variable {X : Cx} {pins : List (Addr × Obj)} {σ : L2.St} {H : Hp} {s : Shared}
end
theorem VDL.len {K : PySem.W.Frag} {H : Hp} : ∀ {ps : List PyData} {xs : List V}, VDL K H ps xs → ps.length = xs.length
  | [], xs, h => by obtain rfl : xs = [] := h; rfl
  | p :: ps, xs, ⟨y, ys, e, _, h⟩ => by subst e; simp [VDL.len h]
def isTupP : PyData → Bool
  | .tuple (_ :: _) => true
  | _ => false
def isPlP : PyData → Bool
  | .tuple _ => false
  | .none => false
  | _ => true
section
variable {X : Cx} {pins : List (Addr × Obj)} {σ : L2.St} {H : Hp} {s : Shared}
end
class Sd {α : Type} (e : α → D) (p : outParam (α → PyData)) (n : outParam Nat) : Prop where
  to : ∀ x, toQ (e x) = some (p x)
  al : ∀ x y, PySem.W.alike (p x) (p y) = true
  dp : ∀ x, (p x).depth ≤ n
  ok : (∀ x, isTupP (p x) = true) ∨ ∀ x, isPlP (p x) = true
def p2 {α β : Type} (p : α → PyData) (q : β → PyData) (t : α × β) : PyData := .tuple [p t.1, q t.2]
def p3 {α β γ : Type} (p : α → PyData) (q : β → PyData) (r : γ → PyData) (t : α × β × γ) : PyData := .tuple [p t.1, q t.2.1, r t.2.2]
end LI

namespace LI
open PySem L2
section
variable {c : LC} {E : En} {P P1 : Hp} {S S1 T U1 : FP} {σ σ1 : L2.St} {H H1 : Hp} {ρ ρ1 : List D}
def enOf (W : WX) (P H : Hp) (S : FP) (kp : List Bool) (σ : L2.St) (hk : ∀ i : Nat, kp[i]? = some true → ∃ v, σ[i]? = some (some v)) : En := ⟨P, H, S, kp, σ.map fun v => v.getD .non, fun i h => by
  obtain ⟨v, h2⟩ := hk i h
  exact ⟨v, by rw [List.getElem?_map, h2]; rfl⟩, W⟩
theorem Wd.frame {W : WX} (w : Wd c E P S T σ H ρ) (kp : List Bool) (hk : ∀ i : Nat, kp[i]? = some true → ∃ v, σ[i]? = some (some v)) : Wd c (enOf W P H S kp σ hk) P S fz σ H ρ where
  env := w.env
  le := fun a => by have := w.le a; simp only [fz]; omega
  out := fun a h => w.out a (by simp only [fz] at h; omega)
  th := fun a h => by simp [fz] at h
  ph := w.ph
  p0 := .refl _
  fr := fun a o _ h => h
  np := fun a h => .inl h
  ns := fun a h => .inl (by simp only [fz] at h; exact h)
  kp := fun i v h1 h2 => by
    obtain ⟨v', h3⟩ := hk i h1
    have h2 : (σ.map fun v => v.getD .non)[i]? = some v := h2
    rw [List.getElem?_map, h3] at h2
    cases h2
    exact h3
theorem Wd.unframe {W : WX} (w : Wd c E P S T σ H ρ) {kp : List Bool} (hk : ∀ i : Nat, kp[i]? = some true → ∃ v, σ[i]? = some (some v)) (hE : ∀ i : Nat, E.kp[i]? = some true → kp[i]? = some true) (w1 : Wd c (enOf W P H S kp σ hk) P1 S1 U1 σ1 H1 ρ1) : Wd c E P1 S1 (fa T U1) σ1 H1 ρ1 := by
  have hT : ∀ a, 0 < T a → S a = 0 ∧ ∃ o, H a = some o := fun a h => by
    have h1 := w.le a
    refine ⟨by omega, ?_⟩
    cases z : H a with
    | none => exact absurd z (w.th a h)
    | some o => exact ⟨o, rfl⟩
  have hn : ∀ a, 0 < T a → S1 a + U1 a = 0 := fun a h => by
    obtain ⟨h1, o, h2⟩ := hT a h
    rcases Nat.eq_zero_or_pos (S1 a + U1 a) with z | z
    · exact z
    · rcases w1.ns a z with q | q
      · have q : 0 < S a := q
        omega
      · have q : H a = none := q
        rw [h2] at q; cases q
  refine ⟨w1.env, fun a => ?_, fun a h => ?_, fun a h => ?_, w1.ph, w.p0.trans w1.p0, fun a o h1 h2 => ?_, fun a h => ?_, fun a h => ?_, fun i v h1 h2 => ?_⟩
  · by_cases z : 0 < T a
    · have := hn a z; have := w.le a; simp only [fa]; omega
    · have := w1.le a; simp only [fa]; omega
  · by_cases z : 0 < T a
    · obtain ⟨h1, o, h2⟩ := hT a z
      cases q : P1 a with
      | none => rfl
      | some o' =>
        rcases w1.np a (by rw [q]; simp) with r | r | r
        · have r : P a ≠ none := r
          exact absurd (w.out a (by omega)) r
        · have r : 0 < S a := r
          omega
        · have r : H a = none := r
          rw [h2] at r; cases r
    · exact w1.out a (by simp only [fa] at h; omega)
  · by_cases z : 0 < T a
    · obtain ⟨h1, o, h2⟩ := hT a z
      rw [w1.fr a o h1 h2]; simp
    · exact w1.th a (by simp only [fa] at h; omega)
  · have hH := w.fr a o h1 h2
    have hS : S a = 0 := by
      rcases Nat.eq_zero_or_pos (S a) with z | z
      · exact z
      · rcases w.ns a (by omega) with q | q
        · omega
        · rw [h2] at q; cases q
    exact w1.fr a o hS hH
  · rcases w1.np a h with r | r | r
    · exact w.np a r
    · have r : 0 < S a := r
      rcases w.ns a (by omega) with q | q
      · exact .inr (.inl q)
      · exact .inr (.inr q)
    · have r : H a = none := r
      cases q : E.H0 a with
      | none => exact .inr (.inr rfl)
      | some o =>
        by_cases hs : E.S0 a = 0
        · rw [w.fr a o hs q] at r; cases r
        · exact .inr (.inl (by omega))
  · by_cases z : 0 < T a
    · exact w.ns a (by omega)
    · rcases w1.ns a (by simp only [fa] at h; omega) with q | q
      · have q : 0 < S a := q
        exact w.ns a (by omega)
      · have q : H a = none := q
        cases r : E.H0 a with
        | none => exact .inr rfl
        | some o =>
          by_cases hs : E.S0 a = 0
          · rw [w.fr a o hs r] at q; cases q
          · exact .inl (by omega)
  · have h3 := w.kp i v h1 h2
    refine w1.kp i v (hE i h1) ?_
    show (σ.map fun v => v.getD .non)[i]? = some v
    rw [List.getElem?_map, h3]; rfl
theorem Wd.keep {W : WX} (w : Wd c E P S T σ H ρ) {kp : List Bool} {hk : ∀ i : Nat, kp[i]? = some true → ∃ v, σ[i]? = some (some v)} (w1 : Wd c (enOf W P H S kp σ hk) P1 S1 U1 σ1 H1 ρ1) : ∀ a o, 0 < T a → H a = some o → H1 a = some o := fun a o h1 h2 => by
  have := w.le a
  exact w1.fr a o (by show S a = 0; omega) h2
end
def husk (n : Nat) : D := .lst true (List.replicate n .gone)
def forCE (i : Nat) (n : Nat) (r : Fl × List D) : Fl × List D := match r.1 with
  | .nx => (.nx, r.2.set i (husk n))
  | _ => r
def forCM (i : Nat) (f : TgM) (body : SM) (kl : List Nat) : SM := fun ρ => match ρ[i]? with
  | some (.lst true ds) => (forL f body (i :: kl) ds (ρ.set i .gone)).map (forCE i ds.length)
  | _ => none
theorem repL_husk {c : LC} {P H : Hp} : ∀ xs : List V, RepL c P H (List.replicate xs.length .gone) xs fz
  | [] => ⟨rfl, rfl⟩
  | x :: xs => ⟨x, xs, fz, fz, rfl, rfl, repL_husk xs, (fa_fz fz).symm⟩
def tIO (K : PySem.W.Frag) (i : Nat) : TI := fun σ H R => ∃ a, σ[i]? = some (some (.ref a)) ∧ (∃ xs, SqL K H a xs) ∧ R (Itl K a) H
def tSF (c : LC) (kp : List Bool) (body : SM) : TS := fun D σ H => ∃ E : En, E.kp = kp ∧ tS c E body D σ H
theorem forC_run {c : LC} {E : En} {kp : List Bool} {i0 : Nat} {tl kl : List Nat} {f : TgM} {body : SM} {D : Ends} {σ : L2.St} {H : Hp} (hkE : ∀ i : Nat, E.kp[i]? = some true → kp[i]? = some true) (hkS : ∀ i : Nat, kp[i]? = some true → i = i0 ∨ E.kp[i]? = some true) (hk0 : kp[i0]? = some true) (hi0 : i0 ∉ tl)
    (h : tS c E (forCM i0 f body kl) D σ H) : tFor (tIO c.K i0) (tPG c E tl f) (tSF c kp body) D σ H := by
  obtain ⟨P, S, ρ, fl, ρ', w, hm, q⟩ := h
  unfold forCM at hm
  split at hm
  · rename_i ds hρ
    cases hl : forL f body (i0 :: kl) ds (ρ.set i0 .gone) with
    | none => rw [hl] at hm; cases hm
    | some r =>
      rw [hl] at hm
      have hr : forCE i0 ds.length r = (fl, ρ') := Option.some.inj hm
      obtain ⟨v, Sd, R, hσ, hrep, hsum, hput⟩ := w.env.focus hρ rfl
      obtain ⟨a, xs, Tx, rfl, hH, hxs, hSd⟩ := hrep
      have hlen := hxs.length
      refine ⟨a, hσ, ⟨xs, .inl (.inl hH)⟩, ?_⟩
      have henv := hput P H .gone fz (.refl P) (fun _ _ _ h => h) rfl
      have hSa : ∀ b, S b = one a b + Tx b + R b := fun b => by have := hsum b; rw [this, hSd]; simp only [fa]
      have w0 : Wd c E P (fa fz R) (fa (one a) Tx) σ H (ρ.set i0 .gone) := by
        refine ⟨henv, fun b => ?_, fun b h => w.out b ?_, fun b h => ?_, w.ph, w.p0, w.fr, w.np, fun b h => w.ns b ?_, w.kp⟩
        · have := w.le b; have := hSa b; simp only [fa, fz] at *; omega
        · have := hSa b; simp only [fa, fz] at *; omega
        · by_cases z : b = a
          · rw [z, hH]; simp
          · exact RepL.there ds xs Tx hxs b (by simpa [fa, one, z] using h)
        · have := hSa b; simp only [fa, fz] at *; omega
      have fin : ∀ {P2 S2 σ2 H2 ρ2} {T2 : FP}, Wd c E P2 S2 T2 σ2 H2 ρ2 → (∀ b, one a b ≤ T2 b) → σ2[i0]? = some (some (.ref a)) → H2 a = some (.lst xs) → ∃ S3, Wd c E P2 S3 fz σ2 H2 (ρ2.set i0 (husk ds.length)) := by
        intro P2 S2 σ2 H2 ρ2 T2 w2 hT hσ2 hH2
        have hrep : Rep c P2 H2 (husk ds.length) (.ref a) (one a) := ⟨a, xs, fz, rfl, hH2, by rw [show ds.length = xs.length from hlen]; exact repL_husk xs, (fa_fz _).symm⟩
        obtain ⟨S3, h1, h2⟩ := RepE.set hrep i0 w2.env
        have e : σ2.set i0 (some (.ref a)) = σ2 := by
          refine List.ext_getElem? fun j => ?_
          by_cases z : i0 = j
          · subst z
            rw [List.getElem?_set_self (by exact (List.getElem?_eq_some_iff.mp hσ2).1), hσ2]
          · rw [List.getElem?_set_ne z]
        rw [e] at h1
        exact ⟨S3, w2.shrink h1 (fun b => by have := h2 b; have := hT b; simp only [fz]; omega) (fun _ => Nat.zero_le _) w2.kp⟩
      refine for_it (walk_list (xs := xs)) (fun i σi Hi => ∃ P2 S2 Tr ρi, Wd c E P2 S2 (fa (one a) Tr) σi Hi ρi ∧ Ex P P2 ∧ σi[i0]? = some (some (.ref a)) ∧ Hi a = some (.lst xs) ∧ RepL c P2 Hi (ds.drop i) (xs.drop i) Tr ∧ forL f body (i0 :: kl) (ds.drop i) ρi = some r) ?_ ?_ ?_ ?_
      · exact ⟨P, _, Tx, _, w0, .refl _, hσ, hH, hxs, hl⟩
      · rintro i σi Hi hi ⟨P2, S2, Tr, ρi, w2, e2, h1, h2, _⟩
        exact .inl (.inl h2)
      · rintro i x σi Hi H3 hi ⟨P2, S2, Tr, ρi, w2, e2, h1, h2, h3, hf⟩ ⟨rfl, hx⟩
        have hdl : i < ds.length := by rw [hlen]; exact hi
        rw [List.drop_eq_getElem_cons hdl] at hf h3
        obtain ⟨y, ys, U, W, e3, rd, rl, hU⟩ := h3
        rw [List.drop_eq_getElem_cons hi] at e3
        injection e3 with e4 e5
        have hxy : x = y := by
          rw [List.getElem?_eq_getElem hi] at hx
          exact (Option.some.inj hx).symm.trans e4
        subst hxy e5 hU
        unfold forL at hf
        cases ef : f ds[i] ρi with
        | none => rw [ef] at hf; cases hf
        | some ρ1 =>
          cases eb : body ρ1 with
          | none => rw [ef, Option.bind_some, eb] at hf; cases hf
          | some rr =>
            obtain ⟨f1, ρ2⟩ := rr
            rw [ef, Option.bind_some, eb, Option.bind_some] at hf
            have e6 : fa (one a) (fa U W) = fa (fa (one a) W) U := by rw [fa_assoc, fa_comm W U]
            rw [e6] at w2
            refine ⟨P2, S2, fa (one a) W, U, ρi, ds[i], ρ1, w2, rd, ef, fun σ4 S4 w4 l4 k4 => ?_⟩
            have hσ4 : σ4[i0]? = some (some (.ref a)) := (k4 i0 hi0).trans h1
            have hks : ∀ j : Nat, kp[j]? = some true → ∃ v, σ4[j]? = some (some v) := fun j hj => by
              rcases hkS j hj with rfl | hj
              · exact ⟨_, hσ4⟩
              · obtain ⟨v, hv⟩ := E.hv j hj
                exact ⟨v, w4.kp j v hj hv⟩
            refine ⟨enOf E.xw P2 H3 S4 kp σ4 hks, rfl, P2, S4, ρ1, f1, ρ2, w4.frame kp hks, eb, ?_⟩
            have back : ∀ {σ' H' P' S' U'}, Wd c (enOf E.xw P2 H3 S4 kp σ4 hks) P' S' U' σ' H' ρ2 → Wd c E P' S' (fa (fa (one a) W) U') σ' H' ρ2 ∧ σ'[i0]? = some (some (.ref a)) ∧ H' a = some (.lst xs) := by
              intro σ' H' P' S' U' w'
              refine ⟨w4.unframe hks hkE w', ?_, ?_⟩
              · refine w'.kp i0 (.ref a) hk0 ?_
                show (σ4.map fun v => v.getD .non)[i0]? = some (.ref a)
                rw [List.getElem?_map, hσ4]; rfl
              · exact w4.keep w' a _ (by simp [fa, one]; omega) h2
            have step : ∀ {σ' H' P' S'}, Wd c (enOf E.xw P2 H3 S4 kp σ4 hks) P' S' fz σ' H' ρ2 → Ex P2 P' → forL f body (i0 :: kl) (ds.drop (i + 1)) (goneAt ρ2 (i0 :: kl)) = some r → ∃ P3 S3 Tr ρi, Wd c E P3 S3 (fa (one a) Tr) σ' H' ρi ∧ Ex P P3 ∧ σ'[i0]? = some (some (.ref a)) ∧ H' a = some (.lst xs) ∧ RepL c P3 H' (ds.drop (i + 1)) (xs.drop (i + 1)) Tr ∧ forL f body (i0 :: kl) (ds.drop (i + 1)) ρi = some r := by
              intro σ' H' P' S' w' x' hf'
              obtain ⟨w5, b1, b2⟩ := back w'
              rw [fa_fz] at w5
              obtain ⟨S6, w6⟩ := w5.forget (i0 :: kl)
              exact ⟨P', S6, W, _, w6, e2.trans x', b1, b2, RepL.mono x' _ _ W (fun b o hb ho => w4.keep w' b o (by simp only [fa]; omega) ho) rl, hf'⟩
            cases f1 with
            | nx =>
              intro σ' H' P' S' w' x'
              exact step w' x' hf
            | ct =>
              intro σ' H' P' S' w' x'
              exact step w' x' hf
            | bk =>
              cases hf
              cases hr
              intro σ' H' P' S' w' x'
              obtain ⟨w5, b1, b2⟩ := back w'
              obtain ⟨S6, w6⟩ := w5.forget (i0 :: kl)
              obtain ⟨S7, w7⟩ := fin w6 (fun b => by simp only [fa]; omega) b1 b2
              exact q σ' H' P' S7 w7 (e2.trans x')
            | rt d' =>
              cases hf
              cases hr
              intro v σ' H' P' S' U' w' rep
              obtain ⟨w5, _, _⟩ := back w'
              exact q v σ' H' P' S' U' (w5.shrink w5.env (fun b => by simp only [fa]; omega) (fun b => by simp only [fa]; omega) w5.kp) rep
            | ex n fs es =>
              cases hf
              cases hr
              intro v σ' H' P' S' U' w' x' rep
              obtain ⟨w5, _, _⟩ := back w'
              exact q v σ' H' P' S' U' (w5.shrink w5.env (fun b => by simp only [fa]; omega) (fun b => by simp only [fa]; omega) w5.kp) (e2.trans x') rep
      · rintro σi Hi ⟨P2, S2, Tr, ρi, w2, e2, h1, h2, h3, hf⟩
        rw [show ds.drop xs.length = [] from List.drop_eq_nil_of_le (by rw [hlen]; exact Nat.le_refl _)] at hf
        cases hf
        cases hr
        obtain ⟨S7, w7⟩ := fin w2 (fun b => by simp only [fa]; omega) h1 h2
        exact q σi Hi P2 S7 w7 e2
  · cases hm
theorem kpE {kp kp' : List Bool} (h : ((List.range kp.length).all fun i => kp[i]? != some true || kp'[i]? == some true) = true) (i : Nat) (hi : kp[i]? = some true) : kp'[i]? = some true := by
  have hl : i < kp.length := (List.getElem?_eq_some_iff.mp hi).1
  have := List.all_eq_true.mp h i (List.mem_range.mpr hl)
  simpa [hi] using this
theorem kpS {kp kp' : List Bool} {i0 : Nat} (h : ((List.range kp'.length).all fun i => kp'[i]? != some true || (i == i0 || kp[i]? == some true)) = true) (i : Nat) (hi : kp'[i]? = some true) : i = i0 ∨ kp[i]? = some true := by
  have hl : i < kp'.length := (List.getElem?_eq_some_iff.mp hi).1
  have := List.all_eq_true.mp h i (List.mem_range.mpr hl)
  simpa [hi] using this
section
variable {X : Cx} {cl : Nat → Addr} {E : En} {tg : Expr} {pos p : Pos} {x : Str}
theorem i_own (i : Nat) (hN : X.N[i]? = some x := by rfl) (hv : Vis X.env.scope x := by first | exact Or.inl rfl | exact Or.inr (Or.inl rfl) | exact Or.inr (Or.inr rfl)) (hd : (x == ("__debug__" : Str)) = false := by decide)
    (hcd : (x == ("__classdict__" : Str)) = false := by decide) : PI X tg (.Name x p) (tIO X.K i) := PI_imp (pi_list (pe_var hN hv hd hcd)) fun σ H R ⟨a, h1, h2, h3⟩ => ⟨.ref a, h1, a, rfl, h2, h3⟩
theorem s_forC (i0 : Nat) (kp : List Bool) {sb : List Stmt} {tl : List Nat} (kl : List Nat) {f : TgM} {body : SM} (hp : PassesOwn (model X.prog X.w) X.A X.env X.xe) (hc : X.calm = true) (hkE : ∀ i : Nat, E.kp[i]? = some true → kp[i]? = some true) (hkS : ∀ i : Nat, kp[i]? = some true → i = i0 ∨ E.kp[i]? = some true) (hk0 : kp[i0]? = some true) (hi0 : i0 ∉ tl)
    (hg : PG X tg (tPG ⟨X.K, cl, X.w⟩ E tl f)) (hb : ∀ E : En, E.kp = kp → PSs X sb (tS ⟨X.K, cl, X.w⟩ E body))
    (hN : X.N[i0]? = some x := by rfl) (hv : Vis X.env.scope x := by first | exact Or.inl rfl | exact Or.inr (Or.inl rfl) | exact Or.inr (Or.inr rfl)) (hd : (x == ("__debug__" : Str)) = false := by decide)
    (hcd : (x == ("__classdict__" : Str)) = false := by decide) (hs : ∀ y, foldedSetIterable (.Name x p) X.env y = pure y := by intro _; rfl) : PS X (.For tg (.Name x p) sb [] pos) (tS ⟨X.K, cl, X.w⟩ E (forCM i0 f body kl)) :=
  PS_imp (ps_for hp hc (i_own i0 hN hv hd hcd) hg ⟨fun pins s σ H D I ⟨E', h1, h2⟩ => (hb E' h1).run pins s σ H D I h2⟩ hs) fun _ _ _ h => forC_run hkE hkS hk0 hi0 h
end
end LI

namespace LI
open PySem L2
def tupO (ms : AGM) : GM := fun ρ => (ms ρ).bind fun s => if s.1.length ≤ LIM then some (.tup s.1, s.2) else none
section
variable {X : Cx} {cl : Nat → Addr} {E : En} {es : List Expr} {pos : Pos} {ms : AGM}
theorem g_tupO {x1} (h : PA X es (tAO ⟨X.K, cl, X.w⟩ E ms)) : PE X (.Tuple es x1 pos) (tG ⟨X.K, cl, X.w⟩ E (tupO ms)) := PE_imp (pe_tup h) fun σ H Q ⟨P, S, T, ρ, d, ρ', w, hm, q⟩ => by
  unfold tupO at hm
  cases e1 : ms ρ with
  | none => rw [e1] at hm; cases hm
  | some s =>
    obtain ⟨ds, ρ1⟩ := s
    rw [e1, Option.bind_some] at hm
    dsimp only at hm
    split at hm
    · rename_i hl
      cases hm
      refine ⟨P, S, T, ρ, ds, _, w, e1, fun vs H1 P1 S1 U w1 x1 r1 k1 => ⟨by rw [← r1.length]; exact lim_le hl, fun p hp => ?_⟩⟩
      have hP : P1 p = none := none_of w1.ph hp
      have g2 : Gr P1 H1 (upd P1 p (.tup vs)) (upd H1 p (.tup vs)) := ⟨ex_new hP, ex_new hp, fun a o z => by
        by_cases q : a = p
        · subst q; rw [upd_same] at z ⊢; exact z
        · rw [upd_ne q] at z ⊢; exact w1.ph a o z, fun a z => by
        by_cases q : a = p
        · subst q; exact .inr hp
        · rw [upd_ne q] at z; exact .inl z⟩
      have w2 := w1.grow g2
      exact q (.ref p) _ _ S1 U w2 (x1.trans (ex_new hP)) ⟨p, vs, rfl, .inl (.inl upd_same), RepL.mono (ex_new hP) ds vs U (fun a o z h => ex_new hp _ _ h) r1⟩ fun a o z1 z2 => ex_new hp _ _ (k1 a o z1 z2)
    · cases hm
end
section
variable {X : Cx} {cl : Nat → Addr} {E : En} {o : Expr} {pos apos : Pos} {g : GM}
end
def eGn (_ : Unit) : D := .gone
section
variable {α β σ τ : Type} {Q : Fl → List D → τ → Prop} {e : α → D} {r body : SM} {ρ : List D} {k : σ → Option τ} {f : TgM} {kl : List Nat}
theorem eg_tupO {ms : AGM} {et env : τ → List D} {o : Option τ} {f : β → D} (k : τ → β) (h : Eao et env ms ρ o) (hk : ∀ x, f (k x) = .tup (et x)) (hl : ∀ x, (et x).length ≤ LIM) : Eg (fun p : β × τ => f p.1) (fun p => env p.2) (tupO ms) ρ (o.bind fun x => some (k x, x)) := fun p hp => by
  obtain ⟨x, h3, h4⟩ := ob_some hp
  cases h4
  unfold tupO
  rw [h x h3, Option.bind_some]
  show (if (et x).length ≤ LIM then _ else none) = _
  rw [if_pos (hl x)]
  dsimp only
  rw [hk]
theorem forCM_at {i0 : Nat} {ds : List D} (h : ρ[i0]? = some (.lst true ds)) : forCM i0 f body kl ρ = (forL f body (i0 :: kl) ds (ρ.set i0 .gone)).map (forCE i0 ds.length) := by unfold forCM; rw [h]
end
end LI

namespace LI
open PySem L2
section
variable {X : Cx} {cl : Nat → Addr} {E : En} {tg e2 : Expr} {pos p p2 tpos : Pos} {x : Str} {elts : List Expr} {kk : Nat} {m2 : RM}
end
section
variable {α β σ τ : Type} {Q : Fl → List D → τ → Prop} {e : α → D} {e2 : β → D} {r body : SM} {ρ : List D} {k : σ → Option τ} {f : TgM} {kl : List Nat} {mb : RM}
end
end LI

namespace LI
open PySem L2
def tupL (j : Nat) (L : Lens) : Lens := ⟨fun ρ => (L.get ρ).bind fun d => match d with
    | .tup ds => (ds[j]?).bind fun d => if notGone d = true then some d else none
    | _ => none,
  fun ρ d2 => match L.get ρ with
    | some (.tup ds) => L.put ρ (.tup (ds.set j d2))
    | _ => ρ⟩
section
variable {L : Lens}
theorem tup_split {j : Nat} {ρ : List D} {d : D} (h : (tupL j L).get ρ = some d) : ∃ ds, L.get ρ = some (.tup ds) ∧ ds[j]? = some d ∧ notGone d = true ∧ ∀ d2, (tupL j L).put ρ d2 = L.put ρ (.tup (ds.set j d2)) := by
  unfold tupL at h
  cases e1 : L.get ρ with
  | none => simp [e1] at h
  | some d0 =>
    simp only [e1, Option.bind_some] at h
    split at h
    · rename_i ds
      cases e3 : ds[j]? with
      | none => rw [e3] at h; cases h
      | some d1 =>
        rw [e3, Option.bind_some] at h
        split at h
        · rename_i hn
          cases h
          exact ⟨ds, rfl, e3, hn, fun d2 => by simp [tupL, e1]⟩
        · cases h
    · cases h
theorem ixN_nat {n j : Nat} (h : j < n) : ixN n (j : Int) = some j := by
  unfold ixN
  simp [h]
end
section
variable {X : Cx} {cl : Nat → Addr} {E : En} {a : Expr} {pos p2 : Pos} {L : Lens}
theorem p_tix (j : Nat) {i : Int} {jj} (ha : PE X a (tPl ⟨X.K, cl, X.w⟩ E L)) (hi : i = (j : Int) := by rfl) (hs : PlainIx (.Constant (.int i) jj p2) := by exact fun _ _ => rfl) : PE X (.Subscript a (.Constant (.int i) jj p2) pos) (tPl ⟨X.K, cl, X.w⟩ E (tupL j L)) :=
  PE_imp (pe_ix ix_seq ha pe_int hs) fun σ H Q ⟨P, S, T, ρ, d, w, hg, q⟩ => by
    obtain ⟨ds, h1, h4, h5, h6⟩ := tup_split hg
    refine ⟨P, S, T, ρ, _, w, h1, fun v Sd R l => ?_⟩
    obtain ⟨p, xs, e1, hh, rl⟩ := l.rep
    obtain ⟨z, S1, R1, k1, k2, k3, k4⟩ := rl.focus h4
    refine .inr (.inl ⟨p, xs, i, z, e1, rfl, sqt_mono w.ph hh, ?_, q z S1 (fa R1 R) ⟨fun b => ?_, k2, fun P2 H2 d2 S2 ep kr r2 => ?_⟩⟩)
    · unfold atI; rw [hi, ixN_nat (List.getElem?_eq_some_iff.mp k1).1]; exact k1
    · have := l.sum b; have := k3 b; simp only [fa]; omega
    · rw [h6]
      have rl2 := k4 P2 H2 d2 z S2 ep (fun b u z1 z2 => kr b u (by simp only [fa]; omega) z2) r2
      have e2 : xs.set j z = xs := by
        apply List.ext_getElem?
        intro t
        by_cases ht : t = j
        · subst ht; rw [k1, List.getElem?_set_self (List.getElem?_eq_some_iff.mp k1).1]
        · rw [List.getElem?_set_ne (Ne.symm ht)]
      rw [e2] at rl2
      have := l.put P2 H2 (.tup (ds.set j d2)) (fa S2 R1) ep (fun b u z1 z2 => kr b u (by simp only [fa]; omega) z2) ⟨p, xs, e1, sqt_mono ep hh, rl2⟩
      rw [fa_assoc] at this
      exact this
end
section
variable {X : Cx} {cl : Nat → Addr} {E : En} {e : Expr} {pos apos : Pos} {g : GM}
end
section
variable {X : Cx} {cl : Nat → Addr} {E : En} {tg : Expr} {pos p p2 p3 : Pos} {x : Str}
end
section
variable {X : Cx} {cl : Nat → Addr} {E : En} {e : Expr} {m : RM}
end
section
variable {α β σ τ : Type} {Q : Fl → List D → τ → Prop} {e : α → D} {r body : SM} {ρ : List D} {k : σ → Option τ} {f : TgM} {kl : List Nat}
end
end LI

namespace LI
open PySem L2
section
variable {X : Cx} {cl : Nat → Addr} {E : En} {pos : Pos}
end
end LI

namespace LI
open PySem L2
section
variable {X : Cx} {cl : Nat → Addr} {E : En} {e a b : Expr} {es : List Expr} {pos : Pos} {m ma mb : RM} {ms : AM}
end
end LI
namespace LI
open PySem L2
section
variable {X : Cx} {cl : Nat → Addr} {E : En} {e o i : Expr} {pos pos' : Pos} {mi : RM} {g : GM} {L : Lens}
end
section
variable {α β γ σ τ κ : Type} {Q : Fl → List D → τ → Prop} {e : α → D} {env : α → List D} {m : SM} {ρ : List D} {L : Lens} {mi : RM} {g : GM} {o : Option α}
end
end LI

namespace LI
open PySem L2
structure IsC (K : PySem.W.Frag) (C C2 : Addr) (b : Bool) : Prop where
  cl : Cls K C
  ha : PySem.W.findIn K (.ref C) "__class__" = some (some (.builtin "object.__class__"))
  hn : PySem.W.specialIn K (.builtin "object.__class__") "__get__" = some (some (.builtin "getset_descriptor.__get__"))
  htk : PySem.W.takesIn K (.builtin "object.__class__") = some true
  hm : PySem.W.mroIn K C (.type "object") = some true
  me : PySem.W.kitOne K (.ref C) (.ref C2) = some b
def isiCM (n : Nat) (b : Bool) (m : RM) : RM := fun ρ => (m ρ).bind fun d => match d with
  | .obj _ k _ _ => if k = n then some (.bl b) else none
  | _ => none
theorem obj_heapC {c : LC} {P H : Hp} (e : Ex P H) {o : Bool} {k : Nat} {fs : List Str} {ds : List D} {v : V} {U : FP} (r : Rep c P H (.obj o k fs ds) v U) : ∃ a dx gs, v = .ref a ∧ H a = some (.ins (c.cl k) dx gs) := by
  cases o with
  | true => obtain ⟨a, dx, xs, T, e1, h, _⟩ := r; exact ⟨a, dx, _, e1, h⟩
  | false => obtain ⟨a, dx, xs, e1, h, _⟩ := r; exact ⟨a, dx, _, e1, e _ _ h⟩
section
variable {X : Cx} {cl : Nat → Addr} {E : En} {a : Expr} {pos p p2 : Pos} {ma : RM}
theorem f_isiC (n n2 : Nat) (b : Bool) {y : Str} (ha : PE X a (tR ⟨X.K, cl, X.w⟩ E ma)) (I : IsC X.K (cl n) (cl n2) b) (gC : X.mg y = some (.ref (cl n2))) (hm : X.mg "isinstance" = none) (hgy : Gl X y := by rfl) (hg : Gl X "isinstance" := by rfl) (hd : (y == ("__debug__" : Str)) = false := by decide)
    (hs1 : starEach [a, .Name y p2] X.env = (false, eval a X.env) :: starEach [.Name y p2] X.env := by rfl) (hs2 : starEach [.Name y p2] X.env = (false, eval (.Name y p2) X.env) :: starEach [] X.env := by rfl) (hpl : (backTo pos (starEach [.Name y p2] X.env)).any (·.1) = false := by rfl) :
    PE X (.Call (.Name "isinstance" p) [a, .Name y p2] [] pos) (tF ⟨X.K, cl, X.w⟩ E (isiCM n b ma)) :=
  PE_imp (pe_callB call_isi hg hm (by decide +kernel) (pa_cons ha (pa_cons (pe_glob (v := .ref (cl n2)) hgy gC rfl hd) pa_nil hs2) hs1) (by decide) (by decide) hs1 hpl) fun σ H Q ⟨P, S, T, ρ, d, w, h, q⟩ => by
    unfold isiCM at h
    cases ea : ma ρ with
    | none => rw [ea] at h; cases h
    | some da =>
      rw [ea, Option.bind_some] at h
      cases da with
      | obj o k fs ds =>
        dsimp only at h
        split at h
        · rename_i hk
          subst hk
          cases h
          refine ⟨P, S, T, ρ, _, w, ea, fun v H1 P1 U1 g1 r1 => ?_⟩
          obtain ⟨x, dx, gs, rfl, hx⟩ := obj_heapC g1.ph r1
          exact ⟨.ref x, .ref (cl n2), .ref (cl k), .ref (cl n2), b, rfl, .own _, .base (.ins hx I.cl I.ha I.hn I.htk I.hm), I.me, (q.grow g1).flat g1.ph ⟨rfl, rfl⟩⟩
        · cases h
      | _ => cases h
end
@[simp] theorem ev_isiC {n : Nat} {b : Bool} {m : RM} {ρ : List D} : isiCM n b m ρ = (m ρ).bind fun d => match d with
  | .obj _ k _ _ => if k = n then some (.bl b) else none
  | _ => none := (rfl)
theorem x_isC {α : Type} {e : α → D} {n : Nat} {b : Bool} {m : RM} {ρ : List D} {o : Option α} (he : ∀ x, ∃ k fs ds, e x = .obj k n fs ds) (h : Ev e m ρ o) : Ev eB (isiCM n b m) ρ (o.bind fun _ => some b) := fun z hz => by
  obtain ⟨x, h1, h2⟩ := ob_some hz; cases h2
  obtain ⟨k, fs, ds, h3⟩ := he x
  rw [ev_isiC, h x h1, h3, Option.bind_some]
  dsimp only
  rw [if_pos rfl]; rfl
section
variable {X : Cx} {cl : Nat → Addr} {E : En} {e : Expr} {pos apos : Pos} {g : GM}
end
section
variable {α β σ τ : Type} {Q : Fl → List D → τ → Prop} {e : α → D} {env : α → List D} {m : SM} {ρ : List D} {L : Lens} {mi : RM} {g : GM} {o : Option α}
end
end LI

namespace LI
open PySem L2
def viewM (i : Nat) (m : RM) : RM := fun ρ => match ρ[i]? with
  | some d0 => if notGone d0 = true then (m (ρ.set i (ice d0))).bind fun d => if noIce d = true then some d else none else none
  | none => none
def viewsM : List Nat → RM → RM
  | [], m => m
  | i :: is, m => viewM i (viewsM is m)
theorem view_run {c : LC} {E : En} {i : Nat} {m : RM} {σ : L2.St} {H : Hp} {Q : VK} (h : tF c E (viewM i m) σ H Q) : tF c E m σ H Q := by
  obtain ⟨P, S, T, ρ, d, w, hm, q⟩ := h
  unfold viewM at hm
  split at hm
  · rename_i d0 hi
    split at hm
    · rename_i hn
      cases e1 : m (ρ.set i (ice d0)) with
      | none => rw [e1] at hm; cases hm
      | some d1 =>
        rw [e1, Option.bind_some] at hm
        split at hm
        · rename_i hz
          cases hm
          obtain ⟨v, Sd, R, hσ, hrep, hsum, hput⟩ := w.env.focus hi hn
          have henv := hput (coldP Sd P H) H (ice d0) fz (coldP_p w.ph) (fun _ _ _ h => h) (Rep.ice (coldP_p w.ph) d0 v Sd (fun a o h1 h2 => by unfold coldP; rw [if_pos h1]; exact h2) hrep)
          have w2 : Wd c E (coldP Sd P H) (fa fz R) T σ H (ρ.set i (ice d0)) := by
            refine ⟨henv, fun a => ?_, fun a h => ?_, w.th, coldP_h w.ph, w.p0.trans (coldP_p w.ph), w.fr, fun a h => ?_, fun a h => w.ns a (by have := hsum a; simp only [fa, fz] at h; omega), w.kp⟩
            · have := w.le a; have := hsum a; simp only [fa, fz]; omega
            · have h1 := w.le a
              have h2 := hsum a
              simp only [fa, fz] at h
              unfold coldP
              rw [if_neg (by omega)]
              exact w.out a (by omega)
            · by_cases hs : 0 < Sd a
              · exact .inr (w.ns a (by have := hsum a; omega))
              · unfold coldP at h
                rw [if_neg hs] at h
                exact w.np a h
          refine ⟨coldP Sd P H, fa fz R, T, _, d, w2, e1, fun v1 H' P2 U g r u1 u2 => ?_⟩
          have hP : ∀ a, ¬ 0 < Sd a → coldP Sd P H a = P a := fun a h => by unfold coldP; rw [if_neg h]
          refine q v1 H' (fun a => if 0 < Sd a then P a else P2 a) U ⟨fun a o h => ?_, g.h, fun a o h => ?_, fun a h => ?_⟩ (Rep.thaw (fun b o h1 h2 => ?_) d v1 U hz r) u1 fun a h => ?_
          · by_cases hs : 0 < Sd a
            · rw [if_pos hs]; exact h
            · rw [if_neg hs]; exact g.p a o (by rw [hP a hs]; exact h)
          · by_cases hs : 0 < Sd a
            · rw [if_pos hs] at h; exact g.h a o (w.ph a o h)
            · rw [if_neg hs] at h; exact g.ph a o h
          · by_cases hs : 0 < Sd a
            · rw [if_pos hs] at h; exact .inl h
            · rw [if_neg hs] at h
              rcases g.new a h with z | z
              · rw [hP a hs] at z; exact .inl z
              · exact .inr z
          · by_cases hs : 0 < Sd b
            · obtain ⟨o2, k1, k2⟩ := Rep.nt d0 v Sd hrep b hs
              have k3 := g.h b o2 k1
              rw [g.ph b o h1] at k3
              cases k3
              rw [h2] at k2; cases k2
            · rw [if_neg hs]; exact h1
          · obtain ⟨k1, k2⟩ := u2 a h
            refine ⟨k1, ?_⟩
            rw [if_neg (fun hs => Rep.there d0 v Sd hrep a hs k1)]
            exact k2
        · cases hm
    · cases hm
  · cases hm
theorem views_run {c : LC} {E : En} {m : RM} {σ : L2.St} {H : Hp} {Q : VK} : ∀ {is : List Nat}, tF c E (viewsM is m) σ H Q → tF c E m σ H Q
  | [], h => h
  | _ :: _, h => views_run (view_run h)
section
variable {X : Cx} {cl : Nat → Addr} {E : En} {e o : Expr} {pos apos : Pos} {m : RM} {L : Lens}
theorem f_view (is : List Nat) (h : PE X e (tF ⟨X.K, cl, X.w⟩ E m)) : PE X e (tF ⟨X.K, cl, X.w⟩ E (viewsM is m)) := PE_imp h fun _ _ _ h => views_run h
def clearO (L : Lens) : GM := fun ρ => (L.get ρ).bind fun d => match d with
  | .lst true ds => some (.non, L.put ρ (.lst true []))
  | _ => none
theorem g_clearO (he : PE X o (tPl ⟨X.K, cl, X.w⟩ E L)) (hbase : attributeBase o "clear" X.env (eval o X.env) = eval o X.env := by rfl) (hline : (apos.endLine == pos.line) = true := by rfl) : PE X (.Call (.Attribute o "clear" apos) [] [] pos) (tG ⟨X.K, cl, X.w⟩ E (clearO L)) :=
  PE_imp (pe_bm0 PySem.F.plainAttrs_list PySem.F.slot_list_clear PySem.F.type_list_clear mt_clear he hbase hline) fun σ H Q ⟨P, S, T, ρ, d, ρ', w, hm, q⟩ => by
    unfold clearO at hm
    cases e1 : L.get ρ with
    | none => rw [e1] at hm; cases hm
    | some d0 =>
      rw [e1, Option.bind_some] at hm
      split at hm
      · rename_i ds
        cases hm
        refine ⟨P, S, T, ρ, _, w, e1, fun v Sd R l => ?_⟩
        obtain ⟨a, xs, T1, ev, hh, rl, hf⟩ := l.rep
        have hS : ∀ b, Sd b = one a b + T1 b := fun b => by rw [hf]; rfl
        have w' : Wd ⟨X.K, cl, X.w⟩ E P S (fa T fz) σ H ρ := by rw [fa_fz]; exact w
        have kp := fun o => keep_own w l hS o
        have hu : ∀ b, 0 < T1 b + fz b → H b ≠ none := fun b hb => RepL.there _ _ T1 rl b (by simpa [fz] using hb)
        have w2 := loc_own w' l hS hu (.lst []) (.lst true []) fz fz ⟨a, _, _, ev, upd_same, ⟨rfl, rfl⟩, rfl⟩ (fun b => by simp only [fz]; omega)
        refine ⟨by rw [ev]; exact .inl ⟨rfl, xs, .inl (.inl hh)⟩, a, xs, ev, rfl, hh, ?_⟩
        exact q .non _ P _ fz w2 (.refl _) ⟨rfl, rfl⟩ fun b u hb hu => kp _ b u (by omega) hu
      · cases hm
end
section
variable {α β : Type} {ρ : List D} {L : Lens} {m : RM}
theorem x_view {i : Nat} {is : List Nat} {e0 e' : α → D} [Ic e0 e'] [Ng e0] {x : α} {f : β → D} [Nic f] {o : Option β} (hi : ρ[i]? = some (e0 x)) (h : Ev f (viewsM is m) (ρ.set i (e' x)) o) : Ev f (viewsM (i :: is) m) ρ o := fun z hz => by
  show viewM i (viewsM is m) ρ = _
  unfold viewM
  rw [hi]
  dsimp only
  rw [if_pos (Ng.ng x), Ic.ic x, h z hz, Option.bind_some, if_pos (Nic.ni z)]
end
section
variable {α β γ δ ε ζ : Type} {a : α → D} {b : β → D} {c : γ → D} {d : δ → D} {e : ε → D} {f : ζ → D}
end
end LI

namespace LI
open PySem L2
end LI

namespace LI
open PySem L2
section
variable {X : Cx} {cl : Nat → Addr} {E : En} {e o : Expr} {pos apos : Pos} {m mo : RM}
end
section
variable {X : Cx} {cl : Nat → Addr} {E : En} {e o : Expr} {pos apos : Pos} {m mo : RM}
end
end LI

namespace LI
open PySem L2
section
variable {X : Cx}
end
section
variable {X : Cx} {cl : Nat → Addr} {E : En} {pos pos2 : Pos}
end
end LI

namespace LI
open PySem PySem.Spec PyProof.Rows L2

structure NOk (K : PySem.W.Frag) (H : Hp) (a : Addr) (l : List (NestedKey × Addr × V)) : Prop where
  ne : (a == sysModules) = false
  le : l.length ≤ sizeLine
  nd : (l.map (·.1)).Nodup
  at_ : ∀ p ∈ l, NkRep K H p.1 (.ref p.2.1) ∧ p.1.depth ≤ 8
abbrev KN : List (NestedKey × Addr × V) → List (NestedKey × Addr × Value) → Prop := Paired fun p q => p.1 = q.1 ∧ p.2.1 = q.2.1 ∧ RelV p.2.2 q.2.2
def valN (l : List (NestedKey × Addr × V)) (k : NestedKey) : Option V := valV (l.map fun p => (p.1, p.2.2)) k
def putN (l : List (NestedKey × Addr × V)) (k : NestedKey) (b : Addr) (v : V) : List (NestedKey × Addr × V) :=
  if (l.any fun p => decide (p.1 = k)) = true then l.map (fun p => if p.1 = k then (p.1, p.2.1, v) else p) else l ++ [(k, b, v)]
section
variable {X : Cx} {pins : List (Addr × Obj)} {σ : L2.St} {H : Hp} {s : Shared}
mutual
theorem nk_is (I : Inv X pins σ H s) : ∀ (k : NestedKey) (v : V) (u : Value), NkRep X.K H k v → RelV v u → NestedIs s.heap k u
  | .none, v, u, h, r => by
    cases (show v = V.non from h)
    cases (show u = Value.none from r)
    exact .none
  | .num i, v, u, h, r => by
    cases (show v = V.int i from h)
    obtain ⟨t, q⟩ := (show ∃ t, u = Value.int i t from r)
    subst q
    exact .int i t
  | .text x, v, u, h, r => by
    cases (show v = V.str x from h)
    obtain ⟨t, q⟩ := (show ∃ t, u = Value.str x t from r)
    subst q
    exact .text x t
  | .tup ks, v, u, ⟨a, xs, e, q, h⟩, r => by
    subst e
    cases (show u = Value.ref a from r)
    obtain ⟨its, rv, ⟨o, h1, h2, n, h3⟩, _⟩ := I.tuple q
    exact .tup h1 h2 h3 (by simpa using nk_all I ks xs its h rv)
theorem nk_all (I : Inv X pins σ H s) : ∀ (ks : List NestedKey) (vs : List V) (us : List Value), NkAll X.K H ks vs → Vals vs us → NestedAll s.heap ks us
  | [], vs, us, h, r => by
    cases (show vs = [] from h)
    cases r
    exact .nil
  | k :: ks, vs, us, ⟨y, ys, e, h1, h2⟩, r => by
    subst e
    cases r with
    | cons r1 r2 => exact .cons (nk_is I k y _ h1 r1) (nk_all I ks ys _ h2 r2)
end
theorem nk_key (I : Inv X pins σ H s) {k : NestedKey} {b : Addr} (h : NkRep X.K H k (.ref b)) (hd : k.depth ≤ 8) : (nestedKind X.prog X.w).is s.heap k b := ⟨nk_is I k _ _ h rfl, hd⟩
theorem kn_of (w : World) : ∀ {l : List (NestedKey × Addr × V)} {es : List DictEntry}, DnE w l es → ∃ xs, KN l xs ∧ es = xs.map fun x => ⟨x.1.hash w, .ref x.2.1, x.2.2⟩
  | [], _, h => by cases h; exact ⟨[], .nil, rfl⟩
  | p :: l, _, h => by
    cases h with
    | @cons _ e _ es h1 h2 =>
      obtain ⟨xs, r, q⟩ := kn_of w h2
      obtain ⟨e1, e2, e3⟩ := h1
      refine ⟨(p.1, p.2.1, e.val) :: xs, .cons ⟨rfl, rfl, e3⟩ r, ?_⟩
      rw [List.map_cons, ← q]
      congr 1
      obtain ⟨eh, ek, ev⟩ := e
      simp only at e1 e2
      rw [e1, e2]
theorem kn_keys : ∀ {l : List (NestedKey × Addr × V)} {xs : List (NestedKey × Addr × Value)}, KN l xs → l.map (·.1) = xs.map (·.1)
  | [], _, h => by cases h; rfl
  | p :: l, _, h => by
    cases h with
    | cons h1 h2 => rw [List.map_cons, List.map_cons, h1.1, kn_keys h2]
theorem kn_mem : ∀ {l : List (NestedKey × Addr × V)} {xs : List (NestedKey × Addr × Value)}, KN l xs → ∀ x ∈ xs, ∃ p ∈ l, p.1 = x.1 ∧ p.2.1 = x.2.1
  | [], _, h => by cases h; intro x hx; simp at hx
  | p :: l, _, h => by
    cases h with
    | cons h1 h2 =>
      intro x hx
      rcases List.mem_cons.mp hx with e | hx
      · subst e; exact ⟨p, List.mem_cons_self, h1.1, h1.2.1⟩
      · obtain ⟨q, m, r⟩ := kn_mem h2 x hx
        exact ⟨q, List.mem_cons_of_mem _ m, r⟩
theorem kn_val (k : NestedKey) : ∀ {l : List (NestedKey × Addr × V)} {xs : List (NestedKey × Addr × Value)}, KN l xs → RelO (valN l k) ((atKey xs k).map (·.2))
  | [], _, h => by cases h; exact True.intro
  | p :: l, _, h => by
    cases h with
    | @cons _ q _ qs h1 h2 =>
      obtain ⟨e1, _, e3⟩ := h1
      by_cases e : p.1 = k
      · have e' : q.1 = k := e1.symm.trans e
        have b : atKey (q :: qs) k = some q.2 := by simp [atKey, List.find?_cons, e']
        unfold valN
        rw [List.map_cons, valV_pos (p := (p.1, p.2.2)) e, b]; exact e3
      · have e' : ¬ q.1 = k := fun z => e (e1.trans z)
        have b : atKey (q :: qs) k = atKey qs k := by simp [atKey, List.find?_cons, e']
        unfold valN
        rw [List.map_cons, valV_neg (p := (p.1, p.2.2)) e, b]; exact kn_val k h2
theorem dn_of {a : Addr} {l : List (NestedKey × Addr × V)} (I : Inv X pins σ H s) (h : DnAt X.w H a l) (o : NOk X.K H a l) : ∃ xs, KN l xs ∧ s.heap.DictOfH (nestedKind X.prog X.w) a xs := by
  obtain ⟨ob, ha, h2, es, ep, h3, h4⟩ := h
  have h1 : s.heap.get? a = some ob := (show ObjOk X.prog X.w H s.heap a (exO a ob) from I.hok a _ ha).1
  obtain ⟨xs, r, q⟩ := kn_of X.w h4
  refine ⟨xs, r, ob, es, ep, h1, h2, h3, q, fun x hx => ?_, ?_⟩
  · obtain ⟨p, m, e1, e2⟩ := kn_mem r x hx
    have := o.at_ p m
    rw [e1, e2] at this
    exact nk_key I this.1 this.2
  · rw [← kn_keys r]; exact o.nd
def DGetN (K : PySem.W.Frag) (w : World) (H : Hp) (a : Addr) (y : V) (r : Option V) : Prop :=
  ∃ l k b, DnAt w H a l ∧ NOk K H a l ∧ y = .ref b ∧ NkRep K H k (.ref b) ∧ k.depth ≤ 8 ∧ r = valN l k
def DPutN (K : PySem.W.Frag) (w : World) (H : Hp) (a : Addr) (y v : V) (R : Hp → Prop) : Prop :=
  ∃ l k b, DnAt w H a l ∧ NOk K H a l ∧ y = .ref b ∧ NkRep K H k (.ref b) ∧ k.depth ≤ 8 ∧ l.length < sizeLine ∧ ∀ o, DnObj w (putN l k b v) o → R (upd H a (exO a o))
def IsDN (K : PySem.W.Frag) (w : World) (H : Hp) (a : Addr) : Prop := ∃ l, DnAt w H a l ∧ NOk K H a l
theorem nroom {A : Around} (hu : A.units + 9 < cLine) : (nestedKind X.prog X.w).room A.in1 := by show A.units + 1 + 8 < cLine; omega
variable {a : Addr} {y v d : V} {u r : Value} {o : Option V} {A : Around} {E : Value → Shared → Prop}
theorem isDN_at (I : Inv X pins σ H s) (g : IsDN X.K X.w H a) : s.TypeIs (.ref a) "dict" ∧ (∀ b, Value.ref a = .ref b → ∃ ob, s.heap.get? b = some ob ∧ ob.dict = none) ∧ (a == sysModules) = false := by
  obtain ⟨l, e, ok⟩ := g
  obtain ⟨xs, _, dd⟩ := dn_of I e ok
  refine ⟨dd.typeIs, fun b q => ?_, ok.ne⟩
  cases q
  obtain ⟨ob, _, _, h1, h2, _⟩ := dd
  exact ⟨ob, h1, h2.2.1⟩
theorem DGetN.is (g : DGetN X.K X.w H a y o) : IsDN X.K X.w H a := by
  obtain ⟨l, _, _, e, ok, _⟩ := g
  exact ⟨l, e, ok⟩
theorem dn_getItem {Q : Value → Shared → Prop} (hu : A.units + 9 < cLine) (I : Inv X pins σ H s) (g : DGetN X.K X.w H a y (some v)) (ry : RelV y u) (h : ∀ w' s', Inv X pins σ H s' → RelV v w' → Q w' s') :
    wpAny (model X.prog X.w) A (getItem (.ref a) u) Q E s := by
  obtain ⟨l, k, b, e, ok, ey, hk, hd, q⟩ := g
  subst ey
  cases (show u = Value.ref b from ry)
  obtain ⟨xs, rel, dd⟩ := dn_of I e ok
  obtain ⟨w', hw, rw'⟩ := RelO.some_of (v := v) (o := (atKey xs k).map (·.2)) (by rw [q]; exact kn_val k rel)
  obtain ⟨p, hp, hp2⟩ := Option.map_eq_some_iff.mp hw
  refine wpAny_getItem_heap (nroom hu) (nk_key I hk hd) dd hp ?_
  rw [hp2]
  exact h w' _ (I.tok _) rw'
theorem dn_notIn {Q : Value → Shared → Prop} (hu : A.units + 9 < cLine) (I : Inv X pins σ H s) (g : DGetN X.K X.w H a y o) (ry : RelV y u) (h : ∀ s', Inv X pins σ H s' → Q (.bool (!o.isSome)) s') :
    wpAny (model X.prog X.w) A (compareOp .NotIn u (.ref a)) Q E s := by
  obtain ⟨l, k, b, e, ok, ey, hk, hd, q⟩ := g
  subst ey
  cases (show u = Value.ref b from ry)
  obtain ⟨xs, rel, dd⟩ := dn_of I e ok
  refine wpAny_notIn_heap (nroom hu) (nk_key I hk hd) ok.ne dd ?_
  have z := (kn_val k rel).isSome_eq
  rw [Option.isSome_map] at z
  rw [← z, ← q]
  exact h _ (I.tok _)
theorem dn_get2 {Q : Value → Shared → Prop} (hu : A.units + 9 < cLine) (I : Inv X pins σ H s) (g : DGetN X.K X.w H a y o) (ry : RelV y u) (rd : RelV d r) (h : ∀ w' s', Inv X pins σ H s' → RelV (o.getD d) w' → Q w' s') :
    wpAny (model X.prog X.w) A (call (.builtin "dict.get") [.ref a, u, r]) Q E s := by
  obtain ⟨l, k, b, e, ok, ey, hk, hd, q⟩ := g
  subst ey
  cases (show u = Value.ref b from ry)
  obtain ⟨xs, rel, dd⟩ := dn_of I e ok
  refine call_meetsIn PySem.F.slot_dict_get dd.typeIs PySem.F.entry_dict_get (PySem.F.args_dict_get_3 _ _ _) (meetsH_dict_get_default (nestedKind X.prog X.w) a b ok.ne r) ⟨nroom hu, k, xs, nk_key I hk hd, dd, h _ _ (I.tok _) ?_⟩
  rw [q]
  exact (kn_val k rel).getD rd
theorem kn_any (k : NestedKey) : ∀ {l : List (NestedKey × Addr × V)} {xs : List (NestedKey × Addr × Value)}, KN l xs → (l.any fun p => decide (p.1 = k)) = (atKey xs k).isSome
  | [], _, h => by cases h; rfl
  | p :: l, _, h => by
    cases h with
    | @cons _ q _ qs h1 h2 =>
      rw [List.any_cons, kn_any k h2]
      by_cases e : p.1 = k
      · have e' : q.1 = k := h1.1.symm.trans e
        simp [atKey, List.find?_cons, e, e']
      · have e' : ¬ q.1 = k := fun z => e (h1.1.trans z)
        simp [atKey, List.find?_cons, e, e']
theorem kn_repl (k : NestedKey) {z : V} {zu : Value} (rz : RelV z zu) : ∀ {l : List (NestedKey × Addr × V)} {xs : List (NestedKey × Addr × Value)}, KN l xs → KN (l.map fun p => if p.1 = k then (p.1, p.2.1, z) else p) (xs.map (putAt k zu))
  | [], _, h => by cases h; exact .nil
  | p :: l, _, h => by
    cases h with
    | @cons _ q _ qs h1 h2 =>
      rw [List.map_cons, List.map_cons]
      refine .cons ?_ (kn_repl k rz h2)
      obtain ⟨e1, e2, e3⟩ := h1
      unfold putAt
      by_cases e : p.1 = k
      · rw [if_pos e, if_pos (e1.symm.trans e)]; exact ⟨e1, e2, rz⟩
      · rw [if_neg e, if_neg (fun z => e (e1.trans z))]; exact ⟨e1, e2, e3⟩
theorem kn_put {l : List (NestedKey × Addr × V)} {xs : List (NestedKey × Addr × Value)} (rel : KN l xs) (k : NestedKey) (b : Addr) {z : V} {zu : Value} (rz : RelV z zu) : KN (putN l k b z) (storedH xs k b zu) := by
  unfold putN storedH
  rw [kn_any k rel]
  by_cases q : (atKey xs k).isSome = true
  · rw [if_pos q, if_pos q]; exact kn_repl k rz rel
  · rw [if_neg q, if_neg q]; exact Paired.snoc rel ⟨rfl, rfl, rz⟩
theorem dnE_of (w : World) : ∀ {l : List (NestedKey × Addr × V)} {xs : List (NestedKey × Addr × Value)}, KN l xs → DnE w l (xs.map fun x => ⟨x.1.hash w, .ref x.2.1, x.2.2⟩)
  | [], _, h => by cases h; exact .nil
  | p :: l, _, h => by
    cases h with
    | @cons _ q _ qs h1 h2 =>
      rw [List.map_cons]
      refine .cons ⟨by rw [h1.1], by rw [h1.2.1], h1.2.2⟩ (dnE_of w h2)
theorem dn_obj {P : Program} {w : World} {h' : Heap} {l : List (NestedKey × Addr × V)} {xs : List (NestedKey × Addr × Value)} (rel : KN l xs) (dd : h'.DictOfH (nestedKind P w) a xs) : ∃ o, DnObj w l o ∧ h'.get? a = some o := by
  obtain ⟨ob, es, ep, h1, h2, h3, h4, _⟩ := dd
  exact ⟨ob, ⟨h2, es, ep, h3, by rw [h4]; exact dnE_of w rel⟩, h1⟩
theorem ex_ok {P : Program} {w : World} {H' : Hp} {h' : Heap} {o : Obj} (h : h'.get? a = some o) : ObjOk P w H' h' a (exO a o) := ⟨h, ⟨o, h⟩, fun _ _ k1 kk => kk _ k1⟩
theorem dn_setItem {R : Hp → Prop} {Q : Unit → Shared → Prop} (hu : A.units + 9 < cLine) (I : Inv X pins σ H s) (g : DPutN X.K X.w H a y v R) (ry : RelV y u) (rv : RelV v r) (h : ∀ H' s', R H' → Inv X pins σ H' s' → Q () s') :
    wpAny (model X.prog X.w) A (setItem (.ref a) u r) Q E s := by
  obtain ⟨l, k, b, e, ok, ey, hk, hd, hl, eH⟩ := g
  subst ey
  cases (show u = Value.ref b from ry)
  obtain ⟨xs, rel, dd⟩ := dn_of I e ok
  have hz : xs.length ≤ sizeLine := by rw [← Paired.length rel]; exact ok.le
  refine wpAny_setItem_heap (hsz := hz) (nroom hu) (nk_key I hk hd) dd fun h' dd' hs => ?_
  obtain ⟨o', ho, hq⟩ := dn_obj (kn_put rel k b rv) dd'
  obtain ⟨o0, e0, _⟩ := e
  exact h _ _ (eH o' ho) (d_write I (by rw [e0]; exact True.intro) hs ⟨o', hq⟩ (ex_ok hq))
theorem dn_empty {w : World} : DnObj w [] { cls := .type "dict", data := .dict #[] } := ⟨⟨rfl, rfl, rfl⟩, #[], 0, rfl, .nil⟩
end
def tDGetN (K : PySem.W.Frag) (w : World) (td ty : TE) : TE := fun σ H Q => td σ H fun x H1 => ty σ H1 fun y H2 => ∃ a v, x = .ref a ∧ DGetN K w H2 a y (some v) ∧ Q v H2
def tDNotInN (K : PySem.W.Frag) (w : World) (ty td : TE) : TE := fun σ H Q => ty σ H fun y H1 => td σ H1 fun x H2 => ∃ a o, x = .ref a ∧ DGetN K w H2 a y o ∧ Q (.bl (!o.isSome)) H2
def sDPutN (K : PySem.W.Frag) (w : World) (td ty tv : TE) : TS := fun D σ H => tv σ H fun v H1 => td σ H1 fun x H2 => ty σ H2 fun y H3 => ∃ a, x = .ref a ∧ DPutN K w H3 a y v (D.nx σ)
def tDGet2N (K : PySem.W.Frag) (w : World) (td ty tx : TE) : TE := fun σ H Q => td σ H fun x H1 => ∃ a, x = .ref a ∧ IsDN K w H1 a ∧ ty σ H1 fun y H2 => tx σ H2 fun z H3 => ∃ o, DGetN K w H3 a y o ∧ Q (o.getD z) H3
def tDNewN (w : World) : TE := fun _ H Q => ∀ p o, H p = none → (p == sysModules) = false → DnObj w [] o → Q (.ref p) (upd H p (exO p o))
section
variable {X : Cx} {o i e f value : Expr} {pos pos' tpos apos cpos : Pos} {td ty tv tx : TE}
theorem pe_dgetN (hu : X.A.units + 9 < cLine) (ho : PE X o td) (hi : PE X i ty) (hs : NoSl i) : PE X (.Subscript o i pos) (tDGetN X.K X.w td ty) := by
  refine ⟨fun pins s σ H Q I h => ?_⟩
  refine subD_of PySem.F.slot_dict_getitem.lookup hs (thn (ho.run pins s σ H _ I h) fun u s1 ⟨x, H1, I1, rx, q1⟩ => thn (hi.run pins s1 σ H1 _ I1 q1) fun iv s2 ⟨y, H2, I2, ry, a, v, ex, g, q2⟩ => ?_)
  subst ex
  obtain rfl : u = Value.ref a := rx
  exact ⟨(isDN_at I2 g.is).1, dn_getItem hu I2 g ry fun w' s3 I3 rw' => ⟨v, H2, I3, rw', q2⟩⟩
theorem pc_dnotinN (hu : X.A.units + 9 < cLine) (hi : PE X i ty) (ho : PE X o td) : PC X .NotIn i o (tDNotInN X.K X.w ty td) := by
  refine ⟨fun pins s σ H Q I h => ?_⟩
  refine thn (hi.run pins s σ H _ I h) fun iv s1 ⟨y, H1, I1, ry, q1⟩ => thn (ho.run pins s1 σ H1 _ I1 q1) fun u s2 ⟨x, H2, I2, rx, a, ov, ex, g, q2⟩ => ?_
  subst ex
  obtain rfl : u = Value.ref a := rx
  exact dn_notIn hu I2 g ry fun s3 I3 => ⟨.bl (!ov.isSome), H2, I3, rfl, q2⟩
theorem ps_dputN (hu : X.A.units + 9 < cLine) (ho : PE X o td) (hi : PE X i ty) (hv : PE X value tv) (hs : swapsWith value (some (.Subscript o i pos')) pos.line X.env = pure false) :
    PS X (.Assign [.Subscript o i pos'] value pos) (sDPutN X.K X.w td ty tv) := by
  refine ⟨fun pins s σ H D I h => ?_⟩
  refine wpAny_Assign_Subscript (thn (hv.run pins s σ H _ I h) fun r s1 ⟨v, H1, I1, rv, q1⟩ => thn (ho.run pins s1 σ H1 _ I1 q1) fun u s2 ⟨x, H2, I2, rx, q2⟩ => thn (hi.run pins s2 σ H2 _ I2 q2) fun iv s3 ⟨y, H3, I3, ry, a, ex, g⟩ => ?_) hs
  subst ex
  obtain rfl : u = Value.ref a := rx
  exact dn_setItem hu I3 g ry rv fun H4 s4 q3 I4 => ⟨σ, H4, I4, q3⟩
theorem pe_dget2N (hu : X.A.units + 9 < cLine) (ho : PE X o td) (he : PE X e ty) (hf : PE X f tx) (m : M2 X o "get" apos e f cpos) : PE X (.Call (.Attribute o "get" apos) [e, f] [] cpos) (tDGet2N X.K X.w td ty tx) := by
  refine ⟨fun pins s σ H Q I h => ?_⟩
  refine wpAny_Call_method m.base m.few m.line PySem.F.plainAttrs_dict PySem.F.slot_dict_get PySem.F.type_dict_get (thn (ho.run pins s σ H _ I h) fun u s1 ⟨x, H1, I1, rx, a, ex, d, q1⟩ => ?_)
  subst ex
  obtain rfl : u = Value.ref a := rx
  obtain ⟨t1, t2, _⟩ := isDN_at I1 d
  refine ⟨t1, t2, ?_⟩
  rw [m.trees]
  refine Calls.callWith_builtin rfl (Calls.evalArgs_plain (Calls.spliced_cons (thn (he.run pins s1 σ H1 _ I1 q1) fun iv s2 ⟨y, H2, I2, ry, q2⟩ =>
    Calls.spliced_cons (thn (hf.run pins s2 σ H2 _ I2 q2) fun fv s3 ⟨z, H3, I3, rz, ov, g, q3⟩ => Calls.spliced_nil ?_))))
  exact dn_get2 hu I3 g ry rz fun w' s4 I4 rw' => ⟨_, H3, I4, rw', q3⟩
theorem pe_dnewN : PE X (.Dict [] [] pos) (tDNewN X.w) := ⟨fun pins s σ H Q I h =>
  wpAny_Dict_empty ⟨.ref s.heap.objs.size, _, I.laid (a := s.heap.objs.size) (o := exO s.heap.objs.size { cls := .type "dict", data := .dict #[] }) (t' := s.toks) (fun _ _ q => Heap.get?_push_of_some _ q) (Nat.le_refl _) (ex_ok (Heap.get?_push_size _ rfl)), rfl, h _ _ (I.hok.fresh (Nat.le_refl _)) (beq_eq_false_iff_ne.mpr (Ne.symm (Nat.ne_of_lt I.big))) dn_empty⟩⟩
def rIsiN (K : PySem.W.Frag) (w : World) : List V → Hp → VK → Prop := fun xs H Q => ∃ (a : Addr) (c : V) (u : Value) (b : Bool), xs = [.ref a, c] ∧ ClsV c u ∧ IsDN K w H a ∧ PySem.W.kitOne K (.type "dict") u = some b ∧ Q (.bl b) H
theorem call_isiN : CallR X (.builtin "isinstance") (rIsiN X.K X.w) := by
  intro pins s σ H xs us Q I r h
  obtain ⟨a, c, u, b, rfl, k, ty, e, q⟩ := h
  obtain ⟨u1, u2, rfl, r1, r2⟩ := vals2 r
  have e2 := k.eq r2
  subst e2
  cases (show u1 = Value.ref a from r1)
  exact PySem.W.kia_one PySem.W.kitx_dict I.kIn (isDN_at I ty).1 e (fun z => nomatch z) fun tk => ⟨.bl b, H, I.tok tk, rfl, q⟩
def rLenN (K : PySem.W.Frag) (w : World) : List V → Hp → VK → Prop := fun xs H Q => ∃ a l, xs = [.ref a] ∧ DnAt w H a l ∧ NOk K H a l ∧ Q (.int l.length) H
end
end LI

namespace LI
open PySem PySem.Spec PyProof.Rows L2
def keyN : Key → NestedKey
  | .inl i => .num i
  | .inr x => .text x
mutual
/-- a thing as a key -/
def toNk : D → Option NestedKey
  | .non => some .none
  | .int i => some (.num i)
  | .str s => some (.text ⟨s.toArray⟩)
  | .kst ss => some (.tup (ss.map fun s => .text ⟨s.toArray⟩))
  | .key ks => some (.tup (ks.map keyN))
  | .tup ds => (toNkL ds).map .tup
  | _ => none
def toNkL : List D → Option (List NestedKey)
  | [] => some []
  | d :: ds => (toNk d).bind fun k => (toNkL ds).map fun ks => k :: ks
end
def nkT (d : D) : Option NestedKey := (toNk d).bind fun k => match k with
  | .tup ks => if (NestedKey.tup ks).depth ≤ 8 then some (.tup ks) else none
  | _ => none
theorem nk_kst {K : PySem.W.Frag} {P : Hp} : ∀ ss : List (List Nat), NkAll K P (ss.map fun s => .text ⟨s.toArray⟩) (ss.map fun s => V.str ⟨s.toArray⟩)
  | [] => rfl
  | s :: ss => ⟨_, _, rfl, rfl, nk_kst ss⟩
theorem nk_keys {K : PySem.W.Frag} {P : Hp} : ∀ ks : List Key, NkAll K P (ks.map keyN) (ks.map kV)
  | [] => rfl
  | .inl i :: ks => ⟨_, _, rfl, rfl, nk_keys ks⟩
  | .inr x :: ks => ⟨_, _, rfl, rfl, nk_keys ks⟩
mutual
theorem nk_v {c : LC} {P H : Hp} : ∀ (d : D) (v : V) (U : FP) (k : NestedKey), toNk d = some k → Rep c P H d v U → NkRep c.K P k v
  | .non, v, U, k, h, r => by cases h; exact r.1
  | .int i, v, U, k, h, r => by cases h; exact r.1
  | .str i, v, U, k, h, r => by cases h; exact r.1
  | .kst ss, v, U, k, h, ⟨a, e, q, _⟩ => by cases h; exact ⟨a, _, e, q, nk_kst ss⟩
  | .key ks, v, U, k, h, ⟨a, e, q, _⟩ => by cases h; exact ⟨a, _, e, .inl (.inl q), nk_keys ks⟩
  | .tup ds, v, U, k, h, ⟨a, xs, e, q, r⟩ => by
    unfold toNk at h
    cases z : toNkL ds with
    | none => rw [z] at h; cases h
    | some ks => rw [z] at h; cases h; exact ⟨a, xs, e, q, nk_vs ds xs U ks z r⟩
  | .gone, _, _, _, h, _ => by cases h
  | .bl _, _, _, _, h, _ => by cases h
  | .scr _, _, _, _, h, _ => by cases h
  | .lst .., _, _, _, h, _ => by cases h
  | .dK .., _, _, _, h, _ => by cases h
  | .dT .., _, _, _, h, _ => by cases h
  | .dN .., _, _, _, h, _ => by cases h
  | .obj .., _, _, _, h, _ => by cases h
theorem nk_vs {c : LC} {P H : Hp} : ∀ (ds : List D) (vs : List V) (U : FP) (ks : List NestedKey), toNkL ds = some ks → RepL c P H ds vs U → NkAll c.K P ks vs
  | [], vs, U, ks, h, r => by cases h; exact r.1
  | d :: ds, vs, U, ks, h, ⟨y, ys, T, T2, e1, r, rs, _⟩ => by
    unfold toNkL at h
    cases z : toNk d with
    | none => rw [z] at h; cases h
    | some q =>
      cases z2 : toNkL ds with
      | none => rw [z, z2] at h; cases h
      | some qs => rw [z, z2] at h; cases h; exact ⟨y, ys, e1, nk_v d y T q z r, nk_vs ds ys T2 qs z2 rs⟩
end
theorem nkT_v {c : LC} {P H : Hp} {d : D} {v : V} {U : FP} {k : NestedKey} (h : nkT d = some k) (r : Rep c P H d v U) : ∃ b, v = .ref b ∧ NkRep c.K P k (.ref b) ∧ k.depth ≤ 8 := by
  unfold nkT at h
  cases e : toNk d with
  | none => rw [e] at h; cases h
  | some k0 =>
    rw [e, Option.bind_some] at h
    have q := nk_v d v U k0 e r
    cases k0 with
    | tup ks =>
      dsimp only at h
      split at h
      · rename_i hd
        cases h
        obtain ⟨a, xs, e1, q1, q2⟩ := q
        subst e1
        exact ⟨a, rfl, ⟨a, xs, rfl, q1, q2⟩, hd⟩
      · cases h
    | _ => cases h
theorem NkRep.up {K : PySem.W.Frag} {P H : Hp} (e : Ex P H) {k : NestedKey} {v : V} (h : NkRep K P k v) : NkRep K H k v := NkRep.mono (fun _ _ => sqt_mono e) k v h
theorem zip3_fst {ks : List NestedKey} : ∀ {bs : List Addr} {xs : List V}, ks.length = bs.length → ks.length = xs.length → ((ks.zip (bs.zip xs)).map fun p => (p.1, p.2.2)) = ks.zip xs := by
  induction ks with
  | nil => intro bs xs _ _; rfl
  | cons k ks ih =>
    intro bs xs h1 h2
    cases bs with
    | nil => simp at h1
    | cons b bs =>
      cases xs with
      | nil => simp at h2
      | cons x xs => simp only [List.zip_cons_cons, List.map_cons]; rw [ih (by simpa using h1) (by simpa using h2)]
theorem zip3_key {ks : List NestedKey} : ∀ {bs : List Addr} {xs : List V}, ks.length = bs.length → ks.length = xs.length → ((ks.zip (bs.zip xs)).map fun p => p.1) = ks := by
  induction ks with
  | nil => intro bs xs _ _; rfl
  | cons k ks ih =>
    intro bs xs h1 h2
    cases bs with
    | nil => simp at h1
    | cons b bs =>
      cases xs with
      | nil => simp at h2
      | cons x xs => simp only [List.zip_cons_cons, List.map_cons]; rw [ih (by simpa using h1) (by simpa using h2)]
theorem zip3_mem {ks : List NestedKey} : ∀ {bs : List Addr} {xs : List V} {p : NestedKey × Addr × V}, p ∈ ks.zip (bs.zip xs) → (p.1, p.2.1) ∈ ks.zip bs := by
  induction ks with
  | nil => intro bs xs p h; simp at h
  | cons k ks ih =>
    intro bs xs p h
    cases bs with
    | nil => simp at h
    | cons b bs =>
      cases xs with
      | nil => simp at h
      | cons x xs =>
        simp only [List.zip_cons_cons, List.mem_cons] at h ⊢
        rcases h with h | h
        · subst h; exact .inl rfl
        · exact .inr (ih h)
theorem nok_of {K : PySem.W.Frag} {P H : Hp} (e : Ex P H) {a : Addr} {ks : List NestedKey} {bs : List Addr} {xs : List V} (o : NkOk K P a ks bs) (n : ks.length = xs.length) : NOk K H a (ks.zip (bs.zip xs)) :=
  ⟨o.ne, by rw [List.length_zip, List.length_zip, ← o.len, ← n, Nat.min_self, Nat.min_self]; exact o.le, by
    have := zip3_key o.len n
    rw [this]; exact o.nd, fun p hp => ⟨((o.at_ _ (zip3_mem hp)).1).up e, (o.at_ _ (zip3_mem hp)).2⟩⟩
theorem valN_zip {ks : List NestedKey} {bs : List Addr} {xs : List V} {k : NestedKey} (h1 : ks.length = bs.length) (h2 : ks.length = xs.length) : valN (ks.zip (bs.zip xs)) k = valV (ks.zip xs) k := by
  unfold valN; rw [zip3_fst h1 h2]
theorem dn_heap {c : LC} {P H : Hp} (e : Ex P H) {o : Bool} {ks : List NestedKey} {ds : List D} {v : V} {U : FP} (r : Rep c P H (.dN o ks ds) v U) : ∃ a bs xs T, v = .ref a ∧ DnAt c.w H a (ks.zip (bs.zip xs)) ∧ NkOk c.K P a ks bs ∧ ks.length = xs.length ∧ RepL c P H ds xs T ∧ ∀ b, T b ≤ U b := by
  cases o with
  | true =>
    obtain ⟨a, bs, xs, T, e1, h, ok, n, rl, f⟩ := r
    exact ⟨a, bs, xs, T, e1, h, ok, n, rl, fun b => by rw [f]; simp only [fa]; omega⟩
  | false =>
    obtain ⟨a, bs, xs, e1, h, ok, n, rl⟩ := r
    exact ⟨a, bs, xs, U, e1, h.of fun o z => e _ _ z, ok, n, rl, fun b => Nat.le_refl _⟩
theorem valNk_under {c : LC} {P H : Hp} {ks : List NestedKey} {ds : List D} {xs : List V} {T : FP} (n : ks.length = xs.length) (rl : RepL c P H ds xs T) (k : NestedKey) : match under ks ds k with
    | some d => ∃ x T', valV (ks.zip xs) k = some x ∧ Rep c P H d x T' ∧ ∀ b, T' b ≤ T b
    | none => valV (ks.zip xs) k = none := by
  cases z : under ks ds k with
  | some d =>
    obtain ⟨x, T', h1, h2, h3⟩ := under_rep rl n z
    exact ⟨x, T', by unfold valV; rw [h1]; rfl, h2, h3⟩
  | none => exact under_none rl n z
def ixN_ : D → D → Option D
  | .dN _ ks ds, k => (nkT k).bind fun k => under ks ds k
  | _, _ => none
def ninND : D → D → Option D
  | k, .dN _ ks ds => (nkT k).map fun k => .bl (!(under ks ds k).isSome)
  | _, _ => none
theorem nkT_some {d r : D} {f : NestedKey → D} (h : (nkT d).map f = some r) : ∃ k, nkT d = some k ∧ r = f k := by
  cases e : nkT d with
  | none => rw [e] at h; cases h
  | some k => rw [e] at h; cases h; exact ⟨k, rfl, rfl⟩
theorem hr9 {X : Cx} (hu : X.A.units + 64 < cLine) : X.A.units + 9 < cLine := by omega
section
variable {X : Cx} {cl : Nat → Addr} {E : En} {e a b o i : Expr} {es : List Expr} {pos p apos cpos : Pos} {m ma mb : RM} {ms : AM} {L : Lens}
theorem r_ixN (hu : X.A.units + 9 < cLine) (ha : PE X a (tR ⟨X.K, cl, X.w⟩ E ma)) (hb : PE X b (tR ⟨X.K, cl, X.w⟩ E mb)) (hs : PlainIx b := by exact fun _ _ => rfl) : PE X (.Subscript a b pos) (tR ⟨X.K, cl, X.w⟩ E (m2 ixN_ ma mb)) := by
  refine PE_imp (pe_dgetN hu ha hb hs) fun σ H Q ⟨P, S, T, ρ, d, w, hm, q⟩ => ?_
  obtain ⟨da, db, ea, eb, h⟩ := m2_split hm
  unfold ixN_ at h
  split at h
  · rename_i o ks ds
    cases ek : nkT db with
    | none => rw [ek] at h; cases h
    | some k =>
      rw [ek, Option.bind_some] at h
      refine ⟨P, S, T, ρ, .dN o ks ds, w, ea, fun x H1 P1 U1 g1 r1 => ⟨P1, S, T, ρ, db, w.grow g1, eb, fun y H2 P2 U2 g2 r2 => ?_⟩⟩
      obtain ⟨p, bs, xs, T', e1, hh, ok, n, rl, _⟩ := dn_heap g2.ph (r1.gr g2)
      obtain ⟨kb, e2, hk, hd⟩ := nkT_v ek r2
      have hv := valNk_under n rl k
      rw [h] at hv
      obtain ⟨x', T2, hx, hr, _⟩ := hv
      exact ⟨p, x', e1, ⟨_, k, kb, hh, nok_of g2.ph ok n, e2, hk.up g2.ph, hd, by rw [valN_zip ok.len n, hx]⟩, q x' H2 P2 T2 (g1.trans g2) hr⟩
  · cases h
theorem inN_some {c : LC} {P H : Hp} {ks : List NestedKey} {ds : List D} {xs : List V} {T : FP} (n : ks.length = xs.length) (rl : RepL c P H ds xs T) (k : NestedKey) : (valV (ks.zip xs) k).isSome = (under ks ds k).isSome := by
  have hv := valNk_under n rl k
  cases hz : under ks ds k with
  | some d =>
    rw [hz] at hv
    obtain ⟨x', T', hx, _⟩ := hv
    rw [hx]; rfl
  | none =>
    rw [hz] at hv
    rw [hv]; rfl
theorem dinN_run {neg : Bool} {σ : L2.St} {H : Hp} {P : Hp} {S T : FP} {ρ : List D} {Q : VK} (w : Wd ⟨X.K, cl, X.w⟩ E P S T σ H ρ) {dk : D} {k : NestedKey} {o : Bool} {ks : List NestedKey} {ds : List D} (ea : ma ρ = some dk) (ek : nkT dk = some k) (eb : mb ρ = some (.dN o ks ds)) (q : ∀ H' P', Gr P H P' H' → Q (.bl (if neg = true then !(under ks ds k).isSome else (under ks ds k).isSome)) H') :
    tR ⟨X.K, cl, X.w⟩ E ma σ H fun y H1 => tR ⟨X.K, cl, X.w⟩ E mb σ H1 fun x H2 => ∃ a o, x = .ref a ∧ DGetN X.K X.w H2 a y o ∧ Q (.bl (if neg = true then !o.isSome else o.isSome)) H2 := by
  refine ⟨P, S, T, ρ, dk, w, ea, fun y H1 P1 U1 g1 r1 => ⟨P1, S, T, ρ, .dN o ks ds, w.grow g1, eb, fun x H2 P2 U2 g2 r2 => ?_⟩⟩
  obtain ⟨p, bs, xs, T', e1, hh, ok, n, rl, _⟩ := dn_heap g2.ph r2
  obtain ⟨kb, e2, hk, hd⟩ := nkT_v ek r1
  refine ⟨p, valV (ks.zip xs) k, e1, ⟨_, k, kb, hh, nok_of g2.ph ok n, e2, hk.up (fun a o z => g2.h a o (g1.ph a o z)), hd, (valN_zip ok.len n).symm⟩, ?_⟩
  rw [inN_some n rl]
  exact q H2 P2 (g1.trans g2)
theorem t_ninN (hu : X.A.units + 64 < cLine) (ha : PE X a (tR ⟨X.K, cl, X.w⟩ E ma)) (hb : PE X b (tR ⟨X.K, cl, X.w⟩ E mb)) (hm : behindInMarks .NotIn b = false := by rfl) : PT X (.Compare a [.NotIn] [b] pos) (tT ⟨X.K, cl, X.w⟩ E (bM (m2 ninND ma mb))) :=
  PT_imp (pt_cmp (pc_dnotinN (Nat.lt_of_le_of_lt (by omega) hu) ha hb) hm) fun σ H Q ⟨P, S, T, ρ, d, w, h, q⟩ => by
    obtain ⟨da, db, ea, eb, h⟩ := m2_split (bM_some h)
    unfold ninND at h
    split at h
    · obtain ⟨k, ek, h⟩ := nkT_some h
      cases h
      exact dinN_run (neg := true) (Q := fun x H' => ∃ k, x = .bl k ∧ Q k H') w ea ek eb fun H' P' g => ⟨_, rfl, q H' P' g⟩
    · cases h
theorem FQ.dN0 {P H : Hp} {Q : VK} {c : LC} (h : FQ c P H (.dN true [] []) Q) (e : Ex P H) : ∀ p o, H p = none → (p == sysModules) = false → DnObj c.w [] o → Q (.ref p) (upd H p (exO p o)) := fun p o hp hne ho => by
  have hP := none_of e hp
  exact h _ _ P (one p) ⟨.refl _, ex_new hp, e.trans (ex_new hp), fun _ z => .inl z⟩ ⟨p, [], [], fz, rfl, ⟨o, upd_same, ho⟩, ⟨hne, rfl, Nat.zero_le _, List.nodup_nil, fun q hq => by simp at hq⟩, rfl, ⟨rfl, rfl⟩, by rw [fa_fz]⟩ one_le fun a z => by rw [one_pos z]; exact ⟨hp, hP⟩
def newN : RM := fun _ => some (.dN true [] [])
theorem f_dnewN : PE X (.Dict [] [] pos) (tF ⟨X.K, cl, X.w⟩ E newN) := PE_imp pe_dnewN fun σ H Q ⟨P, S, T, ρ, d, w, hm, q⟩ => by
  cases hm
  exact fun p o hp hne ho => q.dN0 w.ph p o hp hne ho
end
def putB (ks : List NestedKey) (bs : List Addr) (k : NestedKey) (b : Addr) : List Addr := if (ks.any fun j => decide (j = k)) = true then bs else bs ++ [b]
theorem putN_zip {k : NestedKey} {b : Addr} {y : V} {ks : List NestedKey} : ∀ {bs : List Addr} {xs : List V}, ks.length = bs.length → ks.length = xs.length → putN (ks.zip (bs.zip xs)) k b y = (putL ks xs k y).1.zip ((putB ks bs k b).zip (putL ks xs k y).2) := by
  intro bs xs h1 h2
  have hany : ((ks.zip (bs.zip xs)).any fun p => decide (p.1 = k)) = ks.any fun j => decide (j = k) := by
    have := zip3_key h1 h2
    conv => rhs; rw [← this]
    rw [List.any_map]; rfl
  unfold putN putL putB
  rw [hany]
  split
  · rename_i hq
    clear hany hq
    induction ks generalizing bs xs with
    | nil => rfl
    | cons j ks ih =>
      cases bs with
      | nil => simp at h1
      | cons b0 bs =>
        cases xs with
        | nil => simp at h2
        | cons x xs =>
          simp only [List.zip_cons_cons, List.map_cons]
          rw [ih (by simpa using h1) (by simpa using h2)]
          by_cases e : j = k <;> simp [e]
  · show _ = (ks ++ [k]).zip ((bs ++ [b]).zip (xs ++ [y]))
    rw [List.zip_append (h1.symm.trans h2), List.zip_append (by rw [List.length_zip, ← h1, ← h2, Nat.min_self])]
    rfl
theorem putNk_ok {K : PySem.W.Frag} {P : Hp} {a b : Addr} {k : NestedKey} {ks : List NestedKey} {bs : List Addr} {xs : List V} {y : V} (o : NkOk K P a ks bs) (hl : ks.length < LIM) (hk : NkRep K P k (.ref b)) (hd : k.depth ≤ 8) : NkOk K P a (putL ks xs k y).1 (putB ks bs k b) := by
  unfold putL putB
  split
  · exact o
  · rename_i hn
    refine ⟨o.ne, by rw [List.length_append, List.length_append, o.len]; rfl, by rw [List.length_append]; exact lim_le hl, ?_, fun p hp => ?_⟩
    · rw [List.nodup_append]
      refine ⟨o.nd, by simp, fun z hz w hw e => hn ?_⟩
      rw [List.any_eq_true]
      refine ⟨z, hz, ?_⟩
      rw [List.mem_singleton] at hw
      rw [decide_eq_true_eq, e, hw]
    · rw [List.zip_append o.len] at hp
      rcases List.mem_append.mp hp with hp | hp
      · exact o.at_ p hp
      · simp only [List.zip_cons_cons, List.zip_nil_right, List.mem_singleton] at hp
        subst hp
        exact ⟨hk, hd⟩
theorem dn_upd {c : LC} {E : En} {P H : Hp} {S T : FP} {σ : L2.St} {ρ : List D} {L : Lens} {v : V} {ks : List NestedKey} {ds : List D} {Sd R : FP} (w : Wd c E P S T σ H ρ) (l : Loc c L P H σ ρ S v (.dN true ks ds) Sd R) (hz : frzL ds = true) : ∃ a bs xs, v = .ref a ∧ DnAt c.w H a (ks.zip (bs.zip xs)) ∧ NkOk c.K P a ks bs ∧ ks.length = xs.length ∧ RepL c P H ds xs fz ∧
    ∀ (js : List NestedKey) (cs : List Addr) (ys : List V) (es : List D) (o : Obj), NkOk c.K P a js cs → js.length = ys.length → (∀ H', RepL c P H' es ys fz) → DnObj c.w (js.zip (cs.zip ys)) o → ∃ S', Wd c E P S' T σ (upd H a (exO a o)) (L.put ρ (.dN true js es)) ∧ ∀ b u, 0 < T b → H b = some u → upd H a (exO a o) b = some u := by
  have w' : Wd c E P S (fa T fz) σ H ρ := by rw [fa_fz]; exact w
  obtain ⟨a, bs, xs, T1, e1, hh, ok, n, rl, hf⟩ := l.rep
  have z := RepL.frz0 ds xs T1 hz rl
  subst z
  have hS : ∀ b, Sd b = one a b + fz b := fun b => by rw [hf]; rfl
  refine ⟨a, bs, xs, e1, hh, ok, n, rl, fun js cs ys es o ok2 hl hr ho => ?_⟩
  have w2 := loc_own w' l hS (fun b hb => by simp [fz] at hb) (exO a o) (.dN true js es) fz fz ⟨a, cs, ys, fz, e1, ⟨o, upd_same, ho⟩, ok2, hl, hr _, rfl⟩ fun b => by simp only [fz]; omega
  rw [fa_fz T] at w2
  refine ⟨_, w2, fun b u hb hu => ?_⟩
  have : b ≠ a := fun q => by
    subst q
    have := w.le b; have := l.sum b; have := hS b
    simp [one] at *; omega
  rw [upd_ne this]; exact hu
def dputN (L : Lens) (mi : RM) (g : GM) : SM := fun ρ => (g ρ).bind fun r => (L.get r.2).bind fun l => (mi r.2).bind fun k => match l with
  | .dN true ks ds => (nkT k).bind fun k => if frzL ds = true ∧ frz r.1 = true ∧ ks.length < LIM then some (.nx, L.put r.2 (.dN true (putL ks ds k r.1).1 (putL ks ds k r.1).2)) else none
  | _ => none
theorem dputN_split {L : Lens} {mi : RM} {g : GM} {ρ : List D} {r : Fl × List D} (h : dputN L mi g ρ = some r) : ∃ d ρ1 ks ds dk k, g ρ = some (d, ρ1) ∧ L.get ρ1 = some (.dN true ks ds) ∧ mi ρ1 = some dk ∧ nkT dk = some k ∧ frzL ds = true ∧ frz d = true ∧ ks.length < LIM ∧ r = (.nx, L.put ρ1 (.dN true (putL ks ds k d).1 (putL ks ds k d).2)) := by
  unfold dputN at h
  cases e1 : g ρ with
  | none => rw [e1] at h; cases h
  | some r1 =>
    obtain ⟨d, ρ1⟩ := r1
    rw [e1, Option.bind_some] at h
    dsimp only at h
    cases e2 : L.get ρ1 with
    | none => rw [e2] at h; cases h
    | some l =>
      cases e3 : mi ρ1 with
      | none => rw [e2, e3] at h; cases h
      | some k =>
        rw [e2, e3, Option.bind_some, Option.bind_some] at h
        split at h
        · rename_i ks ds
          cases e4 : nkT k with
          | none => rw [e4] at h; cases h
          | some kk =>
            rw [e4, Option.bind_some] at h
            split at h
            · rename_i hc
              cases h; exact ⟨d, ρ1, ks, ds, k, kk, rfl, e2, e3, e4, hc.1, hc.2.1, hc.2.2, rfl⟩
            · cases h
        · cases h
theorem s_dputN {X : Cx} {cl : Nat → Addr} {E : En} {e o i : Expr} {pos pos' : Pos} {mi : RM} {g : GM} {L : Lens} (hu : X.A.units + 9 < cLine) (he : PE X e (tG ⟨X.K, cl, X.w⟩ E g)) (ho : PE X o (tPl ⟨X.K, cl, X.w⟩ E L)) (hi : PE X i (tR ⟨X.K, cl, X.w⟩ E mi)) (hs : swapsWith e (some (.Subscript o i pos')) pos.line X.env = pure false := by rfl) :
    PS X (.Assign [.Subscript o i pos'] e pos) (tS ⟨X.K, cl, X.w⟩ E (dputN L mi g)) :=
  PS_imp (ps_dputN hu ho hi he hs) fun D σ H ⟨P, S, ρ, fl, ρ', w, hm, q⟩ => by
    obtain ⟨d, ρ1, ks, ds, dk, k, eg, el, ei, ek, hz, hd, hl, e3⟩ := dputN_split hm
    cases e3
    refine g_run w eg fun y H1 P1 S1 U w1 ex r1 => ?_
    have hU := Rep.frz0 d y U hd r1
    subst hU
    refine ⟨P1, S1, fz, ρ1, _, w1, el, fun v Sd R l => ?_⟩
    refine ⟨P1, S1, fz, ρ1, _, w1, ei, fun iv H2 P2 U2 g2 r2 => ?_⟩
    obtain ⟨a, bs, xs, ev, hh, ok, n, rl, kk⟩ := dn_upd (w1.grow g2) (l.grow g2) hz
    obtain ⟨kb, e2, hk, hdp⟩ := nkT_v ek r2
    refine ⟨a, ev, ⟨_, k, kb, hh, nok_of g2.ph ok n, e2, hk.up g2.ph, hdp, by rw [List.length_zip, List.length_zip, ← ok.len, ← n, Nat.min_self, Nat.min_self]; exact lim_lt hl, fun o ho => ?_⟩⟩
    rw [putN_zip ok.len n] at ho
    obtain ⟨S', w2, kT⟩ := kk (putL ks xs k y).1 (putB ks bs k kb) (putL ks xs k y).2 (putL ks ds k d).2 o (putNk_ok ok hl hk hdp) (putL_len n) (fun H' => putL_rep (Rep.mono g2.p d y fz (fun _ _ h => by simp [fz] at h) r1) n (repL_any rl H')) ho
    rw [show (putL ks xs k y).1 = (putL ks ds k d).1 from putL_keys] at w2
    exact q σ _ P2 S' w2 (ex.trans g2.p)
def lenND : List D → Option D
  | [.dN _ ks _] => some (.int ks.length)
  | _ => none
theorem call_len_dN {X : Cx} : CallR X (.builtin "len") (rLenN X.K X.w) := by
  intro pins s σ H xs us Q I r h
  obtain ⟨p, l, rfl, hp, ok, q⟩ := h
  obtain ⟨u, rfl, rx⟩ := vals1 r
  obtain rfl : u = .ref p := rx
  obtain ⟨ys, rel, dd⟩ := dn_of I hp ok
  have hl : l.length = ys.length := Paired.length rel
  have z := ok.le
  refine call_len_dictH ok.ne dd (by rw [← hl]; rw [sizeLine_eq] at z; omega) ?_
  rw [← hl]
  exact ⟨.int ((l.length : Nat) : Int), H, I.tok _, ⟨_, rfl⟩, q⟩
theorem op_lenN {c : LC} : OpA c (rLenN c.K c.w) lenND := by
  intro P H e ds d vs U hf r Q q
  unfold lenND at hf
  split at hf
  · cases hf
    obtain ⟨v, T, rfl, r1⟩ := repL1 r
    obtain ⟨a, bs, xs, T', rfl, h, ok, n, rl, _⟩ := dn_heap e r1
    refine ⟨a, _, rfl, h, nok_of e ok n, ?_⟩
    rw [List.length_zip, List.length_zip, ← ok.len, ← n, Nat.min_self, Nat.min_self]
    exact q.flat e ⟨rfl, rfl⟩
  · cases hf
def isiNM (ty : String) (m : RM) : RM := fun ρ => (m ρ).bind fun d => match d with
  | .dN .. => (kitB "dict" ty).map .bl
  | _ => none
theorem f_isiN {X : Cx} {cl : Nat → Addr} {E : En} {a : Expr} {ma : RM} {pos : Pos} {ty : String} {b0 : Expr} {x : Str} {p : Pos} (ha : PE X a (tR ⟨X.K, cl, X.w⟩ E ma)) (hb : PE X b0 (tC (.ty ty))) (hg : Gl X x) (hm : X.mg x = none) (hv : bootBuiltins x = some (.builtin "isinstance"))
    (hn : x ≠ "__name__" := by decide) (hdb : (x == ("__debug__" : Str)) = false := by decide)
    (hs1 : starEach [a, b0] X.env = (false, eval a X.env) :: starEach [b0] X.env := by rfl) (hs2 : starEach [b0] X.env = (false, eval b0 X.env) :: starEach [] X.env := by rfl) (hpl : (backTo pos (starEach [b0] X.env)).any (·.1) = false := by rfl) : PE X (.Call (.Name x p) [a, b0] [] pos) (tF ⟨X.K, cl, X.w⟩ E (isiNM ty ma)) :=
  PE_imp (pe_callB call_isiN hg hm hv (pa_cons ha (pa_cons hb pa_nil hs2) hs1) hn hdb hs1 hpl) fun σ H Q ⟨P, S, T, ρ, d, w, h, q⟩ => by
    unfold isiNM at h
    cases ea : ma ρ with
    | none => rw [ea] at h; cases h
    | some da =>
      rw [ea, Option.bind_some] at h
      cases da with
      | dN o ks ds =>
        dsimp only at h
        cases ek : kitB "dict" ty with
        | none => rw [ek] at h; cases h
        | some r =>
          rw [ek] at h
          cases h
          refine ⟨P, S, T, ρ, _, w, ea, fun v H' P' U g r1 => ?_⟩
          obtain ⟨a, bs, xs, T', rfl, h1, ok, n, rl, _⟩ := dn_heap g.ph r1
          exact ⟨a, _, _, r, rfl, .ty ty, ⟨_, h1, nok_of g.ph ok n⟩, kit_ty ek, (q.grow g).flat g.ph ⟨rfl, rfl⟩⟩
      | _ => cases h
theorem f_isiN' {X : Cx} {cl : Nat → Addr} {E : En} {a : Expr} {ma : RM} {pos p : Pos} {ty : String} {b0 : Expr} (ha : PE X a (tR ⟨X.K, cl, X.w⟩ E ma)) (hb : PE X b0 (tC (.ty ty))) (hm : X.mg "isinstance" = none) (hg : Gl X "isinstance" := by rfl)
    (hs1 : starEach [a, b0] X.env = (false, eval a X.env) :: starEach [b0] X.env := by rfl) (hs2 : starEach [b0] X.env = (false, eval b0 X.env) :: starEach [] X.env := by rfl) (hpl : (backTo pos (starEach [b0] X.env)).any (·.1) = false := by rfl) : PE X (.Call (.Name "isinstance" p) [a, b0] [] pos) (tF ⟨X.K, cl, X.w⟩ E (isiNM ty ma)) :=
  f_isiN ha hb hg hm (by decide +kernel) (by decide) (by decide) hs1 hs2 hpl
class Nc {α : Type} (e : α → D) (f : outParam (α → NestedKey)) (n : outParam Nat) : Prop where
  nc : ∀ x, toNk (e x) = some (f x)
  inj : ∀ x y, f x = f y → x = y
  dp : ∀ x, (f x).depth ≤ n
class Nk {κ : Type} (e : κ → D) (f : outParam (κ → NestedKey)) : Prop where
  nk : ∀ x, nkT (e x) = some (f x)
  inj : ∀ x y, f x = f y → x = y
def nI : Int → NestedKey := .num
def n2 {α β : Type} (a : α → NestedKey) (b : β → NestedKey) (t : α × β) : NestedKey := .tup [a t.1, b t.2]
instance : Nc eI nI 0 := ⟨fun _ => rfl, fun x y h => by injection h, fun _ => Nat.le_refl _⟩
section
variable {α β γ κ τ : Type} {a : α → D} {b : β → D} {e : α → D} {ek : κ → D} {f : α → NestedKey} {g : β → NestedKey} {nk : κ → NestedKey} {i j : Nat} {o : Bool} {ρ : List D} {m ma mb : RM}
instance nc2 [Nc a f i] [Nc b g j] : Nc (e2 a b) (n2 f g) (max i j + 1) := ⟨fun x => by
    show (toNkL [a x.1, b x.2]).map NestedKey.tup = _
    unfold toNkL toNkL toNkL
    rw [Nc.nc (e := a) x.1, Nc.nc (e := b) x.2]; rfl, fun x y h => by
    unfold n2 at h
    simp only [NestedKey.tup.injEq, List.cons.injEq, and_true] at h
    exact Prod.ext (Nc.inj (e := a) _ _ h.1) (Nc.inj (e := b) _ _ h.2), fun x => by
    show max (f x.1).depth (max (g x.2).depth 0) + 1 ≤ _
    have := Nc.dp (e := a) x.1
    have := Nc.dp (e := b) x.2
    omega⟩
theorem nk_of2 {n : Nat} {f' : NestedKey → Prop} [h : Nc (e2 a b) (n2 f g) n] (hn : n ≤ 8) : Nk (e2 a b) (n2 f g) := ⟨fun x => by
  unfold nkT
  rw [Nc.nc (e := e2 a b) x, Option.bind_some]
  have := Nc.dp (e := e2 a b) x
  show (if (n2 f g x).depth ≤ 8 then some (n2 f g x) else none) = _
  rw [if_pos (by omega)], Nc.inj (e2 a b)⟩
instance nkA [Nc a f 0] [Nc b g 0] : Nk (e2 a b) (n2 f g) := nk_of2 (f' := fun _ => True) (h := nc2) (by decide)
def eDN {κ α : Type} (o : Bool) (nk : κ → NestedKey) (a : α → D) (m : List (κ × α)) : D := .dN o (m.map fun p => nk p.1) (m.map fun p => a p.2)
instance {a : α → D} : Ng (eDN o nk a) := ⟨fun _ => rfl⟩
instance {a : α → D} [Fz a] : Fz (eDN false nk a) := ⟨fun m => by
  show (!false && frzL (m.map fun p => a p.2)) = true
  rw [frzL2]; rfl⟩
instance {a a' : α → D} [Ic a a'] : Ic (eDN o nk a) (eDN false nk a') := ⟨fun m => by
  show D.dN false _ (iceL (m.map fun p => a p.2)) = .dN false _ (m.map fun p => a' p.2)
  congr 1
  induction m with
  | nil => rfl
  | cons p m ih => simp [iceL, ih, Ic.ic (e := a)]⟩
theorem underN [DecidableEq κ] (hj : ∀ x y, nk x = nk y → x = y) (k : κ) : ∀ m : List (κ × α), under (m.map fun p => nk p.1) (m.map fun p => a p.2) (nk k) = (getT m k).map a
  | [] => rfl
  | p :: m => by
    rw [List.map_cons, List.map_cons]
    unfold under getT
    by_cases h : p.1 = k
    · rw [if_pos h, h, if_pos rfl]; rfl
    · rw [if_neg h, if_neg (fun q => h (hj _ _ q)), underN hj k m]
theorem o2_ixN [DecidableEq κ] [Nk ek nk] : O2 ixN_ (eDN o nk e) ek e getT := fun m k z h => by
  show (nkT (ek k)).bind (fun k => under (m.map fun p => nk p.1) (m.map fun p => e p.2) k) = _
  rw [Nk.nk k, Option.bind_some, underN (Nk.inj ek), h]; rfl
theorem o2_ninN [DecidableEq κ] [Nk ek nk] : O2 ninND ek (eDN o nk a) eB (fun k m => some (!(getT m k).isSome)) := fun k m z h => by
  cases h
  show (nkT (ek k)).map (fun k => D.bl (!(under (m.map fun p => nk p.1) (m.map fun p => a p.2) k).isSome)) = _
  rw [Nk.nk k, Option.map_some, underN (Nk.inj ek)]
  cases getT m k <;> rfl
theorem o1_lenN : O1 (fun d => lenND [d]) (eDN o nk a) eI (fun m => some (m.length : Int)) := fun m z h => by
  cases h
  show some (D.int ((m.map fun p => nk p.1).length : Int)) = _
  rw [List.length_map]; rfl
theorem x_isiN {ty : String} {k : Bool} {om : Option (List (κ × α))} (hk : kitB "dict" ty = some k) (h : Ev (eDN o nk a) m ρ om) : Ev eB (isiNM ty m) ρ (om.bind fun _ => some k) := fun z hz => by
  obtain ⟨mm, h1, h2⟩ := ob_some hz
  cases h2
  unfold isiNM
  rw [h mm h1, Option.bind_some]
  show (kitB "dict" ty).map D.bl = _
  rw [hk]; rfl
theorem x_newN {a : α → D} : Ev (eDN true nk a) newN ρ (some ([] : List (κ × α))) := fun x hx => by cases hx; rfl
theorem b_dputN {σ : Type} {Q : Fl → List D → τ → Prop} {ev : σ → D} {env : σ → List D} {g : GM} {o : Option σ} {L : Lens} {mi : RM} {r : SM} {av : α → D} {v : σ → α} {xs : σ → List (κ × α)} {ok : σ → Option κ} {kt : σ × List (κ × α) → Option τ} [DecidableEq κ] [Nk ek nk] [Fz av] (env2 : σ × List (κ × α) → List D) (h : Eg ev env g ρ o) (hv : ∀ x, ev x = av (v x)) (hg : ∀ x, L.get (env x) = some (eDN true nk av (xs x))) (hi : ∀ x, Ev ek mi (env x) (ok x)) (hp : ∀ p, L.put (env p.1) (eDN true nk av p.2) = env2 p) (h3 : ∀ p, Bk Q r (env2 p) (kt p)) :
    Bk Q (seqM (dputN L mi g) r) ρ (o.bind fun x => (ok x).bind fun k => (putC (xs x) k (v x)).bind fun ys => kt (x, ys)) := fun t ht => by
  obtain ⟨x, h4, h5⟩ := ob_some ht
  obtain ⟨k, h6, h7⟩ := ob_some h5
  obtain ⟨ys, h8, h9⟩ := ob_some h7
  obtain ⟨fl, ρ', k1, k2⟩ := h3 _ t h9
  refine ⟨fl, ρ', ?_, k2⟩
  unfold putC at h8
  split at h8
  · rename_i hl
    cases h8
    unfold seqM dputN
    rw [h x h4, Option.bind_some]
    dsimp only
    rw [hg, Option.bind_some, hi x k h6, Option.bind_some]
    show (((nkT (ek k)).bind fun j => (if frzL ((xs x).map fun p => av p.2) = true ∧ frz (ev x) = true ∧ ((xs x).map fun p => nk p.1).length < LIM then some (Fl.nx, L.put (env x) (.dN true (putL ((xs x).map fun p => nk p.1) ((xs x).map fun p => av p.2) j (ev x)).1 (putL ((xs x).map fun p => nk p.1) ((xs x).map fun p => av p.2) j (ev x)).2)) else none : Option (Fl × List D))).bind _) = _
    rw [Nk.nk k, Option.bind_some, if_pos ⟨frzL2 _, by rw [hv]; exact Fz.fz _, by rw [List.length_map]; exact hl⟩, Option.bind_some, hv, put_eq nk (Nk.inj ek)]
    show r (L.put (env x) (eDN true nk av (putT (xs x) k (v x)))) = _
    rw [hp (x, _)]
    exact k1
  · cases h8
end
section
variable {X : Cx} {cl : Nat → Addr} {E : En} {e : Expr} {m : RM}
end
end LI

namespace LI
open PySem PySem.Spec PyProof.Rows L2 PySem.W

structure Sk (P : Program) (w : World) (κ : Type) [DecidableEq κ] where
  knd : KeyKind P w κ
  of : κ → Tok → Value
  key : Value → κ
  enc : κ → PyData
  vv : κ → V
  is_of : ∀ k t, knd.is k (of k t) = true
  is_iff : ∀ k j t, knd.is k (of j t) = true ↔ j = k
  scan : ∀ k t, (of k t).scannable = true
  key_of : ∀ k t, key (of k t) = k
  reads : ∀ (h : Heap) k t, Reads h (of k t) (enc k) []
  alk : ∀ k j, alike (enc k) (enc j) = true
  oth : ∀ k, enc k ≠ .none ∧ ∀ xs, enc k ≠ .tuple xs
  dep : ∀ k, (enc k).depth = 0
  rel : ∀ k t, RelV (vv k) (of k t)
  back : ∀ k u, RelV (vv k) u → ∃ t, u = of k t
  tr : ∀ a b c, dataLe false enc a b = true → dataLe false enc b c = true → dataLe false enc a c = true
  tot : ∀ a b, (dataLe false enc a b || dataLe false enc b a) = true
  anti : ∀ a b, dataLe false enc a b = true → dataLe false enc b a = true → a = b
section
variable {P : Program} {w : World} {κ : Type} [DecidableEq κ] {Z : Sk P w κ} {A : Around} {E : Value → Shared → Prop} {s : Shared} {q : Addr} {M : κ → Bool} {c : Nat}
def nub {α : Type} [DecidableEq α] : List α → List α
  | [] => []
  | k :: ks => if k ∈ ks then nub ks else k :: nub ks
end
end LI

namespace LI
open PySem PySem.Spec PyProof.Rows L2 PySem.W

section
variable {X : Cx} {κ : Type} [DecidableEq κ] {Z : Sk X.prog X.w κ}
end
def leN (a b : List Nat) : Bool := decide (a ≤ b)
section
variable {X : Cx} {cl : Nat → Addr} {E : En} {e : Expr} {m : RM} {pos p1 p2 pos2 : Pos}
end
def leTs (a b : Ts) : Bool := leN (a.map Char.toNat) (b.map Char.toNat)
theorem b_unO {α τ : Type} {Q : Fl → List D → τ → Prop} {m : SM} {env : Option α → List D} {k : α → Option τ} (o : Option α) (h : ∀ x, Bk Q m (env (some x)) (k x)) : Bk Q m (env o) (o.bind k) := by
  cases o with
  | none => exact fun t ht => by cases ht
  | some x => exact h x
end LI

namespace LI
open PySem PySem.Spec PyProof.Rows L2 PySem.W

def ItN (d : Addr) (o : Obj) (l : List (NestedKey × Addr × V)) : It :=
  ⟨fun i H => H d = some (exO d o) ∧ i < l.length, fun i H x H' => H' = H ∧ ∃ p, l[i]? = some p ∧ x = .ref p.2.1, fun i H => H d = some (exO d o) ∧ l.length ≤ i⟩
theorem dnE_get {w : World} : ∀ {l : List (NestedKey × Addr × V)} {es : List DictEntry}, DnE w l es → ∀ (i : Nat) p, l[i]? = some p → ∃ e, es[i]? = some e ∧ e.key = .ref p.2.1
  | _, _, .nil, i, p, h => by simp at h
  | _, _, .cons a r, 0, p, h => by simp at h; subst h; exact ⟨_, rfl, a.2.1⟩
  | _, _, .cons a r, i + 1, p, h => by
    obtain ⟨e, h1, h2⟩ := dnE_get r i p (by simpa using h)
    exact ⟨e, by simpa using h1, h2⟩
theorem ex_get {X : Cx} {pins : List (Addr × Obj)} {σ : L2.St} {H : Hp} {s : Shared} {d : Addr} {o : Obj} (I : Inv X pins σ H s) (h : H d = some (exO d o)) : s.heap.get? d = some o := (show ObjOk X.prog X.w H s.heap d (exO d o) from I.hok d _ h).1
section
variable {P : Program} {w : World} {K : PySem.W.Frag} {tg : Expr} {d : Addr} {o : Obj} {l : List (NestedKey × Addr × V)}
theorem turn_keysN {es : Array DictEntry} {ep : Nat} (it : Addr) (hod : o.data = .dict es ep) (he : DnE w l es.toList) : Turn P w K tg (ItN d o l) [it] it (fun i h => h.IsKeyIter it d i l.length ep) where
  mem := by simp
  obj := fun i h st b hb => by
    obtain rfl : b = it := by simpa using hb
    obtain ⟨oi, e, c, dd⟩ := st
    exact ⟨oi, e, fun v z => by rw [dd] at z; cases z⟩
  keep := fun i h h' st k => st.at fun oi e => k it (by simp) oi e
  item := by
    intro X hP hw hK hc i pins s σ H E I hf st hg
    subst hP hw hK
    obtain ⟨hd, hi⟩ := hg
    obtain ⟨f0, f1, f2, f3, f4, f5⟩ := hf it (by simp)
    have hgd := ex_get I hd
    have hsz : es.size = l.length := by rw [← Array.length_toList, ← Paired.length he]
    obtain ⟨en, hen, hkey⟩ := dnE_get he i l[i] (List.getElem?_eq_getElem hi)
    refine next_key_item st hgd hod hsz (by rw [← Array.getElem?_toList]; exact hen) fun h' st' sb => ?_
    have I1 : Inv X pins σ H { s with heap := h' } := I.turned (t' := s.toks) (fun b ob hb e => (sb.2 b hb).trans e) f0 f1 f3 f4 f5
    obtain ⟨oi, e, c, dd⟩ := id st'
    exact ⟨en.key, rfl, go_of (s := { s with heap := h' }) e c dd (by decide) ⟨.ref l[i].2.1, H, I1, hkey, ⟨rfl, l[i], List.getElem?_eq_getElem hi, rfl⟩, st', fun b hb => (hf b hb).1⟩⟩
  done := by
    intro X hP hw hK hc i pins s σ H E I hf st hg
    subst hP hw hK
    obtain ⟨hd, hi⟩ := hg
    obtain ⟨f0, f1, f2, f3, f4, f5⟩ := hf it (by simp)
    have hsz : es.size = l.length := by rw [← Array.length_toList, ← Paired.length he]
    exact next_key_end (I.ok.hd hc) st (ex_get I hd) hod hsz hi fun h' eb => ⟨rfl, I.turned (t' := s.toks) (fun b ob hb e => eb b ob hb e) f0 f1 f3 f4 f5⟩
  self := fun A i s Q E st h => wpAny_pyIter_keyiter st h
end
def iKeysN (w : World) (td : TE) : TI := fun σ H R => td σ H fun x H1 => ∃ d o l, x = .ref d ∧ (d == sysModules) = false ∧ H1 d = some (exO d o) ∧ DnObj w l o ∧ R (ItN d o l) H1
theorem pi_keysN {X : Cx} {tg e : Expr} {td : TE} (he : PE X e td) : PI X tg e (iKeysN X.w td) := by
  refine ⟨fun pins s σ H R I h => ?_⟩
  refine thn (he.run pins s σ H _ I h) fun u s1 ⟨x, H1, I1, rx, d, o, l, ex, hs, hd, ⟨hx, es, ep, hdt, hen⟩, q⟩ => ?_
  subst ex
  obtain rfl : u = Value.ref d := rx
  have hsz : es.size = l.length := by rw [← Array.length_toList, ← Paired.length hen]
  refine iter_keys hs (ex_get I1 hd) hx hdt (pi_one (tk := s1.toks) I1 _ (turn_keysN _ hdt hen) ⟨_, Heap.get?_push_size _ rfl, rfl, ?_⟩ q)
  rw [hsz]; rfl
theorem walk_keysN {d : Addr} {o : Obj} {l : List (NestedKey × Addr × V)} : Walk (ItN d o l) l.length (fun H => H d = some (exO d o)) (fun i H x H' => H' = H ∧ ∃ p, l[i]? = some p ∧ x = .ref p.2.1) :=
  ⟨fun _ _ hi q => ⟨q, hi⟩, fun _ q => ⟨q, Nat.le_refl _⟩, fun _ _ _ _ _ _ y => y⟩
mutual
def nkD : NestedKey → D
  | .none => .non
  | .num i => .int i
  | .text x => .str x.cps.toList
  | .tup ks => .tup (nkDs ks)
def nkDs : List NestedKey → List D
  | [] => []
  | k :: ks => nkD k :: nkDs ks
end
mutual
theorem nkD_rep {c : LC} {P H : Hp} : ∀ (k : NestedKey) (v : V), NkRep c.K P k v → Rep c P H (nkD k) v fz
  | .none, v, h => ⟨h, rfl⟩
  | .num i, v, h => ⟨h, rfl⟩
  | .text x, v, h => ⟨(show v = V.str x from h).trans (by cases x; simp), rfl⟩
  | .tup ks, v, ⟨a, xs, e, q, r⟩ => ⟨a, xs, e, q, nkDs_rep ks xs r⟩
theorem nkDs_rep {c : LC} {P H : Hp} : ∀ (ks : List NestedKey) (vs : List V), NkAll c.K P ks vs → RepL c P H (nkDs ks) vs fz
  | [], vs, h => ⟨h, rfl⟩
  | k :: ks, vs, ⟨y, ys, e, h1, h2⟩ => ⟨y, ys, fz, fz, e, nkD_rep k y h1, nkDs_rep ks ys h2, by rw [fa_fz]⟩
end
theorem zip3_get {ks : List NestedKey} : ∀ {bs : List Addr} {xs : List V}, ks.length = bs.length → ks.length = xs.length → ∀ (i : Nat) (p : NestedKey × Addr × V), (ks.zip (bs.zip xs))[i]? = some p → ks[i]? = some p.1 ∧ bs[i]? = some p.2.1 := by
  induction ks with
  | nil => intro bs xs _ _ i p h; simp at h
  | cons k ks ih =>
    intro bs xs h1 h2 i p h
    cases bs with
    | nil => simp at h1
    | cons b bs =>
      cases xs with
      | nil => simp at h2
      | cons x xs =>
        cases i with
        | zero => simp at h; subst h; exact ⟨rfl, rfl⟩
        | succ i => exact ih (by simpa using h1) (by simpa using h2) i p (by simpa using h)
def itN (m : RM) : AM := fun ρ => (m ρ).bind fun d => match d with
  | .dN false ks _ => some (ks.map nkD)
  | _ => none
section
variable {X : Cx} {cl : Nat → Addr} {E : En} {e tg : Expr} {m : RM} {pos p : Pos}
theorem i_dN (h : PE X e (tR ⟨X.K, cl, X.w⟩ E m)) : PI X tg e (tI ⟨X.K, cl, X.w⟩ E (itN m)) := by
  refine PI_imp (pi_keysN h) fun σ H R ⟨P, S, T, ρ, ds, w, hm, q⟩ => ?_
  unfold itN at hm
  cases ea : m ρ with
  | none => rw [ea] at hm; cases hm
  | some d =>
    rw [ea, Option.bind_some] at hm
    split at hm
    · rename_i ks vs
      cases hm
      refine ⟨P, S, T, ρ, _, w, ea, fun v H1 P1 U1 g1 r1 => ?_⟩
      obtain ⟨a, bs, xs, e1, ⟨o, ho, hobj⟩, ok, n, rl⟩ := r1
      refine ⟨a, o, _, e1, ok.ne, g1.ph _ _ ho, hobj, q _ H1 P1 g1 ?_⟩
      have hlen : (ks.zip (bs.zip xs)).length = (ks.map nkD).length := by rw [List.length_zip, List.length_zip, ← ok.len, ← n, Nat.min_self, Nat.min_self, List.length_map]
      refine ⟨_, _, by rw [← hlen]; exact walk_keysN, fun P2 H2 e1 e2 => e2 _ _ (e1 _ _ ho), fun i P2 H2 x H3 e1 e2 hi y => ?_⟩
      obtain ⟨rfl, p, hp, rfl⟩ := y
      obtain ⟨h1, h2⟩ := zip3_get ok.len n i p hp
      have hmem : (p.1, p.2.1) ∈ ks.zip bs := zip3_mem (List.mem_of_getElem? hp)
      refine ⟨P2, nkD p.1, .refl e2, by rw [List.getElem?_map, h1]; rfl, nkD_rep p.1 _ ?_⟩
      exact ((ok.at_ _ hmem).1).up e1
    · cases hm
end
section
variable {X : Cx} {pins : List (Addr × Obj)} {σ : L2.St} {H : Hp} {s : Shared}
end
end LI

namespace LI
open PySem PySem.Spec PyProof.Rows L2
class Nb {κ : Type} (e : κ → D) (f : κ → NestedKey) : Prop where
  nb : ∀ x, nkD (f x) = e x
instance : Nb eI nI := ⟨fun _ => rfl⟩
instance {α β : Type} {a : α → D} {b : β → D} {f : α → NestedKey} {g : β → NestedKey} [Nb a f] [Nb b g] : Nb (e2 a b) (n2 f g) := ⟨fun x => by
  show D.tup [nkD (f x.1), nkD (g x.2)] = .tup [a x.1, b x.2]
  rw [Nb.nb (e := a), Nb.nb (e := b)]⟩
section
variable {α κ : Type} {ek : κ → D} {nk : κ → NestedKey} {a : α → D} {ρ : List D} {m : RM} {o : Bool}
theorem keysN_map [Nb ek nk] : ∀ xs : List (κ × α), (xs.map fun p => nk p.1).map nkD = (xs.map fun p => p.1).map ek
  | [] => rfl
  | p :: xs => by simp only [List.map_cons]; rw [Nb.nb (e := ek) (f := nk), keysN_map xs]
def keysT (xs : List (κ × α)) : List κ := xs.map fun p => p.1
theorem ei_dN [Nb ek nk] {ox : Option (List (κ × α))} (h : Ev (eDN false nk a) m ρ ox) : Ei ek (itN m) ρ (ox.bind fun x => some (keysT x)) := fun z hz => by
  obtain ⟨x, h1, h2⟩ := ob_some hz
  cases h2
  unfold itN
  rw [h x h1, Option.bind_some]
  show some ((x.map fun p => nk p.1).map nkD) = _
  rw [keysN_map (ek := ek)]; rfl
end
end LI

namespace LI
open PySem L2
def undIx {κ : Type} [DecidableEq κ] : List κ → κ → Option Nat
  | [], _ => none
  | j :: ks, k => if j = k then some 0 else (undIx ks k).map (· + 1)
theorem undIx_val {κ : Type} [DecidableEq κ] {k : κ} : ∀ {ks : List κ} {xs : List V} {j : Nat} {x : V}, undIx ks k = some j → xs[j]? = some x → valV (ks.zip xs) k = some x
  | [], _, _, _, h, _ => by cases h
  | i :: ks, [], j, x, h, hx => by simp at hx
  | i :: ks, y :: xs, j, x, h, hx => by
    unfold undIx at h
    rw [List.zip_cons_cons]
    by_cases e : i = k
    · rw [if_pos e] at h; cases h
      simp at hx; subst hx
      exact valV_pos (p := (i, y)) e
    · rw [if_neg e] at h
      rw [valV_neg (p := (i, y)) e]
      cases z : undIx ks k with
      | none => rw [z] at h; cases h
      | some t =>
        rw [z] at h; cases h
        exact undIx_val z (by simpa using hx)
def updT {κ α : Type} [DecidableEq κ] : List (κ × α) → κ → α → List (κ × α)
  | [], _, _ => []
  | p :: m, k, y => if p.1 = k then (p.1, y) :: m else p :: updT m k y
section
variable {α β κ σ τ : Type} [DecidableEq κ] {o : Bool} {a : α → D} {ek : κ → D} {kq : κ → Key} [Ky ek kq] {ρ : List D} {L : Lens} {mi : RM} {g : GM}
end
end LI

namespace LI
open PySem PySem.Spec PyProof.Rows L2 PySem.W
section
variable {prog : Program} {w : World} {A : Around} {E : Value → Shared → Prop} {s : Shared}
end
section
variable {X : Cx} {cl : Nat → Addr} {E : En} {e : Expr} {m : RM} {pos p1 p2 kpos : Pos}
end
end LI

namespace LI
open PySem PySem.Spec PyProof.Rows L2 PySem.W
section
variable {X : Cx} {cl : Nat → Addr} {E : En} {a b : Expr} {ga gb : GM} {pos : Pos}
end
section
variable {X : Cx} {cl : Nat → Addr} {E : En} {a : Expr} {g : GM} {pos : Pos}
end
end LI

namespace LI
open PySem PySem.Spec PyProof.Rows L2 PySem.W
section
variable {P : Program} {w : World} {K : PySem.W.Frag} {mg : Str → Option Value} {base : Heap} {sp : Sp}
end
section
variable {X : Cx} {cl : Nat → Addr} {E : En} {rest : List Stmt} {ma mb : SM}
end
section
variable {X : Cx} {cl : Nat → Addr} {E : En} {k : Nat} {f : Addr} {fd : FuncData} {F : FM} {CX : CXT} {XE : XK} {x y z : Str} {p cp apos pos c0 c1 : Pos} {j0 j1 : Nat}
end
section
variable {X : Cx} {cl : Nat → Addr} {E : En} {e o : Expr} {pos apos : Pos} {m mo : RM}
end
end LI

namespace LI
open PySem L2
section
variable {X : Cx} {cl : Nat → Addr} {E : En} {pos pos2 : Pos}
end
end LI

namespace LI
open PySem PySem.Spec PyProof.Rows L2 PySem.W
section
variable {X : Cx} {cl : Nat → Addr} {E : En} {pos : Pos}
end
section
variable {X : Cx} {cl : Nat → Addr} {E : En} {e : Expr} {es : List Expr} {pos p apos px : Pos} {ms : AGM} {CX : CXT} {k : Nat} {f : Addr} {fd : FuncData} {ps : List Str} {F : FM} {XE : XK} {x nm : Str}
end
section
variable {P : Program} {w : World} {K : PySem.W.Frag} {mg : Str → Option Value} {base : Heap} {cl : Nat → Addr}
end
section
variable {X : Cx} {cl : Nat → Addr} {E : En} {e : Expr} {es : List Expr} {pos p : Pos} {ms : AM} {CX : CXT} {k : Nat} {f : Addr} {fd : FuncData} {ps : List Str} {F : FM} {XE : XK} {x : Str} {dd : List D} {dvs : List V} {us : List Value}
end
section
variable {K : PySem.W.Frag} {x qual : Str} {st : Stmt} {dvs : List V} {f : Addr} {fd : FuncData} {ps : List Str}
end
section
variable {X : Cx} {cl : Nat → Addr} {E : En} {e : Expr} {es : List Expr} {pos p : Pos} {ms : AGM} {x : Str}
end
section
variable {X : Cx} {cl : Nat → Addr} {E : En} {pos : Pos}
end
section
variable {X : Cx} {cl : Nat → Addr} {E : En} {pos p1 p2 p3 : Pos} {e : Expr} {m : RM} {k : Nat}
end
section
variable {X : Cx} {cl : Nat → Addr} {E : En} {e : Expr} {es : List Expr} {pos p : Pos} {ms : AM} {CX : CXT} {k : Nat} {f : Addr} {fd : FuncData} {ps : List Str} {F : FM} {XE : XK} {x : Str} {dd : List D} {dvs : List V}
end
section
variable {X : Cx} {cl : Nat → Addr} {E : En} {e : Expr} {es : List Expr} {pos p : Pos} {ms : AGM} {CX : CXT} {k : Nat} {f : Addr} {fd : FuncData} {ps : List Str} {F : FM} {XE : XK} {x : Str} {dd : List D} {dvs : List V}
end
section
variable {X : Cx} {cl : Nat → Addr} {E : En} {a : Expr} {pos p2 : Pos} {ma : RM}
end
section
variable {X : Cx} {cl : Nat → Addr} {E : En} {e o : Expr} {pos apos : Pos} {m mo : RM}
end
section
variable {X : Cx} {cl : Nat → Addr} {E : En} {e o : Expr} {pos apos : Pos} {m mo : RM}
end
section
variable {X : Cx} {e : Expr} {te : TE} {apos cpos pos p : Pos}
end
section
variable {X : Cx} {cl : Nat → Addr} {E : En} {e : Expr} {apos cpos pos p : Pos} {m : RM}
end
end LI

namespace LI
open PySem PySem.Spec PyProof.Rows L2 PySem.W
section
variable {X : Cx}
end
section
variable {κ α : Type} {ek : κ → D} {kk : κ → Key} {a b e' : α → D} {n : Nat}
end
section
variable {X : Cx} {cl : Nat → Addr} {E : En} {e : Expr} {es : List Expr} {pos p : Pos} {ms : AGM} {x : Str}
end
end LI

namespace LI
open PySem L2
section
variable {α : Type} {e : α → D} {m : RM} {ρ : List D} {o : Option (List α)} {w : Bool}
end
section
variable {X : Cx} {cl : Nat → Addr} {E : En} {tg a b c : Expr} {pos : Pos} {ma mb mc : RM}
end
section
variable {ρ : List D} {ma mb mc : RM}
end
end LI
namespace LRV
open PySem PySem.Spec PyProof.Rows PySem.W RT L2
section
variable {prog : Program} {w : World} {A : Around} {E : Value → Shared → Prop} {s : Shared}
end
section
variable {X : Cx}
end
end LRV
namespace LI
open PySem L2
section
variable {X : Cx} {cl : Nat → Addr} {E : En} {pos p p2 pos2 : Pos} {e : Expr} {m : RM}
end
end LI
namespace LI
open PySem L2
def PeA (a : An) : Prop := ∃ p, toP a.d = some p ∧ p.canLay0 = true ∧ p.depth ≤ 20 ∧ p.eqv p = true
theorem PeA.mk {α : Type} [DecidableEq α] {e : α → D} {n : Nat} [Pe e n] (hn : n ≤ 20) {a : An} {x : α} (h : a.d = e x) : PeA a :=
  ⟨Pe.p e x, by rw [h]; exact Pe.to (e := e) x, Pe.lay (e := e) x, Nat.le_trans (Pe.dep (e := e) x) hn, by rw [Pe.eq (e := e)]⟩
end LI

namespace LI
open PySem L2
def getN2M (ma mb mc : RM) : RM := fun ρ => (ma ρ).bind fun d => (mb ρ).bind fun k => (mc ρ).bind fun x => match d with
  | .dN _ ks ds => (nkT k).map fun k => (under ks ds k).getD x
  | _ => none
theorem getN2_split {ma mb mc : RM} {ρ : List D} {r : D} (h : getN2M ma mb mc ρ = some r) : ∃ o ks ds dk k x, ma ρ = some (.dN o ks ds) ∧ mb ρ = some dk ∧ nkT dk = some k ∧ mc ρ = some x ∧ r = (under ks ds k).getD x := by
  unfold getN2M at h
  cases e1 : ma ρ with
  | none => rw [e1] at h; cases h
  | some d =>
    cases e2 : mb ρ with
    | none => rw [e1, e2] at h; cases h
    | some dk =>
      cases e3 : mc ρ with
      | none => rw [e1, e2, e3] at h; cases h
      | some x =>
        rw [e1, e2, e3, Option.bind_some, Option.bind_some, Option.bind_some] at h
        split at h
        · rename_i o ks ds
          obtain ⟨k, ek, h⟩ := nkT_some h
          exact ⟨o, ks, ds, dk, k, x, rfl, rfl, ek, rfl, h⟩
        · cases h
section
variable {X : Cx} {cl : Nat → Addr} {E : En} {e o f0 : Expr} {apos cpos : Pos} {ma mb mc : RM}
theorem r_getN2 (hu : X.A.units + 9 < cLine) (ho : PE X o (tR ⟨X.K, cl, X.w⟩ E ma)) (he : PE X e (tR ⟨X.K, cl, X.w⟩ E mb)) (hf : PE X f0 (tR ⟨X.K, cl, X.w⟩ E mc)) (hm : M2 X o "get" apos e f0 cpos := by exact ⟨rfl, rfl, rfl, rfl⟩) : PE X (.Call (.Attribute o "get" apos) [e, f0] [] cpos) (tR ⟨X.K, cl, X.w⟩ E (getN2M ma mb mc)) :=
  PE_imp (pe_dget2N hu ho he hf hm) fun σ H Q ⟨P, S, T, ρ, d, w, hm, q⟩ => by
    obtain ⟨o, ks, ds, dk, k, x, e1, e2, e3, e4, rfl⟩ := getN2_split hm
    refine ⟨P, S, T, ρ, _, w, e1, fun v H1 P1 U1 g1 r1 => ?_⟩
    obtain ⟨a, bs, xs, T1, rfl, h1, ok, n1, rl, _⟩ := dn_heap g1.ph r1
    refine ⟨a, rfl, ⟨_, h1, nok_of g1.ph ok n1⟩, P1, S, T, ρ, dk, w.grow g1, e2, fun y H2 P2 U2 g2 r2 => ?_⟩
    refine ⟨P2, S, T, ρ, x, w.grow (g1.trans g2), e4, fun z H3 P3 U3 g3 r3 => ?_⟩
    obtain ⟨kb, e5, hk, hd⟩ := nkT_v e3 r2
    refine ⟨valV (ks.zip xs) k, ⟨_, k, kb, (h1.of (g2.h _)).of (g3.h _), nok_of (fun a o z => g3.h a o (g2.h a o (g1.ph a o z))) ok n1, e5, (hk.up g2.ph).up g3.h, hd, (valN_zip ok.len n1).symm⟩, ?_⟩
    have hv := valNk_under n1 (rl.gr (g2.trans g3)) k
    cases hz : under ks ds k with
    | some d =>
      rw [hz] at hv q
      obtain ⟨x', T', hx, hr, _⟩ := hv
      rw [hx]
      exact q _ _ _ _ ((g1.trans g2).trans g3) hr
    | none =>
      rw [hz] at hv q
      rw [hv]
      exact q _ _ _ _ ((g1.trans g2).trans g3) r3
end
theorem x_getN2 {κ α : Type} {nk : κ → NestedKey} {a : α → D} {ek : κ → D} {ma mb mc : RM} {ρ : List D} {o : Bool} [DecidableEq κ] [Nk ek nk] {om : Option (List (κ × α))} {ok : Option κ} {oc : Option α} (h : Ev (eDN o nk a) ma ρ om) (hk : Ev ek mb ρ ok) (hc : Ev a mc ρ oc) : Ev a (getN2M ma mb mc) ρ (om.bind fun m => ok.bind fun k => oc.bind fun x => some ((getT m k).getD x)) := fun z hz => by
  obtain ⟨m, h1, h2⟩ := ob_some hz
  obtain ⟨k, h3, h4⟩ := ob_some h2
  obtain ⟨x, h5, h6⟩ := ob_some h4
  cases h6
  unfold getN2M
  rw [h m h1, Option.bind_some, hk k h3, Option.bind_some, hc x h5, Option.bind_some]
  show (nkT (ek k)).map (fun k => Option.getD (under (m.map fun p => nk p.1) (m.map fun p => a p.2) k) (a x)) = _
  rw [Nk.nk k, Option.map_some, underN (Nk.inj ek)]
  cases getT m k <;> rfl
end LI
namespace LI
open PySem L2
def inLB (x y : D) : Option Bool := match y with
  | .lst _ ds => (toP x).bind fun p => (toPL ds).bind fun ps => if SeqAt.shaped p = true ∧ SeqAt.shaped (.list ps) = true then some (ps.any fun z => PyData.eqv z p) else none
  | _ => none
def inLD (x y : D) : Option D := (inLB x y).map .bl
def ninLD (x y : D) : Option D := (inLB x y).map fun b => .bl (!b)
theorem inLB_dp {c : LC} {P H : Hp} (e : Ex P H) {da db : D} {k : Bool} {x y : V} {U1 U2 : FP} (h : inLB da db = some k) (r1 : Rep c P H da x U1) (r2 : Rep c P H db y U2) : ∃ d ds, Dp c.K H x d ∧ Dp c.K H y (.list ds) ∧ SeqAt.shaped d = true ∧ SeqAt.shaped (.list ds) = true ∧ k = ds.any fun z => PyData.eqv z d := by
  unfold inLB at h
  split at h
  · rename_i o ds
    cases e1 : toP da with
    | none => rw [e1] at h; cases h
    | some p =>
      cases e2 : toPL ds with
      | none => rw [e1, e2] at h; cases h
      | some ps =>
        rw [e1, e2, Option.bind_some, Option.bind_some] at h
        split at h
        · rename_i hs
          cases h
          have e3 : toP (.lst o ds) = some (.list ps) := by
            show (toPL ds).map PyData.list = _
            rw [e2]; rfl
          exact ⟨p, ps, dp_of e _ _ _ _ e1 r1, dp_of e _ _ _ _ e3 r2, hs.1, hs.2, rfl⟩
        · cases h
  · cases h
theorem op_inLD {c : LC} : Op2 c (rInD c.K) inLD := by
  intro P H e da db d x y U1 U2 hf r1 r2 Q q
  unfold inLD at hf
  cases z : inLB da db with
  | none => rw [z] at hf; cases hf
  | some k =>
    rw [z] at hf; cases hf
    obtain ⟨p, ps, d1, d2, s1, s2, rfl⟩ := inLB_dp e z r1 r2
    exact ⟨p, ps, d1, d2, s1, s2, q.flat e ⟨rfl, rfl⟩⟩
theorem op_ninLD {c : LC} : Op2 c (rNotInD c.K) ninLD := by
  intro P H e da db d x y U1 U2 hf r1 r2 Q q
  unfold ninLD at hf
  cases z : inLB da db with
  | none => rw [z] at hf; cases hf
  | some k =>
    rw [z] at hf; cases hf
    obtain ⟨p, ps, d1, d2, s1, s2, rfl⟩ := inLB_dp e z r1 r2
    exact ⟨p, ps, d1, d2, s1, s2, q.flat e ⟨rfl, rfl⟩⟩
theorem toPL_map {α : Type} {e : α → D} {n : Nat} [Pe e n] : ∀ xs : List α, toPL (xs.map e) = some (xs.map (Pe.p e)) ∧ PyData.canLayAll0 (xs.map (Pe.p e)) = true ∧ PyData.depthAll (xs.map (Pe.p e)) ≤ n
  | [] => ⟨rfl, by simp [PyData.canLayAll0], by simp [PyData.depthAll]⟩
  | x :: xs => by
    obtain ⟨a, b, c⟩ := toPL_map (e := e) xs
    have h1 := Pe.to (e := e) x
    have h2 := Pe.lay (e := e) x
    have h3 := Pe.dep (e := e) x
    exact ⟨by simp [toPL, h1, a], by simp [PyData.canLayAll0, h2, b], by simp [PyData.depthAll]; omega⟩
theorem inLB_mem {α : Type} [DecidableEq α] {e : α → D} {n : Nat} [Pe e n] (hn : n ≤ 60) (o : Bool) (x : α) (xs : List α) : inLB (e x) (eL o e xs) = some (memT x xs) := by
  obtain ⟨a, b, c⟩ := toPL_map (e := e) xs
  have h1 := Pe.to (e := e) x
  have h2 := Pe.lay (e := e) x
  have h3 := Pe.dep (e := e) x
  show (toP (e x)).bind (fun p => (toPL (xs.map e)).bind fun ps => if SeqAt.shaped p = true ∧ SeqAt.shaped (.list ps) = true then some (ps.any fun z => PyData.eqv z p) else none) = _
  rw [h1, a, Option.bind_some, Option.bind_some, if_pos ⟨by simp [SeqAt.shaped, h2]; omega, by simp [SeqAt.shaped, PyData.canLay0, PyData.depth, b]; omega⟩]
  congr 1
  unfold memT
  rw [Bool.eq_iff_iff, decide_eq_true_iff, List.any_eq_true]
  constructor
  · rintro ⟨z, hz, hq⟩
    obtain ⟨y, hy, rfl⟩ := List.mem_map.mp hz
    have := (Pe.eq (e := e) y x).mp hq
    exact this ▸ hy
  · intro hx
    exact ⟨_, List.mem_map.mpr ⟨x, hx, rfl⟩, (Pe.eq (e := e) x x).mpr rfl⟩
theorem o2_inL {α : Type} [DecidableEq α] {e : α → D} {n : Nat} [Pe e n] (hn : n ≤ 60) {o : Bool} : O2 inLD e (eL o e) eB (fun x xs => some (memT x xs)) := o2_tot fun x xs => by
  unfold inLD; rw [inLB_mem hn]; rfl
theorem o2_ninL {α : Type} [DecidableEq α] {e : α → D} {n : Nat} [Pe e n] (hn : n ≤ 60) {o : Bool} : O2 ninLD e (eL o e) eB (fun x xs => some (!memT x xs)) := o2_tot fun x xs => by
  unfold ninLD; rw [inLB_mem hn]; rfl
end LI

namespace LI
open PySem L2
section
variable {c : LC} {E : En} {P : Hp} {S T : FP} {σ : L2.St} {H : Hp} {ρ : List D}
end
end LI
namespace LI
open PySem L2
section
variable {X : Cx} {cl : Nat → Addr} {E : En} {pos : Pos}
end
section
variable {X : Cx} {cl : Nat → Addr} {E : En} {tg : Expr} {pos p : Pos} {x : Str}
end
section
variable {α σ τ : Type} {Q : Fl → List D → τ → Prop} {e : α → D} {r body : SM} {ρ : List D} {k : List α × σ → Option τ} {kl : List Nat}
end
end LI

namespace LI
open PySem L2
section
variable {X : Cx} {cl : Nat → Addr} {E : En} {pos apos : Pos} {o e : Expr} {g : GM} {m : RM}
end
section
variable {α β σ τ υ : Type} {Q : Fl → List D → υ → Prop} {e : α → D} {m body : SM} {ρ : List D} {f : TgM} {kl : List Nat} {ev : τ → D} {env : τ → List D} {g : GM} {o : Option τ}
end
end LI

namespace LI
open PySem PySem.Spec PyProof.Rows L2
theorem u65 {k : Nat} {A : Around} (r : Room k A) : A.units + 65 < cLine := by have := r.un; omega
def DSetN (K : PySem.W.Frag) (w : World) (H : Hp) (a : Addr) (y z : V) (Q : VK) : Prop :=
  ∃ l k b, DnAt w H a l ∧ NOk K H a l ∧ y = .ref b ∧ NkRep K H k (.ref b) ∧ k.depth ≤ 8 ∧ l.length < sizeLine ∧ (∀ v, valN l k = some v → Q v H) ∧ (valN l k = none → ∀ o, DnObj w (putN l k b z) o → Q z (upd H a (exO a o)))
section
variable {X : Cx} {pins : List (Addr × Obj)} {σ : L2.St} {H : Hp} {s : Shared}
variable {a : Addr} {y z d : V} {u r : Value} {A : Around} {E : Value → Shared → Prop}
theorem dn_setdef {QQ : VK} {Q : Value → Shared → Prop} (hu : A.units + 9 < cLine) (I : Inv X pins σ H s) (g : DSetN X.K X.w H a y z QQ) (ry : RelV y u) (rz : RelV z r) (h : ∀ v H' w' s', QQ v H' → RelV v w' → Inv X pins σ H' s' → Q w' s') :
    wpAny (model X.prog X.w) A (call (.builtin "dict.setdefault") [.ref a, u, r]) Q E s := by
  obtain ⟨l, k, b, e, ok, ey, hk, hd, hl, q1, q2⟩ := g
  subst ey
  cases (show u = Value.ref b from ry)
  obtain ⟨xs, rel, dd⟩ := dn_of I e ok
  have hz : xs.length ≤ sizeLine := by rw [← Paired.length rel]; exact ok.le
  have hv := kn_val k rel
  refine call_setdefault_heap (hsz := hz) (nroom hu) (nk_key I hk hd) ok.ne dd (fun p hp => ?_) (fun hn h' dd' hs => ?_)
  · rw [hp, Option.map_some] at hv
    cases q0 : valN l k with
    | none => rw [q0] at hv; exact (show False from hv).elim
    | some v0 => rw [q0] at hv; exact h v0 H _ _ (q1 v0 q0) hv (I.tok _)
  · rw [hn, Option.map_none] at hv
    cases q0 : valN l k with
    | some v0 => rw [q0] at hv; exact (show False from hv).elim
    | none =>
      obtain ⟨o', ho, hq⟩ := dn_obj (kn_put rel k b rz) dd'
      obtain ⟨o0, e0, _⟩ := e
      exact h z _ _ _ (q2 q0 o' ho) rz (d_write I (by rw [e0]; exact True.intro) hs ⟨o', hq⟩ (ex_ok hq))
end
def tDSetN (K : PySem.W.Frag) (w : World) (td ty tx : TE) : TE := fun σ H Q => td σ H fun x H1 => ∃ a, x = .ref a ∧ IsDN K w H1 a ∧ ty σ H1 fun y H2 => tx σ H2 fun z H3 => DSetN K w H3 a y z Q
section
variable {X : Cx} {o e f : Expr} {td ty tx : TE} {apos cpos : Pos}
theorem pe_dsetN (hu : X.A.units + 9 < cLine) (ho : PE X o td) (he : PE X e ty) (hf : PE X f tx) (m : M2 X o "setdefault" apos e f cpos) : PE X (.Call (.Attribute o "setdefault" apos) [e, f] [] cpos) (tDSetN X.K X.w td ty tx) := by
  refine ⟨fun pins s σ H Q I h => ?_⟩
  refine wpAny_Call_method m.base m.few m.line PySem.F.plainAttrs_dict PySem.F.slot_dict_setdefault PySem.F.type_dict_setdefault (thn (ho.run pins s σ H _ I h) fun u s1 ⟨x, H1, I1, rx, a, ex, d, q1⟩ => ?_)
  subst ex
  obtain rfl : u = Value.ref a := rx
  obtain ⟨t1, t2, _⟩ := isDN_at I1 d
  refine ⟨t1, t2, ?_⟩
  rw [m.trees]
  refine Calls.callWith_builtin rfl (Calls.evalArgs_plain (Calls.spliced_cons (thn (he.run pins s1 σ H1 _ I1 q1) fun iv s2 ⟨y, H2, I2, ry, q2⟩ =>
    Calls.spliced_cons (thn (hf.run pins s2 σ H2 _ I2 q2) fun fv s3 ⟨z, H3, I3, rz, g⟩ => Calls.spliced_nil ?_))))
  exact dn_setdef hu I3 g ry rz fun v H4 w' s4 q3 rw' I4 => ⟨v, H4, I4, rw', q3⟩
end
section
variable {c : LC} {E : En} {P H : Hp} {S T : FP} {σ : L2.St} {ρ : List D} {L : Lens} {v : V} {d : D} {Sd R : FP}
theorem Wd.lens_take (w : Wd c E P S T σ H ρ) (l : Loc c L P H σ ρ S v d Sd R) : Wd c E P (fa fz R) (fa T Sd) σ H (L.put ρ .gone) := by
  have henv := l.put P H .gone fz (.refl P) (fun _ _ _ h => h) rfl
  refine ⟨henv, fun b => ?_, fun b h => w.out b ?_, fun b h => ?_, w.ph, w.p0, w.fr, w.np, fun b h => w.ns b ?_, w.kp⟩
  · have := w.le b; have := l.sum b; simp only [fa, fz] at *; omega
  · have := l.sum b; simp only [fa, fz] at *; omega
  · by_cases z : 0 < T b
    · exact w.th b z
    · exact Rep.there d v Sd l.rep b (by simp only [fa] at h; omega)
  · have := l.sum b; simp only [fa, fz] at *; omega
theorem wd_updA (w : Wd c E P S T σ H ρ) {a : Addr} {o : HO} (ha : 0 < T a) : Wd c E P S T σ (upd H a o) ρ := by
  have h1 := w.le a
  have hS : ∀ b, 0 < S b → b ≠ a := fun b h e => by subst e; omega
  refine ⟨RepE.mono (.refl P) ρ σ S (fun b u h k => by rw [upd_ne (hS b h)]; exact k) w.env, w.le, w.out, fun b h => ?_, fun b u h => ?_, w.p0, fun b u k1 k2 => ?_, w.np, w.ns, w.kp⟩
  · by_cases q : b = a
    · subst q; rw [upd_same]; simp
    · rw [upd_ne q]; exact w.th b h
  · have hb : b ≠ a := fun e => by
      subst e
      have := w.out b (by omega)
      rw [h] at this; cases this
    rw [upd_ne hb]; exact w.ph b u h
  · have hb : b ≠ a := fun e => by
      subst e
      rcases w.ns b (by omega) with q | q
      · omega
      · rw [k2] at q; cases q
    rw [upd_ne hb]; exact w.fr b u k1 k2
end
theorem undIx_none {κ : Type} [DecidableEq κ] {k : κ} : ∀ {ks : List κ} {xs : List V}, undIx ks k = none → valV (ks.zip xs) k = none ∧ (ks.any fun j => decide (j = k)) = false
  | [], xs, _ => ⟨by cases xs <;> rfl, rfl⟩
  | i :: ks, xs, h => by
    unfold undIx at h
    by_cases e : i = k
    · rw [if_pos e] at h; cases h
    · rw [if_neg e] at h
      have h2 : undIx ks k = none := by
        cases z : undIx ks k with
        | none => rfl
        | some t => rw [z] at h; cases h
      refine ⟨?_, by rw [List.any_cons, decide_eq_false e, (undIx_none (xs := []) h2).2]; rfl⟩
      cases xs with
      | nil => rfl
      | cons x xs => rw [List.zip_cons_cons, valV_neg (p := (i, x)) e]; exact (undIx_none (xs := xs) h2).1
def sdaM (L : Lens) (mi mx : RM) : GM := fun ρ => (L.get ρ).bind fun d => (mi ρ).bind fun kd => match d with
  | .dN true ks ds => (nkT kd).bind fun k => (mx (L.put ρ .gone)).bind fun x => if ks.length < LIM then (match undIx ks k with
    | some j => (match ds[j]? with
      | some (.lst true xs) => if xs.length < LIM then some (.non, L.put ρ (.dN true ks (ds.set j (.lst true (xs ++ [x]))))) else none
      | _ => none)
    | none => some (.non, L.put ρ (.dN true (ks ++ [k]) (ds ++ [.lst true [x]])))) else none
  | _ => none
theorem sda_split {L : Lens} {mi mx : RM} {ρ : List D} {r : D × List D} (h : sdaM L mi mx ρ = some r) : ∃ ks ds kd k x, L.get ρ = some (.dN true ks ds) ∧ mi ρ = some kd ∧ nkT kd = some k ∧ mx (L.put ρ .gone) = some x ∧ ks.length < LIM ∧
    ((∃ j xs, undIx ks k = some j ∧ ds[j]? = some (.lst true xs) ∧ xs.length < LIM ∧ r = (.non, L.put ρ (.dN true ks (ds.set j (.lst true (xs ++ [x])))))) ∨ (undIx ks k = none ∧ r = (.non, L.put ρ (.dN true (ks ++ [k]) (ds ++ [.lst true [x]]))))) := by
  unfold sdaM at h
  cases e1 : L.get ρ with
  | none => rw [e1] at h; cases h
  | some d =>
    cases e2 : mi ρ with
    | none => rw [e1, e2] at h; cases h
    | some kd =>
      rw [e1, e2, Option.bind_some, Option.bind_some] at h
      split at h
      · rename_i ks ds
        cases e3 : nkT kd with
        | none => rw [e3] at h; cases h
        | some k =>
          cases e4 : mx (L.put ρ .gone) with
          | none => rw [e3, e4] at h; cases h
          | some x =>
            rw [e3, e4, Option.bind_some, Option.bind_some] at h
            split at h
            · rename_i hl
              refine ⟨ks, ds, kd, k, x, rfl, rfl, e3, rfl, hl, ?_⟩
              split at h
              · rename_i j hj
                split at h
                · rename_i xs hx
                  split at h
                  · rename_i hxl
                    cases h
                    exact .inl ⟨j, xs, hj, hx, hxl, rfl⟩
                  · cases h
                · cases h
              · rename_i hj
                cases h
                exact .inr ⟨hj, rfl⟩
            · cases h
      · cases h
section
variable {X : Cx} {cl : Nat → Addr} {E : En} {o i e : Expr} {p0 p1 p2 p3 p4 : Pos} {mi mx : RM} {L : Lens}
theorem g_sda (hu : X.A.units + 9 < cLine) (ho : PE X o (tPl ⟨X.K, cl, X.w⟩ E L)) (hi : PE X i (tR ⟨X.K, cl, X.w⟩ E mi)) (hx : PE X e (tF ⟨X.K, cl, X.w⟩ E mx)) (m : M2 X o "setdefault" p1 i (.List [] p0) p2 := by exact ⟨rfl, rfl, rfl, rfl⟩)
    (hbase : attributeBase (.Call (.Attribute o "setdefault" p1) [i, .List [] p0] [] p2) "append" X.env (eval (.Call (.Attribute o "setdefault" p1) [i, .List [] p0] [] p2) X.env) = eval (.Call (.Attribute o "setdefault" p1) [i, .List [] p0] [] p2) X.env := by rfl)
    (hfew : ((backTo p4 (starEach [e] X.env)).all (fun x => !x.1) && (backToKw p4 (keywordEach [] X.env)).all (fun x => x.1.isSome)
      && decide ([e].length + ([] : List Keyword).length + (if ([] : List Keyword).isEmpty then 0 else 1) < 30)) = true := by rfl)
    (hline : (p3.endLine == p4.line) = true := by rfl) (hs : starEach [e] X.env = (false, eval e X.env) :: starEach [] X.env := by rfl) :
    PE X (.Call (.Attribute (.Call (.Attribute o "setdefault" p1) [i, .List [] p0] [] p2) "append" p3) [e] [] p4) (tG ⟨X.K, cl, X.w⟩ E (sdaM L mi mx)) := by
  refine PE_imp (pe_bm PySem.F.plainAttrs_list PySem.F.slot_list_append PySem.F.type_list_append mt_append (pe_dsetN hu ho hi (f_lst (cl := cl) (E := E) (ms := nilM) a_nil) m) (pa_cons hx pa_nil hs) hbase hfew hline hs) fun σ H Q ⟨P, S, T, ρ, d, ρ', w, hm, q⟩ => ?_
  obtain ⟨ks, ds, kd, k, x, e1, e2, e3, e4, hkl, hcase⟩ := sda_split hm
  refine ⟨P, S, T, ρ, _, w, e1, fun v Sd R l => ?_⟩
  obtain ⟨a, bs, xs, T1, rfl, hh, ok, n, rl, hf⟩ := l.rep
  have hSd : ∀ b, Sd b = one a b + T1 b := fun b => by rw [hf]; rfl
  refine ⟨a, rfl, ⟨_, hh, nok_of w.ph ok n⟩, P, S, T, ρ, kd, w, e2, fun y H1 P1 U1 g1 r1 => ?_⟩
  refine ⟨P1, S, T, ρ, .lst true [], w.grow g1, rfl, fun z H2 P2 U2 g2 r2 u1 u2 => ?_⟩
  have g12 := g1.trans g2
  have w2 := (w.grow g1).aside g2 u1 u2 (Rep.there _ z U2 r2)
  have l2 := l.grow g12
  obtain ⟨la, ys, Ty, rfl, hla, hys, hU2⟩ := r2
  obtain ⟨rfl, rfl⟩ : ys = [] ∧ Ty = fz := hys
  have w3 := w2.lens_take l2
  obtain ⟨kb, ey, hk, hdp⟩ := nkT_v e3 r1
  have hh2 : DnAt X.w H2 a (ks.zip (bs.zip xs)) := hh.of fun o h => g12.h _ _ h
  have hlen : (ks.zip (bs.zip xs)).length < sizeLine := by rw [List.length_zip, List.length_zip, ← ok.len, ← n, Nat.min_self, Nat.min_self]; exact lim_lt hkl
  refine ⟨_, k, kb, hh2, nok_of (fun b u h => g12.h _ _ (w.ph b u h)) ok n, ey, (hk.up g1.ph).up g2.h, hdp, hlen, fun v hv => ?_, fun hv ob hob => ?_⟩
  · rw [valN_zip ok.len n] at hv
    rcases hcase with ⟨j, ls, hj, hd, hll, hr⟩ | ⟨hj, _⟩
    · cases hr
      obtain ⟨z0, S1, R1, k1, k2, k3, k4⟩ := rl.focus hd
      have hvz : v = z0 := by
        have := undIx_val hj k1
        rw [this] at hv
        exact (Option.some.inj hv).symm
      subst hvz
      obtain ⟨l0, vs0, T0, rfl, hl0, rl0, hS1⟩ := k2
      have hS1' : ∀ b, S1 b = one l0 b + T0 b := fun b => by rw [hS1]; rfl
      have hl02 : H2 l0 = some (.lst vs0) := g12.h _ _ hl0
      refine ⟨.inl ⟨rfl, vs0, .inl (.inl hl02)⟩, P2, _, _, _, x, w3, e4, fun u H4 P4 U4 g4 r4 v1 v2 => ?_⟩
      have w4 := w3.aside g4 v1 v2 (Rep.there x u U4 r4)
      have hpos : 0 < fa (fa (fa T U2) Sd) U4 l0 := by
        have h1 := hSd l0; have h2 := k3 l0; have h3 := hS1' l0
        simp only [fa] at *
        simp [one] at h3
        omega
      have w5 := wd_updA (o := .lst (vs0 ++ [u])) w4 hpos
      have hone : ∀ b, one a b + S1 b + R1 b + R b + T b + U2 b + U4 b ≤ 1 := fun b => by
        have h0 := w4.le b; have h1 := hSd b; have h2 := k3 b
        simp only [fa, fz] at h0
        omega
      have hl0S : S1 l0 = T0 l0 + 1 := by have := hS1' l0; simp [one] at this; omega
      have keep : ∀ b u, 0 < one a b + T0 b + R1 b + R b → H b = some u → upd H4 l0 (.lst (vs0 ++ [‹V›])) b = some u := fun b u' hb hu' => by
        have hne : b ≠ l0 := fun q => by
          subst q
          have h0 := hone b
          omega
        rw [upd_ne hne]
        exact g4.h _ _ (g12.h _ _ hu')
      have keep4 : ∀ b u', 0 < U4 b → H4 b = some u' → upd H4 l0 (.lst (vs0 ++ [u])) b = some u' := fun b u' hb hu' => by
        have hne : b ≠ l0 := fun q => by
          subst q
          have h0 := hone b
          omega
        rw [upd_ne hne]; exact hu'
      have ep : Ex P P4 := g12.p.trans g4.p
      refine ⟨l0, vs0, u, rfl, rfl, g4.h _ _ hl02, by rw [← rl0.length]; exact lim_lt hll, ?_⟩
      have rnew : Rep ⟨X.K, cl, X.w⟩ P4 (upd H4 l0 (.lst (vs0 ++ [u]))) (.lst true (ls ++ [x])) (.ref l0) (fa (one l0) (fa T0 (fa U4 fz))) :=
        ⟨l0, vs0 ++ [u], _, rfl, upd_same, RepL.append (RepL.mono ep ls vs0 T0 (fun b u' hb hu' => keep b u' (by omega) hu') rl0) ⟨u, [], U4, fz, rfl, Rep.mono (.refl _) x u U4 keep4 r4, ⟨rfl, rfl⟩, rfl⟩, rfl⟩
      have rl2 := k4 P4 _ _ (.ref l0) _ ep (fun b u' hb hu' => keep b u' (by omega) hu') rnew
      have e2 : xs.set j (.ref l0) = xs := by
        apply List.ext_getElem?
        intro t
        by_cases ht : t = j
        · subst ht; rw [k1, List.getElem?_set_self (List.getElem?_eq_some_iff.mp k1).1]
        · rw [List.getElem?_set_ne (Ne.symm ht)]
      rw [e2] at rl2
      have ok4 : NkOk X.K P4 a ks bs := ok.mono fun _ _ => sqt_mono ep
      have rd : Rep ⟨X.K, cl, X.w⟩ P4 (upd H4 l0 (.lst (vs0 ++ [u]))) (.dN true ks (ds.set j (.lst true (ls ++ [x])))) (.ref a) (fa (one a) (fa (fa (one l0) (fa T0 (fa U4 fz))) R1)) :=
        ⟨a, bs, xs, _, rfl, hh.of fun o ho => keep a o (by simp [one]; omega) ho, ok4, n, rl2, rfl⟩
      have henv := l.put P4 _ _ _ ep (fun b u' hb hu' => keep b u' (by omega) hu') rd
      refine q .non _ P4 _ fz (w5.shrink henv (fun b => ?_) (fun b => by simp only [fa, fz]; omega) w5.kp) ep ⟨rfl, rfl⟩ fun b u' hb hu' => ?_
      · have h1 := hSd b; have h2 := k3 b; have h3 := hS1' b
        simp only [fa, fz]
        omega
      · have hne : b ≠ l0 := fun q => by
          subst q
          have h0 := hone b
          omega
        rw [upd_ne hne]
        exact g4.h _ _ (g12.h _ _ hu')
    · rw [(undIx_none (xs := xs) hj).1] at hv; cases hv
  · rw [valN_zip ok.len n] at hv
    rcases hcase with ⟨j, ls, hj, hd, hll, hr⟩ | ⟨hj, hr⟩
    · obtain ⟨z0, S1, R1, k1, k2, k3, k4⟩ := rl.focus hd
      rw [undIx_val hj k1] at hv; cases hv
    · cases hr
      have hany := (undIx_none (xs := xs) hj).2
      have hU2' : ∀ b, U2 b = one la b := fun b => by rw [hU2]; simp [fa, fz]
      have hne0 : a ≠ la := fun q => by
        subst q
        obtain ⟨o1, h1, _⟩ := hh
        have := (u2 a (by rw [hU2']; simp [one])).1
        rw [g1.h _ _ h1] at this; cases this
      have hpa : 0 < fa (fa T U2) Sd a := by have := hSd a; simp [one, fa] at *; omega
      have w3a := wd_updA (o := exO a ob) w3 hpa
      rw [putN_zip ok.len n] at hob
      unfold putL putB at hob
      rw [hany] at hob
      simp only [Bool.false_eq_true, if_false] at hob
      have hla3 : upd H2 a (exO a ob) la = some (.lst []) := by rw [upd_ne (Ne.symm hne0)]; exact hla
      refine ⟨.inl ⟨rfl, [], .inl (.inl hla3)⟩, P2, _, _, _, x, w3a, e4, fun u H4 P4 U4 g4 r4 v1 v2 => ?_⟩
      have w4 := w3a.aside g4 v1 v2 (Rep.there x u U4 r4)
      have hpos : 0 < fa (fa (fa T U2) Sd) U4 la := by have := hU2' la; simp [one, fa] at *; omega
      have w5 := wd_updA (o := .lst ([] ++ [u])) w4 hpos
      have hone : ∀ b, one a b + T1 b + R b + T b + one la b + U4 b ≤ 1 := fun b => by
        have h0 := w4.le b; have h1 := hSd b; have h2 := hU2' b
        simp only [fa, fz] at h0
        omega
      have hla1 : one la la = 1 := by simp [one]
      have haa1 : one a a = 1 := by simp [one]
      have ep : Ex P P4 := g12.p.trans g4.p
      have keep : ∀ b u', 0 < T1 b + R b + T b → H b = some u' → upd H4 la (.lst ([] ++ [u])) b = some u' := fun b u' hb hu' => by
        have hne : b ≠ la := fun q => by
          subst q
          have h0 := hone b
          omega
        have hne2 : b ≠ a := fun q => by
          subst q
          have h0 := hone b
          omega
        rw [upd_ne hne]
        refine g4.h _ _ ?_
        rw [upd_ne hne2]
        exact g12.h _ _ hu'
      have keep4 : ∀ b u', 0 < U4 b → H4 b = some u' → upd H4 la (.lst ([] ++ [u])) b = some u' := fun b u' hb hu' => by
        have hne : b ≠ la := fun q => by
          subst q
          have h0 := hone b
          omega
        rw [upd_ne hne]; exact hu'
      have hda : upd H4 la (.lst ([] ++ [u])) a = some (exO a ob) := by
        rw [upd_ne hne0]
        exact g4.h _ _ upd_same
      refine ⟨la, [], u, rfl, rfl, g4.h _ _ hla3, lim_lt (by unfold LIM; simp), ?_⟩
      have rnew : Rep ⟨X.K, cl, X.w⟩ P4 (upd H4 la (.lst ([] ++ [u]))) (.lst true [x]) (.ref la) (fa (one la) (fa U4 fz)) :=
        ⟨la, [] ++ [u], _, rfl, upd_same, ⟨u, [], U4, fz, rfl, Rep.mono (.refl _) x u U4 keep4 r4, ⟨rfl, rfl⟩, rfl⟩, rfl⟩
      have rl2 : RepL ⟨X.K, cl, X.w⟩ P4 (upd H4 la (.lst ([] ++ [u]))) (ds ++ [.lst true [x]]) (xs ++ [.ref la]) (fa T1 (fa (fa (one la) (fa U4 fz)) fz)) :=
        RepL.append (RepL.mono ep ds xs T1 (fun b u' hb hu' => keep b u' (by omega) hu') rl) ⟨.ref la, [], _, fz, rfl, rnew, ⟨rfl, rfl⟩, rfl⟩
      have ok4 : NkOk X.K P4 a (ks ++ [k]) (bs ++ [kb]) := by
        have h5 := putNk_ok (xs := xs) (y := .ref la) (ok.mono fun _ _ => sqt_mono ep) hkl ((hk.up g2.p).up g4.p) hdp
        unfold putL putB at h5
        rw [hany] at h5
        simpa using h5
      have rd : Rep ⟨X.K, cl, X.w⟩ P4 (upd H4 la (.lst ([] ++ [u]))) (.dN true (ks ++ [k]) (ds ++ [.lst true [x]])) (.ref a) (fa (one a) (fa T1 (fa (fa (one la) (fa U4 fz)) fz))) :=
        ⟨a, bs ++ [kb], xs ++ [.ref la], _, rfl, ⟨ob, hda, hob⟩, ok4, by rw [List.length_append, List.length_append, n]; rfl, rl2, rfl⟩
      have henv := l.put P4 _ _ _ ep (fun b u' hb hu' => keep b u' (by omega) hu') rd
      refine q .non _ P4 _ fz (w5.shrink henv (fun b => ?_) (fun b => by simp only [fa, fz]; omega) w5.kp) ep ⟨rfl, rfl⟩ fun b u' hb hu' => keep b u' (by omega) hu'
      have h1 := hSd b; have h2 := hU2' b
      simp only [fa, fz]
      omega
end
end LI
namespace LI
open PySem L2
instance {κ α : Type} {nk : κ → NestedKey} {a : α → D} [Nic a] : Nic (eDN true nk a) := ⟨fun m => by
  unfold eDN
  rw [noIce, show (m.map fun p => a p.2) = (m.map fun p => p.2).map a from by rw [List.map_map]; rfl, nic_map]
  rfl⟩
def sdaT {κ α : Type} [DecidableEq κ] (m : List (κ × List α)) (k : κ) (x : α) : Option (List (κ × List α)) := if m.length < LIM then (match getT m k with
  | some xs => if xs.length < LIM then some (updT m k (xs ++ [x])) else none
  | none => some (m ++ [(k, [x])])) else none
section
variable {α β κ σ τ : Type} [DecidableEq κ] {o : Bool} {a : α → D} {ek : κ → D} {nk : κ → NestedKey} [Nk ek nk] {ρ : List D} {L : Lens} {mi : RM} {g : GM}
theorem undIxN_get (hj : ∀ x y, nk x = nk y → x = y) (k : κ) : ∀ {m : List (κ × α)} {x : α}, getT m k = some x → ∃ j, undIx (m.map fun p => nk p.1) (nk k) = some j ∧ (m.map fun p => a p.2)[j]? = some (a x) ∧ ∀ y, (m.map fun p => a p.2).set j (a y) = (updT m k y).map fun p => a p.2
  | [], x, h => by cases h
  | p :: m, x, h => by
    unfold getT at h
    simp only [List.map_cons]
    unfold undIx updT
    by_cases e : p.1 = k
    · rw [if_pos e] at h; cases h
      exact ⟨0, if_pos (by rw [e]), rfl, fun y => by rw [if_pos e]; rfl⟩
    · rw [if_neg e] at h
      obtain ⟨j, h1, h2, h3⟩ := undIxN_get hj k h
      refine ⟨j + 1, by rw [if_neg (fun q => e (hj _ _ q)), h1]; rfl, by simpa using h2, fun y => ?_⟩
      rw [if_neg e]
      show a p.2 :: ((m.map fun p => a p.2).set j (a y)) = _
      rw [h3]; rfl
theorem undIxN_none (hj : ∀ x y, nk x = nk y → x = y) (k : κ) : ∀ {m : List (κ × α)}, getT m k = none → undIx (m.map fun p => nk p.1) (nk k) = none
  | [], h => rfl
  | p :: m, h => by
    unfold getT at h
    simp only [List.map_cons]
    unfold undIx
    by_cases e : p.1 = k
    · rw [if_pos e] at h; cases h
    · rw [if_neg e] at h
      rw [if_neg (fun q => e (hj _ _ q)), undIxN_none hj k h]; rfl
theorem updN_keys (k : κ) (y : α) : ∀ m : List (κ × α), (updT m k y).map (fun p => nk p.1) = m.map fun p => nk p.1
  | [] => rfl
  | p :: m => by
    unfold updT
    by_cases e : p.1 = k
    · rw [if_pos e]; rfl
    · rw [if_neg e, List.map_cons, List.map_cons, updN_keys k y m]
theorem eg_sda {e : α → D} {m : List (κ × List α)} {env : List (κ × List α) → List D} {mx : RM} {ok : Option κ} {ox : Option α} (hL : L.get ρ = some (eDN true nk (eL true e) m)) (hp : ∀ ys, L.put ρ (eDN true nk (eL true e) ys) = env ys) (hk : Ev ek mi ρ ok) (hx : Ev e mx (L.put ρ .gone) ox) :
    Eg (fun _ : List (κ × List α) => .non) env (sdaM L mi mx) ρ (ok.bind fun k => ox.bind fun x => sdaT m k x) := fun r hr => by
  obtain ⟨k, h1, h2⟩ := ob_some hr
  obtain ⟨x, h3, h4⟩ := ob_some h2
  unfold sdaT at h4
  split at h4
  · rename_i hl
    have hk' := hk k h1
    have hx' := hx x h3
    unfold sdaM
    rw [hL, Option.bind_some, hk', Option.bind_some]
    show ((nkT (ek k)).bind fun k => (mx (L.put ρ .gone)).bind fun x => if (m.map fun p => nk p.1).length < LIM then (match undIx (m.map fun p => nk p.1) k with
      | some j => (match (m.map fun p => eL true e p.2)[j]? with
        | some (.lst true xs) => if xs.length < LIM then some (D.non, L.put ρ (.dN true (m.map fun p => nk p.1) ((m.map fun p => eL true e p.2).set j (.lst true (xs ++ [x]))))) else none
        | _ => none)
      | none => some (D.non, L.put ρ (.dN true ((m.map fun p => nk p.1) ++ [k]) ((m.map fun p => eL true e p.2) ++ [.lst true [x]])))) else none) = _
    rw [Nk.nk k, Option.bind_some, hx', Option.bind_some, List.length_map, if_pos hl]
    cases z : getT m k with
    | some xs =>
      rw [z] at h4
      dsimp only at h4
      split at h4
      · rename_i hxl
        cases h4
        obtain ⟨j, k1, k2, k3⟩ := undIxN_get (a := eL true e) (Nk.inj ek) k z
        rw [k1]
        dsimp only
        rw [k2]
        show (if (xs.map e).length < LIM then some (D.non, L.put ρ (.dN true (m.map fun p => nk p.1) ((m.map fun p => eL true e p.2).set j (.lst true (xs.map e ++ [e x]))))) else none) = _
        rw [List.length_map, if_pos hxl, show (D.lst true (xs.map e ++ [e x])) = eL true e (xs ++ [x]) from by unfold eL; rw [List.map_append]; rfl, k3, ← hp]
        unfold eDN
        rw [updN_keys]
      · cases h4
    | none =>
      rw [z] at h4
      cases h4
      rw [undIxN_none (Nk.inj ek) k z]
      dsimp only
      rw [← hp]
      unfold eDN
      rw [List.map_append, List.map_append]
      rfl
  · cases h4
end
end LI
namespace LI
open PySem L2
theorem goneAt_two (ρ : List D) (i j : Nat) : goneAt ρ [i, j] = (ρ.set j .gone).set i .gone := rfl
theorem clr_go {i0 j : Nat} (hij : i0 ≠ j) {ρ0 : List D} (hj : ρ0[j]? = some .gone) (hi : ρ0[i0]? = some .gone) : ∀ dss : List (List D), forL (nameT j) (seqM (exprM (clearO (vL j))) skipM) [i0, j] (dss.map fun ds => D.lst true ds) ρ0 = some (.nx, ρ0)
  | [] => rfl
  | ds :: dss => by
    have hl : j < ρ0.length := (List.getElem?_eq_some_iff.mp hj).1
    have hs : ∀ k : Nat, ρ0[k]? = some .gone → ρ0.set k .gone = ρ0 := fun k hk => by
      refine List.ext_getElem? fun t => ?_
      by_cases z : k = t
      · subst z; rw [List.getElem?_set_self (List.getElem?_eq_some_iff.mp hk).1, hk]
      · rw [List.getElem?_set_ne z]
    have hget : (vL j).get (ρ0.set j (D.lst true ds)) = some (D.lst true ds) := by
      show ((ρ0.set j (D.lst true ds))[j]?).bind _ = _
      rw [List.getElem?_set_self hl]; rfl
    have hb : seqM (exprM (clearO (vL j))) skipM (ρ0.set j (D.lst true ds)) = some (.nx, ρ0.set j (D.lst true [])) := by
      unfold seqM exprM clearO
      rw [hget]
      show skipM ((ρ0.set j (D.lst true ds)).set j (D.lst true [])) = _
      rw [List.set_set]; rfl
    rw [List.map_cons]
    unfold forL
    show ((some (ρ0.set j (D.lst true ds))).bind fun ρ1 => _) = _
    rw [Option.bind_some, hb, Option.bind_some]
    show forL (nameT j) (seqM (exprM (clearO (vL j))) skipM) [i0, j] (dss.map fun ds => D.lst true ds) (goneAt (ρ0.set j (D.lst true [])) [i0, j]) = _
    rw [goneAt_two, List.set_set, hs j hj, hs i0 hi]
    exact clr_go hij hj hi dss
theorem b_clrH {τ : Type} {Q : Fl → List D → τ → Prop} {ρ ρ2 : List D} {r : SM} {k : Option τ} (i0 j : Nat) (dss : List (List D)) (hij : i0 ≠ j) (h1 : ρ[i0]? = some (.lst true (dss.map fun ds => D.lst true ds))) (h2 : ρ[j]? = some .gone) (h3 : (ρ.set i0 .gone).set i0 (husk dss.length) = ρ2) (hr : Bk Q r ρ2 k) :
    Bk Q (seqM (forCM i0 (nameT j) (seqM (exprM (clearO (vL j))) skipM) [j]) r) ρ k := fun t ht => by
  obtain ⟨fl, ρ', h5, h6⟩ := hr t ht
  refine ⟨fl, ρ', ?_, h6⟩
  have hl : i0 < ρ.length := (List.getElem?_eq_some_iff.mp h1).1
  have hm : forCM i0 (nameT j) (seqM (exprM (clearO (vL j))) skipM) [j] ρ = some (.nx, ρ2) := by
    rw [forCM_at h1, clr_go hij (by rw [List.getElem?_set_ne hij]; exact h2) (by rw [List.getElem?_set_self hl]), Option.map_some]
    unfold forCE
    rw [List.length_map, h3]
  show ((forCM i0 (nameT j) (seqM (exprM (clearO (vL j))) skipM) [j] ρ).bind fun r_1 => match r_1.1 with | .nx => r r_1.2 | _ => some r_1) = _
  rw [hm]
  exact h5
end LI
namespace LI
open PySem L2
end LI

namespace LI
open PySem L2

@[simp] theorem foldT_nil {σ α : Type} {g : σ → α → Option σ} {s : σ} : foldT g [] s = some s := (rfl)
@[simp] theorem foldT_cons {σ α : Type} {g : σ → α → Option σ} {s : σ} {x : α} {xs : List α} : foldT g (x :: xs) s = (g s x).bind fun s => foldT g xs s := (rfl)
theorem foldT_app {σ α : Type} {g : σ → α → Option σ} : ∀ {xs ys : List α} {s : σ}, foldT g (xs ++ ys) s = (foldT g xs s).bind fun s => foldT g ys s
  | [], ys, s => rfl
  | x :: xs, ys, s => by
    rw [List.cons_append, foldT_cons, foldT_cons, Option.bind_assoc]
    congr 1; funext s'; exact foldT_app
@[simp] theorem forT_nil {σ α τ : Type} {g : σ → α → Option (St σ τ)} {s : σ} : forT g [] s = some (.inl s) := (rfl)
theorem forT_cons {σ α τ : Type} {g : σ → α → Option (St σ τ)} {s : σ} {x : α} {xs : List α} : forT g (x :: xs) s = (g s x).bind fun u => match u with
    | .nx s => forT g xs s
    | .bk s => some (.inl s)
    | .rt t => some (.inr t) := (rfl)
@[simp] theorem seqT_inl {σ τ : Type} {s : σ} {k : σ → Option τ} : seqT (.inl s) k = k s := (rfl)
@[simp] theorem seqT_inr {σ τ : Type} {t : τ} {k : σ → Option τ} : seqT (.inr t) k = some t := (rfl)
theorem foldT_inv {σ α : Type} {g : σ → α → Option σ} (P : σ → Prop) : ∀ (xs : List α) (s : σ), P s → (∀ s x, P s → x ∈ xs → ∃ s', g s x = some s' ∧ P s') → ∃ s', foldT g xs s = some s' ∧ P s'
  | [], s, h, _ => ⟨s, rfl, h⟩
  | x :: xs, s, h, k => by
    obtain ⟨s1, h1, h2⟩ := k s x h (by simp)
    obtain ⟨s2, h3, h4⟩ := foldT_inv P xs s1 h2 fun s y hs hy => k s y hs (by simp [hy])
    exact ⟨s2, by rw [foldT_cons, h1]; exact h3, h4⟩
theorem foldT_cnt {σ α : Type} {g : σ → α → Option σ} (P : Nat → σ → Prop) : ∀ (xs : List α) (s : σ), P xs.length s → (∀ n s x, P (n + 1) s → x ∈ xs → ∃ s', g s x = some s' ∧ P n s') → ∃ s', foldT g xs s = some s' ∧ P 0 s'
  | [], s, h, _ => ⟨s, rfl, h⟩
  | x :: xs, s, h, k => by
    obtain ⟨s1, h1, h2⟩ := k xs.length s x h (by simp)
    obtain ⟨s2, h3, h4⟩ := foldT_cnt P xs s1 h2 fun n s y hs hy => k n s y hs (by simp [hy])
    exact ⟨s2, by rw [foldT_cons, h1]; exact h3, h4⟩
theorem forT_inv {σ α τ : Type} {g : σ → α → Option (St σ τ)} (P : σ → Prop) : ∀ (xs : List α) (s : σ), P s → (∀ s x, P s → x ∈ xs → ∃ s', g s x = some (.nx s') ∧ P s') → ∃ s', forT g xs s = some (.inl s') ∧ P s'
  | [], s, h, _ => ⟨s, rfl, h⟩
  | x :: xs, s, h, k => by
    obtain ⟨s1, h1, h2⟩ := k s x h (by simp)
    obtain ⟨s2, h3, h4⟩ := forT_inv P xs s1 h2 fun s y hs hy => k s y hs (by simp [hy])
    exact ⟨s2, by rw [forT_cons, h1]; exact h3, h4⟩
theorem forT_unit {α τ : Type} {g : Unit → α → Option (St Unit τ)} (xs : List α) (k : ∀ x, x ∈ xs → g () x = some (.nx ())) : forT g xs () = some (.inl ()) := by
  obtain ⟨s, h, _⟩ := forT_inv (fun _ => True) xs () trivial fun s x _ hx => ⟨(), k x hx, trivial⟩
  exact h
theorem whileT_succ {σ : Type} {p : σ → Option Bool} {g : σ → Option σ} {n : Nat} {s : σ} : whileT p g (n + 1) s = (p s).bind fun k => if k = true then (g s).bind fun s => whileT p g n s else some s := rfl
theorem compG_ex {α β : Type} {g : α → Option β} {P : α → β → Prop} : ∀ {xs : List α}, (∀ x ∈ xs, ∃ y, g x = some y ∧ P x y) → ∃ ys, compG (fun _ => some true) g xs = some ys ∧ ys.length = xs.length ∧ ∀ y ∈ ys, ∃ x ∈ xs, P x y
  | [], _ => ⟨[], rfl, rfl, by simp⟩
  | x :: xs, h => by
    obtain ⟨y, h1, h2⟩ := h x (by simp)
    obtain ⟨ys, h3, h4, h5⟩ := compG_ex (xs := xs) fun z hz => h z (by simp [hz])
    refine ⟨y :: ys, by simp [compG, h1, h3], by simp [h4], ?_⟩
    intro z hz
    rcases List.mem_cons.mp hz with rfl | hz
    · exact ⟨x, by simp, h2⟩
    · obtain ⟨w, h6, h7⟩ := h5 z hz
      exact ⟨w, by simp [h6], h7⟩
theorem compT_ex {α β : Type} {g : α → Option β} {P : α → β → Prop} {xs : List α} (hl : xs.length ≤ LIM) (h : ∀ x ∈ xs, ∃ y, g x = some y ∧ P x y) : ∃ ys, compT (fun _ => some true) g xs = some ys ∧ ys.length = xs.length ∧ ∀ y ∈ ys, ∃ x ∈ xs, P x y := by
  unfold compT; rw [if_pos hl]; exact compG_ex h
theorem compG_map {α β : Type} {g : α → Option β} {f : α → β} : ∀ {xs : List α}, (∀ x ∈ xs, g x = some (f x)) → compG (fun _ => some true) g xs = some (xs.map f)
  | [], _ => rfl
  | x :: xs, h => by simp [compG, h x (by simp), compG_map (xs := xs) fun z hz => h z (by simp [hz])]
theorem compT_map {α β : Type} {g : α → Option β} {f : α → β} {xs : List α} (hl : xs.length ≤ LIM) (h : ∀ x ∈ xs, g x = some (f x)) : compT (fun _ => some true) g xs = some (xs.map f) := by
  unfold compT; rw [if_pos hl]; exact compG_map h
theorem compG_fil {α β : Type} {p : α → Option Bool} {q : α → Bool} {g : α → Option β} {f : α → β} : ∀ {xs : List α}, (∀ x ∈ xs, p x = some (q x)) → (∀ x ∈ xs, q x = true → g x = some (f x)) → compG p g xs = some ((xs.filter q).map f)
  | [], _, _ => rfl
  | x :: xs, hp, h => by
    have ih := compG_fil (xs := xs) (fun z hz => hp z (by simp [hz])) fun z hz => h z (by simp [hz])
    cases hq : q x with
    | true => simp [compG, hp x (by simp), hq, h x (by simp) hq, ih]
    | false => simp [compG, hp x (by simp), hq, ih]
theorem compT_fil {α β : Type} {p : α → Option Bool} {q : α → Bool} {g : α → Option β} {f : α → β} {xs : List α} (hl : xs.length ≤ LIM) (hp : ∀ x ∈ xs, p x = some (q x)) (h : ∀ x ∈ xs, q x = true → g x = some (f x)) : compT p g xs = some ((xs.filter q).map f) := by
  unfold compT; rw [if_pos hl]; exact compG_fil hp h
theorem catL_ok {α : Type} {s t : List α} (h : s.length + t.length ≤ LIM) : catL s t = some (s ++ t) := if_pos h
theorem appT_ok {α : Type} {s : List α} {x : α} (h : s.length < LIM) : appT s x = some (s ++ [x]) := if_pos h
theorem rngT_ok {n : Int} (h1 : -1000000000000 ≤ n) (h2 : n ≤ 1000000000000) : rngT n = some ((List.range n.toNat).map fun (k : Nat) => (k : Int)) := if_pos ⟨by omega, by omega⟩
theorem mulT_ok {a b : Int} (h1 : -1000000000000000000 ≤ a) (h2 : a ≤ 1000000000000000000) : mulT a b = some (a * b) := if_pos (.inl ⟨by omega, by omega⟩)
theorem modT_ok {a b : Int} (h : 0 < b) : modT a b = some (a % b) := if_pos h
theorem atI_ok {α : Type} {xs : List α} {i : Int} (h0 : 0 ≤ i) (h1 : i < (xs.length : Int)) : ∃ x ∈ xs, atI xs i = some x :=
  have : i.toNat < xs.length := by omega
  ⟨_, List.getElem_mem this, atI_at h0 this⟩
theorem ixS_mem {s : Ts} {i : Int} (h : s.length ≤ LIM) (h0 : 0 ≤ i) (h1 : i < (s.length : Int)) : ∃ c ∈ s, ixS s i = some [c] := by
  obtain ⟨c, h2, h3⟩ := atI_ok h0 h1
  exact ⟨c, h2, by unfold ixS; rw [if_pos h, h3]; rfl⟩
@[simp] theorem inS_1 {c : Char} {z : Ts} : inS [c] z = some (decide (c ∈ z)) := (rfl)
theorem mod_in (c n : Int) (hn : 0 < n) : 0 ≤ c % n ∧ c % n < n := ⟨Int.emod_nonneg _ (by omega), Int.emod_lt_of_pos _ hn⟩
theorem cut_nat {α : Type} {xs : List α} {a b : Nat} : cutL xs (some (a : Int)) (some (b : Int)) = (xs.take b).drop a := by
  rw [cut_fromto (by omega) (by omega)]
  simp [List.drop_take]
end LI

namespace LI
open PySem L2
end LI

namespace LI
open PySem PySem.Spec PyProof.Rows L2
section
variable {prog : Program} {w : World} {A : Around} {E : Value → Shared → Prop} {s : Shared}
theorem quiet_stored {x : Str} {t : Tok} {stored : List Value} {Q : Bool → Shared → Prop} (hst : ∀ v ∈ stored, ∃ k b, v = Value.ref b ∧ (nestedKind prog w).is s.heap k b) (h : Q false s) : wpAny (model prog w) A (tableMayTell (.str x t) stored) Q E s := by
  unfold tableMayTell
  split
  · exact wpAny_pure h
  · refine wpAny_bind (QuietAt.byValue (n := 8) (v := Value.str x t) rfl A E _ ?_)
    simp only [Bool.not_true, Bool.false_eq_true, if_false]
    refine wpAny_bind ?_
    refine wpAny_forIn_list _ (fun rest r s' => s' = s ∧ r = (none, ()) ∧ ∀ v ∈ rest, ∃ k b, v = Value.ref b ∧ (nestedKind prog w).is s.heap k b) _ ?_ ?_ _ _ ⟨rfl, rfl, hst⟩
    · rintro y rest r s' ⟨rfl, rfl, hr⟩
      obtain ⟨k, b, rfl, hb⟩ := hr y List.mem_cons_self
      refine wpAny_bind ((nestedKind prog w).quiet hb ?_)
      simp only [Bool.not_true, Bool.false_eq_true, if_false]
      exact wpAny_pure ⟨rfl, rfl, fun v hv => hr v (List.mem_cons_of_mem _ hv)⟩
    · rintro r s' ⟨rfl, rfl, _⟩
      exact wpAny_pure h
theorem eq_str {k : NestedKey} {b : Addr} {x : Str} {t : Tok} {Q : Bool → Shared → Prop} (hu : A.units < cLine) (hb : (nestedKind prog w).is s.heap k b) (h : Q false s) : wpAny (model prog w) A (eqBool (.ref b) (.str x t)) Q E s := by
  have q := eqAt_key k (.text x) A s (.ref b) (.str x t) hb.1 (.text x t) (by
    rw [show (NestedKey.text x).depth = 0 from rfl, Nat.min_zero, Nat.add_zero]; exact hu)
  have e : NestedKey.beq k (.text x) = false := by
    cases hb.1
    rfl
  rw [e] at q
  exact q prog w E Q h
theorem find_str {d : Addr} {o : Obj} {es ep} {xs : List (NestedKey × Addr × Value)} {x : Str} {t : Tok} {hh : Int} {Q : Option Nat → Shared → Prop} (hu : A.units < cLine) (hne : xs ≠ [])
    (ho : s.heap.get? d = some o) (hd : o.data = .dict es ep) (he : es.toList = xs.map (entryOfKey (nestedKind prog w))) (his : ∀ y ∈ xs, (nestedKind prog w).is s.heap y.1 y.2.1) (hq : Q none s) :
    wpAny (model prog w) A (dictFind d (.str x t) hh) Q E s := by
  have hsz : es.size = xs.length := size_of_entries he
  have hmem : ∀ e ∈ es, ∃ y ∈ xs, e = entryOfKey (nestedKind prog w) y := by
    intro e hin
    have : e ∈ xs.map (entryOfKey (nestedKind prog w)) := he ▸ Array.mem_toList_iff.mpr hin
    obtain ⟨y, hy, rfl⟩ := List.mem_map.mp this
    exact ⟨y, hy, rfl⟩
  have hst : ∀ v ∈ (placesWithHash es.size (fun i => es[i]?.map (·.hash)) hh).filterMap (fun i => es[i]?.map (·.key)), ∃ k b, v = Value.ref b ∧ (nestedKind prog w).is s.heap k b := by
    intro v hv
    obtain ⟨i, _, hi⟩ := List.mem_filterMap.mp hv
    cases hei : es[i]? with
    | none => rw [hei] at hi; cases hi
    | some e =>
      rw [hei] at hi
      obtain rfl : e.key = v := by simpa using hi
      obtain ⟨y, hy, rfl⟩ := hmem e (Array.mem_of_getElem? hei)
      exact ⟨y.1, y.2.1, rfl, his y hy⟩
  have hall : ¬ (es.all fun e => isExactStrKey e.key) = true := by
    intro z
    obtain ⟨y, ys, rfl⟩ := List.exists_cons_of_ne_nil hne
    rw [← Array.all_toList, he, List.map_cons, List.all_cons] at z
    simp [entryOfKey, isExactStrKey] at z
  unfold dictFind
  try with_reducible refine wpAny_holding ?_
  refine wpAny_bind (wpAny_dictEntries ho hd ?_)
  dsimp only
  rw [if_neg hall]
  by_cases hc : ((Value.str x t :: (placesWithHash es.size (fun i => es[i]?.map (·.hash)) hh).filterMap (fun i => es[i]?.map (·.key))).all carriedByValue) = true
  · have hnil : placesWithHash es.size (fun i => es[i]?.map (·.hash)) hh = [] := by
      cases hp : placesWithHash es.size (fun i => es[i]?.map (·.hash)) hh with
      | nil => rfl
      | cons i rest =>
        exfalso
        have hi : i ∈ placesWithHash es.size (fun i => es[i]?.map (·.hash)) hh := by rw [hp]; exact List.mem_cons_self
        unfold placesWithHash at hi
        obtain ⟨h1, h2⟩ := List.mem_filter.mp hi
        rw [List.mem_range] at h1
        have hei : es[i]? = some es[i] := Array.getElem?_eq_getElem h1
        have hk : es[i].key ∈ (placesWithHash es.size (fun i => es[i]?.map (·.hash)) hh).filterMap (fun i => es[i]?.map (·.key)) := by
          rw [hp]
          exact List.mem_filterMap.mpr ⟨i, List.mem_cons_self, by rw [hei]; rfl⟩
        obtain ⟨k, b, e1, _⟩ := hst _ hk
        have := List.all_eq_true.mp hc _ (List.mem_cons_of_mem _ hk)
        rw [e1] at this
        cases this
    rw [if_pos hc, hnil]
    unfold dictWalkPlain
    simp only [List.forIn_nil, pure_bind]
    exact wpAny_pure hq
  · rw [if_neg hc]
    have hone : ¬ (((placesWithHash es.size (fun i => es[i]?.map (·.hash)) hh).filterMap (fun i => es[i]?.map (·.key))) == [Value.str x t]) = true := by
      intro z
      rw [beq_iff_eq] at z
      obtain ⟨_, _, e, _⟩ := hst (.str x t) (by rw [z]; exact List.mem_cons_self)
      cases e
    rw [if_neg hone]
    refine wpAny_bind (quiet_stored hst ?_)
    rw [if_neg (by simp)]
    refine wpAny_bind ?_
    refine wpAny_forIn_list _ (fun rest r s' => s' = s ∧ r = (none, none) ∧ ∀ i ∈ rest, i < es.size) _ ?_ ?_ _ _ ⟨rfl, rfl, fun i hi => by
      unfold placesWithHash at hi
      exact List.mem_range.mp (List.mem_filter.mp hi).1⟩
    · rintro i rest r s' ⟨rfl, rfl, hr⟩
      have hi := hr i List.mem_cons_self
      have hei : es[i]? = some es[i] := Array.getElem?_eq_getElem hi
      obtain ⟨y, hy, e1⟩ := hmem es[i] (Array.getElem_mem hi)
      have hib := his y hy
      rw [hei]
      dsimp only
      have next : wpAny (model prog w) A (pure (ForInStep.yield ((none : Option (Option Nat)), (none : Option Nat))) : Sem _) (fun r s'' => match r with | .yield b' => s'' = s' ∧ b' = (none, none) ∧ ∀ i ∈ rest, i < es.size | .done b' => False) E s' := wpAny_pure ⟨rfl, rfl, fun j hj => hr j (List.mem_cons_of_mem _ hj)⟩
      split
      · refine wpAny_bind (wpAny_dictEpoch ho hd (wpAny_bind ?_))
        rw [e1]
        refine eq_str hu hib (wpAny_bind (wpAny_dictEpoch ho hd ?_))
        show wpAny _ _ (if (ep != ep) = true then _ else _) _ E _
        rw [if_neg (by simp)]
        simp only [Bool.false_eq_true, if_false]
        refine wpAny_bind (wpAny_rule ?_)
        simp only [Bool.false_and, Bool.false_eq_true, if_false]
        exact wpAny_pure ⟨rfl, rfl, fun j hj => hr j (List.mem_cons_of_mem _ hj)⟩
      · exact wpAny_pure ⟨rfl, rfl, fun j hj => hr j (List.mem_cons_of_mem _ hj)⟩
    · rintro r s' ⟨rfl, rfl, _⟩
      exact wpAny_pure hq
theorem set_str {d : Addr} {xs : List (NestedKey × Addr × Value)} {x : Str} {t : Tok} {v : Value} {Q : Unit → Shared → Prop} (hu : A.units + 9 < cLine) (hne : xs ≠ []) (hm : s.heap.DictOfH (nestedKind prog w) d xs) (hsz : xs.length ≤ sizeLine)
    (hQ : ∀ h' o' tk, h'.get? d = some o' → Heap.SameBut d s.heap h' → Q () { s with heap := h', toks := tk }) : wpAny (model prog w) A (setItem (.ref d) (.str x t) v) Q E s := by
  unfold setItem
  try with_reducible refine wpAny_holding ?_
  refine wpAny_bind (wpAny_sequenceKey hm.typeIs (by decide) ?_)
  refine wpAny_bind (wpAny_callSpecial?_slot (name := Str.ofString "__setitem__") hm.typeIs slot_dict_setitem
    (wpAny_call_entry slot_dict_setitem hm.typeIs entry_dict_setitem ?_ (args_dict_setitem _ _ _)))
  show wpAny _ _ (Builtin.Dict.notOrdered "__setitem__" ⟨[.ref d, .str x t, v], []⟩ >>= _) _ _ s
  refine wpAny_bind (wpAny_notOrdered_dict hm.typeIs ?_)
  show wpAny _ _ (dictSet d (.str x t) v >>= _) _ _ s
  obtain ⟨o, es, ep, ho, hc, hd, he, his, hn⟩ := hm
  refine wpAny_bind ?_
  unfold dictSet
  try with_reducible refine wpAny_holding ?_
  refine wpAny_bind (wpAny_pyHash_str ?_)
  unfold dictSetHashed
  try with_reducible refine wpAny_holding ?_
  refine wpAny_bind (find_str (s := { s with toks := s.toks + 1 }) (by show A.units + 1 < cLine; omega) hne ho hd he his ?_)
  refine wpAny_bind (wpAny_rule (wpAny_updateDictKeys (hz := by have e := size_of_entries he; omega) (s := { s with toks := s.toks + 1 }) ho hd ?_))
  refine wpAny_pure ⟨.none, rfl, wpAny_pure ?_⟩
  exact hQ _ _ _ (Heap.get?_update_self _ ho (Obj.isFreed_of_dict (Obj.data_mapDictKeys hd _))) (Heap.SameBut.update ..)
end
section
variable {X : Cx} {pins : List (Addr × Obj)} {σ : L2.St} {H : Hp} {s : Shared}
def sDPutX (K : PySem.W.Frag) (w : World) (td ty tv : TE) : TS := fun D σ H => tv σ H fun _ H1 => td σ H1 fun r H2 => ty σ H2 fun y H3 => ∃ a l x, r = .ref a ∧ y = .str x ∧ DnAt w H3 a l ∧ NOk K H3 a l ∧ l ≠ [] ∧ ∀ o, D.nx σ (upd H3 a (exO a o))
theorem ps_dputX {o i value : Expr} {pos pos' : Pos} {td ty tv : TE} (hu : X.A.units + 9 < cLine) (ho : PE X o td) (hi : PE X i ty) (hv : PE X value tv) (hs : swapsWith value (some (.Subscript o i pos')) pos.line X.env = pure false) :
    PS X (.Assign [.Subscript o i pos'] value pos) (sDPutX X.K X.w td ty tv) := by
  refine ⟨fun pins s σ H D I h => ?_⟩
  refine wpAny_Assign_Subscript (thn (hv.run pins s σ H _ I h) fun r s1 ⟨v, H1, I1, rv, q1⟩ => thn (ho.run pins s1 σ H1 _ I1 q1) fun u s2 ⟨x, H2, I2, rx, q2⟩ => thn (hi.run pins s2 σ H2 _ I2 q2) fun iv s3 ⟨y, H3, I3, ry, a, l, k, ex, ey, e, ok, hne, q3⟩ => ?_) hs
  subst ex ey
  obtain rfl : u = Value.ref a := rx
  obtain ⟨tk, rfl⟩ : ∃ tk, iv = Value.str k tk := ry
  obtain ⟨xs, rel, dd⟩ := dn_of I3 e ok
  have hz : xs.length ≤ sizeLine := by rw [← Paired.length rel]; exact ok.le
  have hx : xs ≠ [] := fun z => by
    subst z
    cases rel
    exact hne rfl
  refine set_str hu hx dd hz fun h' o' tk' ho' hs' => ?_
  obtain ⟨o0, e0, _⟩ := e
  exact ⟨σ, _, d_write I3 (by rw [e0]; exact True.intro) hs' ⟨o', ho'⟩ (ex_ok ho'), q3 o'⟩
end
theorem dn_lose {c : LC} {E : En} {P H : Hp} {S T : FP} {σ : L2.St} {ρ : List D} {L : Lens} {v : V} {ks : List NestedKey} {ds : List D} {Sd R : FP} (w : Wd c E P S T σ H ρ) (l : Loc c L P H σ ρ S v (.dN true ks ds) Sd R) (hz : frzL ds = true) : ∃ a bs xs, v = .ref a ∧ DnAt c.w H a (ks.zip (bs.zip xs)) ∧ NkOk c.K P a ks bs ∧ ks.length = xs.length ∧
    ∀ o : HO, Wd c E P (fa fz R) T σ (upd H a o) (L.put ρ .gone) := by
  obtain ⟨a, bs, xs, T1, e1, hh, ok, n, rl, hf⟩ := l.rep
  have z := RepL.frz0 ds xs T1 hz rl
  subst z
  have hSd : ∀ b, Sd b = one a b := fun b => by rw [hf]; rfl
  refine ⟨a, bs, xs, e1, hh, ok, n, fun o => ?_⟩
  have ha : 0 < S a := by have := l.sum a; have := hSd a; simp [one] at *; omega
  have henv := l.put P (upd H a o) .gone fz (.refl _) (fun b u hb hu => by
    have hne : b ≠ a := fun z => by
      subst z
      have := w.le b; have := l.sum b; have := hSd b
      simp [one] at *; omega
    rw [upd_ne hne]; exact hu) rfl
  have hP : P a = none := w.out a (by omega)
  refine ⟨henv, fun b => ?_, fun b z => ?_, fun b z => ?_, fun b u z => ?_, w.p0, fun b u z1 z2 => ?_, w.np, fun b z => ?_, w.kp⟩
  · have := w.le b; have := l.sum b; simp only [fa, fz] at *; omega
  · refine w.out b ?_; have := l.sum b; simp only [fa, fz] at *; omega
  · by_cases e : b = a
    · subst e; rw [upd_same]; simp
    · rw [upd_ne e]; exact w.th b z
  · have e : b ≠ a := fun q => by subst q; rw [hP] at z; cases z
    rw [upd_ne e]; exact w.ph b u z
  · have e : b ≠ a := fun q => by
      subst q
      rcases w.ns b (by omega) with y | y
      · omega
      · rw [y] at z2; cases z2
    rw [upd_ne e]; exact w.fr b u z1 z2
  · refine w.ns b ?_; have := l.sum b; simp only [fa, fz] at *; omega
def dputX (L : Lens) (mi : RM) (g : GM) : SM := fun ρ => (g ρ).bind fun r => (L.get r.2).bind fun l => (mi r.2).bind fun k => match l, k with
  | .dN true ks ds, .str _ => if frzL ds = true ∧ frz r.1 = true ∧ ks ≠ [] then some (.nx, L.put r.2 .gone) else none
  | _, _ => none
theorem dputX_split {L : Lens} {mi : RM} {g : GM} {ρ : List D} {r : Fl × List D} (h : dputX L mi g ρ = some r) : ∃ d ρ1 ks ds x, g ρ = some (d, ρ1) ∧ L.get ρ1 = some (.dN true ks ds) ∧ mi ρ1 = some (.str x) ∧ frzL ds = true ∧ frz d = true ∧ ks ≠ [] ∧ r = (.nx, L.put ρ1 .gone) := by
  unfold dputX at h
  obtain ⟨⟨d, ρ1⟩, e1, h⟩ := ob_some h
  obtain ⟨l, e2, h⟩ := ob_some h
  obtain ⟨k, e3, h⟩ := ob_some h
  dsimp only at e2 e3 h
  split at h
  · split at h
    · rename_i hc
      cases h
      exact ⟨_, _, _, _, _, e1, e2, e3, hc.1, hc.2.1, hc.2.2, rfl⟩
    · cases h
  · cases h
theorem s_dputX {X : Cx} {cl : Nat → Addr} {E : En} {e o i : Expr} {pos pos' : Pos} {mi : RM} {g : GM} {L : Lens} (hu : X.A.units + 9 < cLine) (he : PE X e (tG ⟨X.K, cl, X.w⟩ E g)) (ho : PE X o (tPl ⟨X.K, cl, X.w⟩ E L)) (hi : PE X i (tR ⟨X.K, cl, X.w⟩ E mi)) (hs : swapsWith e (some (.Subscript o i pos')) pos.line X.env = pure false := by rfl) :
    PS X (.Assign [.Subscript o i pos'] e pos) (tS ⟨X.K, cl, X.w⟩ E (dputX L mi g)) :=
  PS_imp (ps_dputX hu ho hi he hs) fun D σ H ⟨P, S, ρ, fl, ρ', w, hm, q⟩ => by
    obtain ⟨d, ρ1, ks, ds, x, eg, el, ei, hz, hd, hne, e3⟩ := dputX_split hm
    cases e3
    refine g_run w eg fun y H1 P1 S1 U w1 ex r1 => ?_
    have hU := Rep.frz0 d y U hd r1
    subst hU
    refine ⟨P1, S1, fz, ρ1, _, w1, el, fun v Sd R l => ?_⟩
    refine ⟨P1, S1, fz, ρ1, _, w1, ei, fun iv H2 P2 U2 g2 r2 => ?_⟩
    obtain ⟨a, bs, xs, ev, hh, ok, n, kk⟩ := dn_lose (w1.grow g2) (l.grow g2) hz
    obtain ⟨e2, _⟩ : iv = .str ⟨x.toArray⟩ ∧ _ := r2
    refine ⟨a, _, _, ev, e2, hh, nok_of g2.ph ok n, fun z => ?_, fun o => ?_⟩
    · have h1 := congrArg List.length z
      rw [List.length_zip, List.length_zip, ← ok.len, ← n, Nat.min_self, Nat.min_self] at h1
      exact hne (List.eq_nil_of_length_eq_zero h1)
    · exact q σ _ P2 _ (kk (exO a o)) (ex.trans g2.p)
theorem b_dputX {κ α τ : Type} {nk : κ → NestedKey} {a : α → D} [Fz a] {Q : Fl → List D → τ → Prop} {ρ : List D} {r : SM} {k : Option τ} {g : GM} {mi : RM} (i : Nat) (m : List (κ × α)) {d : D} {x : List Nat} (h1 : ρ[i]? = some (eDN true nk a m)) (hg : g ρ = some (d, ρ)) (hd : frz d = true) (hm : mi ρ = some (.str x)) (hr : Bk Q r (ρ.set i .gone) k) :
    Bk Q (seqM (dputX (vL i) mi g) r) ρ (if m.isEmpty = false then k else none) := fun t ht => by
  split at ht
  · rename_i hl
    obtain ⟨fl, ρ', h6, h7⟩ := hr t ht
    refine ⟨fl, ρ', ?_, h7⟩
    have hv : (vL i).get ρ = some (eDN true nk a m) := by
      show (ρ[i]?).bind _ = _
      rw [h1]; rfl
    unfold seqM dputX
    rw [hg, Option.bind_some, hv, Option.bind_some, hm, Option.bind_some]
    show ((if frzL (m.map fun p => a p.2) = true ∧ frz d = true ∧ (m.map fun p => nk p.1) ≠ [] then some (Fl.nx, (vL i).put ρ .gone) else none : Option (Fl × List D))).bind _ = _
    have hne : (m.map fun p => nk p.1) ≠ [] := by
      cases m with
      | nil => cases hl
      | cons y ys => simp
    have hz : frzL (m.map fun p => a p.2) = true := by
      rw [show (m.map fun p => a p.2) = (m.map fun p => p.2).map a from by rw [List.map_map]; rfl]
      exact fz_map _
    rw [if_pos ⟨hz, hd, hne⟩, Option.bind_some]
    exact h6
  · cases ht
end LI

namespace OW
open PySem L2 LI
def t_lw_cell (script : (List Int)) (k : Int) : Option Int :=
  if decide (k < (List.length script : Int)) = true then
  (atI script k)
  else
  some (0 : Int)
def t_lw_mix (cell_here : Int) (k : Int) : Option Int :=
  if decide ((1000000000000000000 : Int) < cell_here) = true then
  let rest : Int := cell_here
  ((rngT k).bind fun v1_ => (foldT (fun (s2_ : Int) (turn : Int) =>
  let rest : Int := (s2_ / 1000000000)
  some rest) v1_ rest).bind fun (s2_ : Int) =>
  some (s2_ % 1000000000))
  else
  let number : Int := ((cell_here % 2147483647) + (7919 : Int))
  ((rngT (k + (2 : Int))).bind fun v3_ => (foldT (fun (s4_ : Int) (turn : Int) =>
  let number : Int := (((s4_ * 48271) + (104729 : Int)) % 2147483629)
  some number) v3_ number).bind fun (s4_ : Int) =>
  (((mulT s4_ s4_).bind fun v5_ => some (v5_ % 998244353)).bind fun v6_ => some (v6_ / 11)))
end OW

namespace OW
open PySem L2 LI
end OW

namespace OW
open PySem L2 LI
structure OMaker where
  most : Int
  row : (List (Ts × Ts × Ts × Int))
  ink : Ts
  ground : Ts
  stale : Bool
  more : Bool
def t_Maker_make_plain (self : OMaker) : Option OMaker :=
  let u1_ : Ts := ['.']
  let u2_ : Ts := ['.']
  some ({ { self with ink := u1_ } with ground := u2_ })
def t_Maker_tell_part (self : OMaker) (word : Ts) : Option ((List ((List (Ts × Ts × Ts × Int)) × Ts)) × OMaker) :=
  let part : ((List (Ts × Ts × Ts × Int)) × Ts) := (self.row, word)
  let u1_ : (List (Ts × Ts × Ts × Int)) := ([] : (List (Ts × Ts × Ts × Int)))
  let u2_ : Bool := false
  let u3_ : Bool := (decide (word = ['m', 'o', 'r', 'e']))
  some (([part] : (List ((List (Ts × Ts × Ts × Int)) × Ts))), { { { self with row := u1_ } with stale := u2_ } with more := u3_ })
def t_Maker_put_sign (self : OMaker) (sign : Ts) (place : Int) : Option ((List ((List (Ts × Ts × Ts × Int)) × Ts)) × OMaker) :=
  let found : (List ((List (Ts × Ts × Ts × Int)) × Ts)) := ([] : (List ((List (Ts × Ts × Ts × Int)) × Ts)))
  ((if (decide ((List.length self.row : Int) = self.most)) = true then
  ((t_Maker_tell_part self ['m', 'o', 'r', 'e'])).bind fun (u1_ : ((List ((List (Ts × Ts × Ts × Int)) × Ts)) × OMaker)) =>
  some (u1_.2, u1_.1)
  else
  some (self, found) : Option (OMaker × (List ((List (Ts × Ts × Ts × Int)) × Ts))))).bind fun (s2_ : (OMaker × (List ((List (Ts × Ts × Ts × Int)) × Ts)))) =>
  ((appT s2_.1.row (sign, s2_.1.ink, s2_.1.ground, place))).bind fun (u3_ : (List (Ts × Ts × Ts × Int))) =>
  some (s2_.2, { s2_.1 with row := u3_ })
def t_Maker_put (self : OMaker) (item : (Int × Ts × Ts)) : Option ((List ((List (Ts × Ts × Ts × Int)) × Ts)) × OMaker) :=
  let u1_ : (Int × Ts × Ts) := item
  if (decide (u1_.2.1 = (['e', 'n', 'd'] : Ts))) = true then
  ((t_Maker_make_plain self)).bind fun (u2_ : OMaker) =>
  ((t_Maker_tell_part u2_ ['w', 'h', 'o', 'l', 'e'])).bind fun u3_ => some (u3_.1, u3_.2)
  else
  if (decide (u1_.2.1 = (['a', 'n', 'e', 'w'] : Ts))) = true then
  ((t_Maker_make_plain self)).bind fun (u4_ : OMaker) =>
  let u5_ : Bool := true
  some (([] : (List ((List (Ts × Ts × Ts × Int)) × Ts))), { u4_ with stale := u5_ })
  else
  ((if self.stale = true then
  let u6_ : (List (Ts × Ts × Ts × Int)) := ([] : (List (Ts × Ts × Ts × Int)))
  let u7_ : Bool := false
  some ({ { self with row := u6_ } with stale := u7_ })
  else
  some self : Option OMaker)).bind fun (s8_ : OMaker) =>
  if (decide (u1_.2.1 = (['s', 'i', 'g', 'n'] : Ts))) = true then
  ((t_Maker_put_sign s8_ u1_.2.2 u1_.1)).bind fun u9_ => some (u9_.1, u9_.2)
  else
  ((if (decide (u1_.2.1 = (['i', 'n', 'k'] : Ts))) = true then
  let u10_ : Ts := u1_.2.2
  some ({ s8_ with ink := u10_ })
  else
  ((if (decide (u1_.2.1 = (['g', 'r', 'o', 'u', 'n', 'd'] : Ts))) = true then
  let u11_ : Ts := u1_.2.2
  some ({ s8_ with ground := u11_ })
  else
  ((t_Maker_make_plain s8_)).bind fun (u12_ : OMaker) =>
  some u12_ : Option OMaker)).bind fun (s13_ : OMaker) =>
  some s13_ : Option OMaker)).bind fun (s14_ : OMaker) =>
  some (([] : (List ((List (Ts × Ts × Ts × Int)) × Ts))), s14_)
end OW

namespace OW
open PySem L2 LI
end OW

namespace OW
open PySem L2 LI
end OW

namespace OW
open PySem L2 LI
end OW

namespace OW
open PySem L2 LI
end OW

namespace OW
open PySem L2 LI
end OW

namespace OW
open PySem L2 LI
end OW

namespace OW
open PySem L2 LI
def t_lw_mix_b (cell : Int) (k : Int) : Option Int :=
  if decide ((1000000000000000000 : Int) < cell) = true then
  let rest : Int := cell
  ((rngT k).bind fun v1_ => (foldT (fun (s2_ : Int) (turn : Int) =>
  let rest : Int := (s2_ / 1000000000)
  some rest) v1_ rest).bind fun (s2_ : Int) =>
  some (s2_ % 1000000000))
  else
  let number : Int := ((cell % 2147483647) + (7919 : Int))
  ((rngT (k + (2 : Int))).bind fun v3_ => (foldT (fun (s4_ : Int) (turn : Int) =>
  let number : Int := (((s4_ * 48271) + (104729 : Int)) % 2147483629)
  some number) v3_ number).bind fun (s4_ : Int) =>
  (((mulT s4_ s4_).bind fun v5_ => some (v5_ % 998244353)).bind fun v6_ => some (v6_ / 11)))
end OW

namespace OW
open PySem L2 LI
end OW

namespace OW
open PySem L2 LI
end OW

namespace OW
open PySem L2 LI
end OW

namespace OW
open PySem L2 LI
end OW

namespace OW
open PySem L2 LI
end OW

namespace OW
open PySem L2 LI
structure OListed where
  sizes : (List Int)
  steps : (List ((Int × Int) × (List (Int × Ts × (Int × Int)))))
  shut : (List (Int × Int))
def t_Listed_init (sizes : (List Int)) (moves : (List ((Int × Int) × Int × Ts × (Int × Int)))) (ends : (List (Int × Int))) : Option OListed :=
  let u1_ : (List Int) := sizes
  let u2_ : (List ((Int × Int) × (List (Int × Ts × (Int × Int))))) := ([] : (List ((Int × Int) × (List (Int × Ts × (Int × Int))))))
  (foldT (fun (s3_ : ((List Int) × (List ((Int × Int) × (List (Int × Ts × (Int × Int))))))) (x4_ : ((Int × Int) × Int × Ts × (Int × Int))) =>
  ((sdaT s3_.2 x4_.1 (x4_.2.1, x4_.2.2.1, x4_.2.2.2))).bind fun (u5_ : (List ((Int × Int) × (List (Int × Ts × (Int × Int)))))) =>
  some (s3_.1, u5_)) moves (u1_, u2_)).bind fun (s3_ : ((List Int) × (List ((Int × Int) × (List (Int × Ts × (Int × Int))))))) =>
  let u6_ : (List (Int × Int)) := ends
  some ({ sizes := s3_.1, steps := s3_.2, shut := u6_ : OListed })
def t_Listed_first_node (self : OListed) : Option (Int × Int) :=
  some ((0 : Int), (0 : Int))
def t_Listed_last_at (self : OListed) : Option Int :=
  some ((List.length self.sizes : Int) - (1 : Int))
def t_Listed_nodes_at (self : OListed) (at_ : Int) : Option (List (Int × Int)) :=
  (((atI self.sizes at_).bind fun v1_ => (rngT v1_)).bind fun v2_ => (compT (fun (state : Int) => (some true)) (fun (state : Int) => (some (at_, state))) v2_))
def t_Listed_moves_from (self : OListed) (node : (Int × Int)) : Option (List (Int × Ts × (Int × Int))) :=
  some (Option.getD (getT self.steps node) ([] : (List (Int × Ts × (Int × Int)))))
def t_Listed_is_end (self : OListed) (node : (Int × Int)) : Option Bool :=
  some (memT node self.shut)
def t_cheapest_d (trail : OListed) (prices : (List ((Int × Int) × (Option Int)))) (node : (Int × Int)) : Option (Option Int) :=
  ((getT prices node)).bind fun (found : (Option Int)) =>
  (((t_Listed_moves_from trail node).bind fun v1_ => some v1_).bind fun v2_ => (foldT (fun (s3_ : (Option Int)) (x4_ : (Int × Ts × (Int × Int))) =>
  ((getT prices x4_.2.2)).bind fun (rest : (Option Int)) =>
  ((if (Option.isSome rest) = true then (if (Option.isNone s3_) = true then some true else ((rest.bind fun v5_ => some (x4_.1 + v5_)).bind fun v6_ => s3_.bind fun v7_ => some (decide (v6_ < v7_)))) else some false).bind fun v8_ => ((if v8_ = true then
  (((rest.bind fun v9_ => some (x4_.1 + v9_)).bind fun v10_ => some (some v10_))).bind fun (found : (Option Int)) =>
  some found
  else
  some s3_ : Option (Option Int))).bind fun (s11_ : (Option Int)) =>
  some s11_)) v2_ found).bind fun (s3_ : (Option Int)) =>
  some s3_)
def t_settle_d (trail : OListed) (prices : (List ((Int × Int) × (Option Int)))) (here : (List (Int × Int))) : Option (List ((Int × Int) × (Option Int))) :=
  let falls : Bool := true
  (whileT (fun (s1_ : ((List ((Int × Int) × (Option Int))) × Bool)) => (some s1_.2)) (fun (s1_ : ((List ((Int × Int) × (Option Int))) × Bool)) =>
  let falls : Bool := false
  (foldT (fun (s2_ : ((List ((Int × Int) × (Option Int))) × Bool)) (node : (Int × Int)) =>
  ((t_cheapest_d trail s2_.1 node)).bind fun (found : (Option Int)) =>
  (((getT s2_.1 node).bind fun v3_ => some (!decide (found = v3_))).bind fun v4_ => ((if v4_ = true then
  (some found).bind fun u5_ => ((some node)).bind fun i6_ => (putC s2_.1 i6_ u5_).bind fun y7_ =>
  let falls : Bool := true
  some (y7_, falls)
  else
  some (s2_.1, s2_.2) : Option ((List ((Int × Int) × (Option Int))) × Bool))).bind fun (s8_ : ((List ((Int × Int) × (Option Int))) × Bool)) =>
  some (s8_.1, s8_.2))) here (s1_.1, falls)).bind fun (s2_ : ((List ((Int × Int) × (Option Int))) × Bool)) =>
  some (s2_.1, s2_.2)) 5000 (prices, falls)).bind fun (s1_ : ((List ((Int × Int) × (Option Int))) × Bool)) =>
  some s1_.1
def t_priced_d (trail : OListed) : Option (List ((Int × Int) × (Option Int))) :=
  let prices : (List ((Int × Int) × (Option Int))) := ([] : (List ((Int × Int) × (Option Int))))
  ((((t_Listed_last_at trail).bind fun v1_ => some (v1_ + (1 : Int))).bind fun v2_ => (rngT v2_)).bind fun v3_ => (foldT (fun (s4_ : (List ((Int × Int) × (Option Int)))) (back : Int) =>
  ((((t_Listed_last_at trail).bind fun v5_ => some (v5_ - back)).bind fun v6_ => (t_Listed_nodes_at trail v6_))).bind fun (here : (List (Int × Int))) =>
  (foldT (fun (s7_ : (List ((Int × Int) × (Option Int)))) (node : (Int × Int)) =>
  (some ((fun _ => none) ())).bind fun u8_ => ((some node)).bind fun i9_ => (putC s7_ i9_ u8_).bind fun y10_ =>
  ((t_Listed_is_end trail node).bind fun v11_ => ((if v11_ = true then
  (some (some (0 : Int))).bind fun u12_ => ((some node)).bind fun i13_ => (putC y10_ i13_ u12_).bind fun y14_ =>
  some y14_
  else
  some y10_ : Option (List ((Int × Int) × (Option Int))))).bind fun (s15_ : (List ((Int × Int) × (Option Int)))) =>
  some s15_)) here s4_).bind fun (s7_ : (List ((Int × Int) × (Option Int)))) =>
  ((t_settle_d trail s7_ here)).bind fun (u16_ : (List ((Int × Int) × (Option Int)))) =>
  some u16_) v3_ prices).bind fun (s4_ : (List ((Int × Int) × (Option Int)))) =>
  some s4_)
def t_first_least_c (trail : OListed) (prices : (List ((Int × Int) × (Option Int)))) (node : (Int × Int)) : Option (Option (Ts × (Int × Int))) :=
  (((t_Listed_moves_from trail node).bind fun v1_ => some v1_).bind fun v2_ => (forT (τ := (Option (Ts × (Int × Int)))) (fun (s3_ : Unit) (x4_ : (Int × Ts × (Int × Int))) =>
  ((((getT prices x4_.2.2).bind fun v5_ => some (Option.isSome v5_)).bind fun v6_ => (if v6_ = true then (((((getT prices x4_.2.2).bind fun x => x).bind fun v7_ => some (x4_.1 + v7_)).bind fun v8_ => some (some v8_)).bind fun v9_ => (getT prices node).bind fun v10_ => some (decide (v9_ = v10_))) else some false)).bind fun v11_ => if v11_ = true then
  some (.rt (some (x4_.2.1, x4_.2.2)) : (St Unit (Option (Ts × (Int × Int)))))
  else
  some (.nx () : (St Unit (Option (Ts × (Int × Int))))))) v2_ ()).bind fun u => seqT u fun (s3_ : Unit) => some ((fun _ => none) ()))
def t_way_of_c (trail : OListed) : Option (Option ((Option Int) × (List Ts))) :=
  ((t_priced_d trail)).bind fun (prices : (List ((Int × Int) × (Option Int)))) =>
  ((t_Listed_first_node trail)).bind fun (node : (Int × Int)) =>
  (((getT prices node).bind fun v1_ => some (Option.isNone v1_)).bind fun v2_ => if v2_ = true then
  some ((fun _ => none) ())
  else
  let names : (List Ts) := ([] : (List Ts))
  (whileT (fun (s3_ : ((Int × Int) × (List Ts))) => (((t_Listed_is_end trail s3_.1).bind fun v4_ => some (!v4_)).bind fun v5_ => (if v5_ = true then some true else (((getT prices s3_.1).bind fun x => x).bind fun v6_ => some (decide ((0 : Int) < v6_)))))) (fun (s3_ : ((Int × Int) × (List Ts))) =>
  (((t_first_least_c trail prices s3_.1).bind fun x => x)).bind fun (u7_ : (Ts × (Int × Int))) =>
  ((appT s3_.2 u7_.1)).bind fun (u8_ : (List Ts)) =>
  some (u7_.2, u8_)) 5000 (node, names)).bind fun (s3_ : ((Int × Int) × (List Ts))) =>
  ((((t_Listed_first_node trail).bind fun v9_ => (getT prices v9_)).bind fun (r10_ : (Option Int)) => (some s3_.2).bind fun (r11_ : (List Ts)) => some ((r10_, r11_), r10_, r11_, ()))).bind fun u12_ => some (some u12_.1))
def t_walked (trail : OListed) (names : (List Ts)) : Option (Option Int) :=
  let total : Int := (0 : Int)
  ((t_Listed_first_node trail)).bind fun (node : (Int × Int)) =>
  (forT (τ := (Option Int)) (fun (s1_ : (Int × (Int × Int))) (name : Ts) =>
  ((((t_Listed_moves_from trail s1_.2).bind fun v2_ => some v2_).bind fun v3_ => (compT (fun (move : (Int × Ts × (Int × Int))) => (some (decide (move.2.1 = name)))) (fun (move : (Int × Ts × (Int × Int))) => (some move)) v3_))).bind fun (found : (List (Int × Ts × (Int × Int)))) =>
  if (decide (found = ([] : (List (Int × Ts × (Int × Int)))))) = true then
  some (.rt ((fun _ => none) ()) : (St (Int × (Int × Int)) (Option Int)))
  else
  ((((atI found (0 : Int)).bind fun v4_ => some v4_.1).bind fun v5_ => some (s1_.1 + v5_))).bind fun (total : Int) =>
  (((atI found (0 : Int)).bind fun v6_ => some v6_.2.2)).bind fun (node : (Int × Int)) =>
  some (.nx (total, node) : (St (Int × (Int × Int)) (Option Int)))) names (total, node)).bind fun u => seqT u fun (s1_ : (Int × (Int × Int))) => (((t_Listed_is_end trail s1_.2).bind fun v7_ => some (!v7_)).bind fun v8_ => if v8_ = true then
  some ((fun _ => none) ())
  else
  some (some s1_.1))
def t_all_nodes (trail : OListed) : Option (List (Int × Int)) :=
  let found : (List (Int × Int)) := ([] : (List (Int × Int)))
  ((((t_Listed_last_at trail).bind fun v1_ => some (v1_ + (1 : Int))).bind fun v2_ => (rngT v2_)).bind fun v3_ => (foldT (fun (s4_ : (List (Int × Int))) (at_ : Int) =>
  (((t_Listed_nodes_at trail at_).bind fun r5_ => (catL s4_ r5_).bind fun z6_ => some (r5_, z6_))).bind fun (u7_ : ((List (Int × Int)) × (List (Int × Int)))) =>
  some u7_.2) v3_ found).bind fun (s4_ : (List (Int × Int))) =>
  some s4_)
def t_is_price (thing : (Option Int)) : Option Bool :=
  if (Option.isNone thing) = true then
  some true
  else
  some ((Option.isSome thing && true) && (!(Option.isSome thing && false)))
def t_fair_at (trail : OListed) (prices : (List ((Int × Int) × (Option Int)))) (node : (Int × Int)) : Option Bool :=
  ((getT prices node)).bind fun (price : (Option Int)) =>
  (((t_Listed_is_end trail node).bind fun v1_ => (if v1_ = true then (if (Option.isNone price) = true then some true else (price.bind fun v2_ => some (decide ((0 : Int) < v2_)))) else some false)).bind fun v3_ => if v3_ = true then
  some false
  else
  (((t_Listed_moves_from trail node).bind fun v4_ => some v4_).bind fun v5_ => (forT (τ := Bool) (fun (s6_ : Unit) (x7_ : (Int × Ts × (Int × Int))) =>
  ((getT prices x7_.2.2)).bind fun (rest : (Option Int)) =>
  ((if (Option.isSome rest) = true then (if (Option.isNone price) = true then some true else (price.bind fun v8_ => (rest.bind fun v9_ => some (x7_.1 + v9_)).bind fun v10_ => some (decide (v10_ < v8_)))) else some false).bind fun v11_ => if v11_ = true then
  some (.rt false : (St Unit Bool))
  else
  some (.nx () : (St Unit Bool)))) v5_ ()).bind fun u => seqT u fun (s6_ : Unit) => some true))
def t_fair (trail : OListed) (prices : (List ((Int × Int) × (Option Int)))) : Option Bool :=
  ((t_all_nodes trail)).bind fun (nodes : (List (Int × Int))) =>
  if ((!true) || (!decide ((List.length prices : Int) = (List.length nodes : Int)))) = true then
  some false
  else
  (forT (τ := Bool) (fun (s1_ : Unit) (node : (Int × Int)) =>
  ((if (!(getT prices node).isSome) = true then some true else (((getT prices node).bind fun v2_ => (t_is_price v2_)).bind fun v3_ => some (!v3_))).bind fun v4_ => if v4_ = true then
  some (.rt false : (St Unit Bool))
  else
  some (.nx () : (St Unit Bool)))) nodes ()).bind fun u => seqT u fun (s1_ : Unit) => (forT (τ := Bool) (fun (s5_ : Unit) (node : (Int × Int)) =>
  (((t_fair_at trail prices node).bind fun v6_ => some (!v6_)).bind fun v7_ => if v7_ = true then
  some (.rt false : (St Unit Bool))
  else
  some (.nx () : (St Unit Bool)))) nodes ()).bind fun u => seqT u fun (s5_ : Unit) => some true
def t_lw_whole_c (thing : (Option Int)) : Option Bool :=
  some ((Option.isSome thing && true) && (!(Option.isSome thing && false)))
def t_lw_sizes (cell : Int) : Option (List Int) :=
  (((((t_lw_mix_b cell (8 : Int)).bind fun v1_ => some (v1_ % 5)).bind fun v2_ => some ((1 : Int) + v2_)).bind fun v3_ => (rngT v3_)).bind fun v4_ => (compT (fun (k : Int) => (some true)) (fun (k : Int) => (((t_lw_mix_b cell k).bind fun v5_ => some (v5_ % 3)).bind fun v6_ => some ((1 : Int) + v6_))) v4_))
def t_lw_nodes (sizes_here : (List Int)) : Option (List (Int × Int)) :=
  let nodes_here : (List (Int × Int)) := ([] : (List (Int × Int)))
  ((rngT (List.length sizes_here : Int)).bind fun v1_ => (foldT (fun (s2_ : (List (Int × Int))) (at_ : Int) =>
  (((atI sizes_here at_).bind fun v3_ => (rngT v3_)).bind fun v4_ => (foldT (fun (s5_ : (List (Int × Int))) (state : Int) =>
  ((appT s5_ (at_, state))).bind fun (u6_ : (List (Int × Int))) =>
  some u6_) v4_ s2_).bind fun (s5_ : (List (Int × Int))) =>
  some s5_)) v1_ nodes_here).bind fun (s2_ : (List (Int × Int))) =>
  some s2_)
def t_lw_moves (script : (List Int)) (nodes_here : (List (Int × Int))) : Option (List ((Int × Int) × Int × Ts × (Int × Int))) :=
  let moves_here : (List ((Int × Int) × Int × Ts × (Int × Int))) := ([] : (List ((Int × Int) × Int × Ts × (Int × Int))))
  let many : (List ((Int × Int) × Int)) := ([] : (List ((Int × Int) × Int)))
  (foldT (fun (s1_ : ((List ((Int × Int) × Int × Ts × (Int × Int))) × (List ((Int × Int) × Int)))) (cell : Int) =>
  ((((t_lw_mix_b cell (1 : Int)).bind fun v2_ => (modT v2_ (List.length nodes_here : Int))).bind fun v3_ => (atI nodes_here v3_))).bind fun (one : (Int × Int)) =>
  ((compT (fun (node : (Int × Int)) => (some (decide (one.1 ≤ node.1)))) (fun (node : (Int × Int)) => (some node)) nodes_here)).bind fun (beyond : (List (Int × Int))) =>
  ((((t_lw_mix_b cell (6 : Int)).bind fun v4_ => (modT v4_ (List.length beyond : Int))).bind fun v5_ => (atI beyond v5_))).bind fun (other : (Int × Int)) =>
  (((t_lw_mix_b cell (9 : Int)).bind fun v6_ => (((t_lw_mix_b cell (7 : Int)).bind fun v7_ => some (v7_ % 3)).bind fun v8_ => (atI ([(3 : Int), (40 : Int), (1000000000 : Int)] : (List Int)) v8_)).bind fun v9_ => (modT v6_ v9_))).bind fun (cost : Int) =>
  ((if ((decide (other.1 = one.1)) && (decide (cost = (0 : Int)))) = true then
  let cost_2 : Int := (1 : Int)
  some cost_2
  else
  some cost : Option Int)).bind fun (s10_ : Int) =>
  (((((t_lw_mix_b cell (10 : Int)).bind fun v11_ => some (v11_ % 4)).bind fun v12_ => (atI ([(1 : Int), (1 : Int), (1 : Int), (10000000000000000000000000000000000000000 : Int)] : (List Int)) v12_)).bind fun v13_ => (mulT s10_ v13_))).bind fun (cost : Int) =>
  (((((ixS (['a', 'b'] : Ts) (cell % 2)).bind fun v14_ => (repS v14_ (Option.getD (getT s1_.2 one) (0 : Int)))).bind fun v15_ => some (one, cost, v15_, other)).bind fun v16_ => (appT s1_.1 v16_))).bind fun (u17_ : (List ((Int × Int) × Int × Ts × (Int × Int)))) =>
  (some ((Option.getD (getT s1_.2 one) (0 : Int)) + (1 : Int))).bind fun u18_ => ((some one)).bind fun i19_ => (putC s1_.2 i19_ u18_).bind fun y20_ =>
  some (u17_, y20_)) (cutL script (some (3 : Int)) (some (43 : Int))) (moves_here, many)).bind fun (s1_ : ((List ((Int × Int) × Int × Ts × (Int × Int))) × (List ((Int × Int) × Int)))) =>
  some s1_.1
def t_lw_ends (cell : Int) (nodes_here : (List (Int × Int))) : Option (List (Int × Int)) :=
  let ends_here : (List (Int × Int)) := ([] : (List (Int × Int)))
  ((rngT (List.length nodes_here : Int)).bind fun v1_ => (foldT (fun (s2_ : (List (Int × Int))) (k : Int) =>
  ((((t_lw_mix_b cell ((11 : Int) + k)).bind fun v3_ => some (v3_ % 3)).bind fun v4_ => some (decide (v4_ = (0 : Int)))).bind fun v5_ => ((if v5_ = true then
  (((atI nodes_here k).bind fun v6_ => (appT s2_ v6_))).bind fun (u7_ : (List (Int × Int))) =>
  some u7_
  else
  some s2_ : Option (List (Int × Int)))).bind fun (s8_ : (List (Int × Int))) =>
  some s8_)) v1_ ends_here).bind fun (s2_ : (List (Int × Int))) =>
  ((if decide ((0 : Int) < (cell % 4)) = true then ((atI nodes_here (-1 : Int)).bind fun v9_ => some (!memT v9_ s2_)) else some false).bind fun v10_ => ((if v10_ = true then
  (((atI nodes_here (-1 : Int)).bind fun v11_ => (appT s2_ v11_))).bind fun (u12_ : (List (Int × Int))) =>
  some u12_
  else
  some s2_ : Option (List (Int × Int)))).bind fun (s13_ : (List (Int × Int))) =>
  some s13_))
def t_lw_least (nodes_here : (List (Int × Int))) (moves_here : (List ((Int × Int) × Int × Ts × (Int × Int)))) (ends_here : (List (Int × Int))) : Option (List ((Int × Int) × (Option Int))) :=
  let prices : (List ((Int × Int) × (Option Int))) := ([] : (List ((Int × Int) × (Option Int))))
  (foldT (fun (s1_ : (List ((Int × Int) × (Option Int)))) (node : (Int × Int)) =>
  (some ((fun _ => none) ())).bind fun u2_ => ((some node)).bind fun i3_ => (putC s1_ i3_ u2_).bind fun y4_ =>
  ((if (memT node ends_here) = true then
  (some (some (0 : Int))).bind fun u5_ => ((some node)).bind fun i6_ => (putC y4_ i6_ u5_).bind fun y7_ =>
  some y7_
  else
  some y4_ : Option (List ((Int × Int) × (Option Int))))).bind fun (s8_ : (List ((Int × Int) × (Option Int)))) =>
  some s8_) nodes_here prices).bind fun (s1_ : (List ((Int × Int) × (Option Int)))) =>
  ((rngT (List.length nodes_here : Int)).bind fun v9_ => (foldT (fun (s10_ : (List ((Int × Int) × (Option Int)))) (turn : Int) =>
  (foldT (fun (s11_ : (List ((Int × Int) × (Option Int)))) (x12_ : ((Int × Int) × Int × Ts × (Int × Int))) =>
  ((getT s11_ x12_.2.2.2)).bind fun (rest : (Option Int)) =>
  ((if (Option.isSome rest) = true then (((getT s11_ x12_.1).bind fun v13_ => some (Option.isNone v13_)).bind fun v14_ => (if v14_ = true then some true else ((rest.bind fun v15_ => some (x12_.2.1 + v15_)).bind fun v16_ => ((getT s11_ x12_.1).bind fun x => x).bind fun v17_ => some (decide (v16_ < v17_))))) else some false).bind fun v18_ => ((if v18_ = true then
  ((rest.bind fun v19_ => some (x12_.2.1 + v19_)).bind fun v20_ => some (some v20_)).bind fun u21_ => ((some x12_.1)).bind fun i22_ => (putC s11_ i22_ u21_).bind fun y23_ =>
  some y23_
  else
  some s11_ : Option (List ((Int × Int) × (Option Int))))).bind fun (s24_ : (List ((Int × Int) × (Option Int)))) =>
  some s24_)) moves_here s10_).bind fun (s11_ : (List ((Int × Int) × (Option Int)))) =>
  some s11_) v9_ s1_).bind fun (s10_ : (List ((Int × Int) × (Option Int)))) =>
  some s10_)
def t_lw_walked (moves_here : (List ((Int × Int) × Int × Ts × (Int × Int)))) (ends_here : (List (Int × Int))) (names : (List Ts)) : Option (Option Int) :=
  let node : (Int × Int) := ((0 : Int), (0 : Int))
  let total : Int := (0 : Int)
  (forT (τ := (Option Int)) (fun (s1_ : ((Int × Int) × Int)) (name : Ts) =>
  ((compT (fun (move : ((Int × Int) × Int × Ts × (Int × Int))) => (some ((decide (move.1 = s1_.1)) && (decide (move.2.2.1 = name))))) (fun (move : ((Int × Int) × Int × Ts × (Int × Int))) => (some move)) moves_here)).bind fun (here : (List ((Int × Int) × Int × Ts × (Int × Int)))) =>
  if (decide (here = ([] : (List ((Int × Int) × Int × Ts × (Int × Int)))))) = true then
  some (.rt ((fun _ => none) ()) : (St ((Int × Int) × Int) (Option Int)))
  else
  ((((atI here (0 : Int)).bind fun v2_ => some v2_.2.1).bind fun v3_ => some (s1_.2 + v3_))).bind fun (total : Int) =>
  (((atI here (0 : Int)).bind fun v4_ => some v4_.2.2.2)).bind fun (node : (Int × Int)) =>
  some (.nx (node, total) : (St ((Int × Int) × Int) (Option Int)))) names (node, total)).bind fun u => seqT u fun (s1_ : ((Int × Int) × Int)) => if (!memT s1_.1 ends_here) = true then
  some ((fun _ => none) ())
  else
  some (some s1_.2)
def t_lw_alike_d (found : (List ((Int × Int) × (Option Int)))) (due : (List ((Int × Int) × (Option Int)))) : Option Bool :=
  if ((!true) || (!decide ((List.length found : Int) = (List.length due : Int)))) = true then
  some false
  else
  (forT (τ := Bool) (fun (s1_ : Unit) (node : (Int × Int)) =>
  if (!(getT found node).isSome) = true then
  some (.rt false : (St Unit Bool))
  else
  ((((getT due node).bind fun v2_ => some (Option.isNone v2_)).bind fun v3_ => (if v3_ = true then ((getT found node).bind fun v4_ => some (Option.isSome v4_)) else some false)).bind fun v5_ => if v5_ = true then
  some (.rt false : (St Unit Bool))
  else
  ((((getT due node).bind fun v6_ => some (Option.isSome v6_)).bind fun v7_ => (if v7_ = true then ((((getT found node).bind fun v8_ => (t_lw_whole_c v8_)).bind fun v9_ => some (!v9_)).bind fun v10_ => (if v10_ = true then some true else ((getT found node).bind fun v11_ => (getT due node).bind fun v12_ => some (!decide (v11_ = v12_))))) else some false)).bind fun v13_ => if v13_ = true then
  some (.rt false : (St Unit Bool))
  else
  some (.nx () : (St Unit Bool))))) (keysT due) ()).bind fun u => seqT u fun (s1_ : Unit) => some true
end OW

namespace OW
open PySem L2 LI

def cols : Ts := ['a', 'b', 'c', 'd', 'e', 'f', 'g', 'h', '.']
def isCol (c : Char) : Bool := decide (c ∈ cols)
def isSg (c : Char) : Bool := decide (32 ≤ c.toNat) && decide (c.toNat ≤ 125)
abbrev Im := Int × Ts × Ts
def kSign : Ts := ['s', 'i', 'g', 'n']
def kInk : Ts := ['i', 'n', 'k']
def kGround : Ts := ['g', 'r', 'o', 'u', 'n', 'd']
def kPlain : Ts := ['p', 'l', 'a', 'i', 'n']
def kEnd : Ts := ['e', 'n', 'd']
def kAnew : Ts := ['a', 'n', 'e', 'w']
def sgI (c : Char) : Ts × Ts := if c = '\n' then (kEnd, []) else if c = '\t' then (kAnew, []) else (kSign, [c])
def isColO : Option Char → Bool
  | some c => isCol c
  | none => false
def stp (s : Ts) : (Ts × Ts) × Nat :=
  if s[0]? = some '[' then
    if s[1]? = some ']' then ((kPlain, []), 2)
    else if s[1]? = some '[' then ((kSign, ['[']), 2)
    else if isColO s[1]? = true ∧ s[2]? = some ']' then ((kInk, [s[1]?.getD ' ']), 3)
    else if s[1]? = some '/' ∧ isColO s[2]? = true ∧ s[3]? = some ']' then ((kGround, [s[2]?.getD ' ']), 4)
    else ((kSign, ['[']), 1)
  else (sgI (s[0]?.getD ' '), 1)
theorem stp_pos (s : Ts) : 0 < (stp s).2 := by
  unfold stp
  repeat' split
  all_goals simp
def its (p : Int) (s : Ts) : List Im :=
  if h : s = [] then [] else (p, (stp s).1.1, (stp s).1.2) :: its (p + (stp s).2) (s.drop (stp s).2)
termination_by s.length
decreasing_by
  have := stp_pos s
  have : 0 < s.length := List.length_pos_iff.mpr h
  rw [List.length_drop]; omega
end OW

namespace OW
open PySem L2 LI

theorem cell_eq (ns : List Int) (k : Nat) : t_lw_cell ns (k : Int) = some (ns.getD k 0) := by
  unfold t_lw_cell
  by_cases h : k < ns.length
  · simp [h, atI_nat h]
  · simp [h]
theorem mix_ex (c : Int) (k : Int) (h0 : 0 ≤ k) (hk : k ≤ 1000000) : ∃ v, t_lw_mix c k = some v ∧ 0 ≤ v ∧ v < 1000000000 := by
  unfold t_lw_mix
  by_cases hc : (1000000000000000000 : Int) < c
  · rw [if_pos (by simpa using hc)]
    dsimp only
    rw [rngT_ok (by omega) (by omega), Option.bind_some]
    obtain ⟨s, h1, _⟩ := foldT_inv (g := fun (s1 : Int) (turn : Int) => some (s1 / 1000000000)) (fun _ => True) ((List.range k.toNat).map fun (k : Nat) => (k : Int)) c trivial fun s x _ _ => ⟨_, rfl, trivial⟩
    rw [h1]
    exact ⟨_, rfl, by omega, by omega⟩
  · rw [if_neg (by simpa using hc)]
    dsimp only
    rw [rngT_ok (by omega) (by omega), Option.bind_some]
    obtain ⟨s, h1, h2, h3⟩ := foldT_inv (g := fun (s1 : Int) (turn : Int) => some ((s1 * 48271 + 104729) % 2147483629)) (fun s => 0 ≤ s ∧ s < 4294967296) ((List.range (k + 2).toNat).map fun (k : Nat) => (k : Int)) (c % 2147483647 + 7919) ⟨by omega, by omega⟩ fun s x _ _ => ⟨_, rfl, by omega, by omega⟩
    rw [h1, Option.bind_some, mulT_ok (by omega) (by omega), Option.bind_some, Option.bind_some]
    refine ⟨_, rfl, ?_⟩
    generalize s * s = z
    exact ⟨by omega, by omega⟩
end OW

namespace OW
open PySem L2 LI
theorem atI_all {α : Type} {xs : List α} {P : α → Prop} {i : Int} (h0 : 0 ≤ i) (h1 : i < (xs.length : Int)) (h : ∀ x ∈ xs, P x) : ∃ x, atI xs i = some x ∧ P x := by
  obtain ⟨x, h2, h3⟩ := atI_ok h0 h1
  exact ⟨x, h3, h x h2⟩
end OW

namespace OW
open PySem L2 LI
inductive GI : Ts → Ts → Prop
  | sign (c : Char) : isSg c = true → GI kSign [c]
  | ink (c : Char) : isCol c = true → GI kInk [c]
  | ground (c : Char) : isCol c = true → GI kGround [c]
  | plain : GI kPlain []
  | fin : GI kEnd []
  | anew : GI kAnew []
abbrev Lt := Ts × Ts × Ts × Int
abbrev Ls := List Lt
abbrev Pt := Ls × Ts
abbrev Ms := Ls × Bool × Ts × Ts
def dot : Ts := ['.']
def kMore : Ts := ['m', 'o', 'r', 'e']
def kWhole : Ts := ['w', 'h', 'o', 'l', 'e']
def mkS (most : Int) (s : Ms) (i : Im) : Ms × List Pt :=
  if i.2.1 = kAnew then ((s.1, true, dot, dot), [])
  else if i.2.1 = kEnd then (([], false, dot, dot), [(s.1, kWhole)])
  else
    let row : Ls := if s.2.1 = true then [] else s.1
    if i.2.1 = kSign then
      if (row.length : Int) = most then (([(i.2.2, s.2.2.1, s.2.2.2, i.1)], false, s.2.2.1, s.2.2.2), [(row, kMore)])
      else ((row ++ [(i.2.2, s.2.2.1, s.2.2.2, i.1)], false, s.2.2.1, s.2.2.2), [])
    else if i.2.1 = kInk then ((row, false, i.2.2, s.2.2.2), [])
    else if i.2.1 = kGround then ((row, false, s.2.2.1, i.2.2), [])
    else ((row, false, dot, dot), [])
def goS (g : Bool) (told : List Pt) : Bool := match told.getLast? with
  | some p => decide (p.2 = kMore)
  | none => g
def mkO (most : Int) (s : Ms) (g : Bool) : OMaker := ⟨most, s.1, s.2.2.1, s.2.2.2, s.2.1, g⟩
theorem put_eq {most : Int} {s : Ms} {g : Bool} {i : Im} (h : GI i.2.1 i.2.2) (hm : most ≤ 200) (hl : (s.1.length : Int) ≤ most) :
    t_Maker_put (mkO most s g) i = some ((mkS most s i).2, mkO most (mkS most s i).1 (goS g (mkS most s i).2)) := by
  obtain ⟨p, k, v⟩ := i
  obtain ⟨row, stale, ink, ground⟩ := s
  dsimp only at h hl
  have hL : ∀ r : Ls, (r.length : Int) ≤ most → r.length < LIM := fun r hr => by unfold LIM; omega
  unfold t_Maker_put t_Maker_make_plain t_Maker_put_sign t_Maker_tell_part mkO
  cases h with
  | sign c hc =>
    cases stale with
    | true =>
      by_cases hz : (0 : Int) = most
      · subst hz; simp [kSign, kEnd, kAnew, mkS, goS, kMore, dot, appT, LIM]
      · simp [kSign, kEnd, kAnew, mkS, goS, kMore, dot, appT, LIM, hz]
    | false =>
      by_cases hz : (row.length : Int) = most
      · simp [kSign, kEnd, kAnew, mkS, goS, kMore, dot, appT, LIM, hz]
      · simp [kSign, kEnd, kAnew, mkS, goS, kMore, dot, hz, appT_ok (hL row hl)]
  | ink c hc => cases stale <;> simp [kSign, kEnd, kAnew, kInk, mkS, goS, dot]
  | ground c hc => cases stale <;> simp [kSign, kEnd, kAnew, kInk, kGround, mkS, goS, dot]
  | plain => cases stale <;> simp [kSign, kEnd, kAnew, kInk, kGround, kPlain, mkS, goS, dot]
  | fin => simp [kEnd, kAnew, mkS, goS, dot, kWhole, kMore]
  | anew => simp [kEnd, kAnew, mkS, goS, dot]
end OW

namespace OW
open PySem L2 LI
end OW

namespace OW
open PySem L2 LI
abbrev Lt3 := Ts × Ts × Ts
abbrev Kv := Ts × Ts
def pln : Ts := ['.']
def kvI (i : Im) : Kv := (i.2.1, i.2.2)
def kvs (s : Ts) : List Kv := (its 0 s).map kvI
def rv : Ts → Ts
  | [] => []
  | c :: s => if c = '\n' ∨ c = '\t' then [c] else (stp (c :: s)).1.2
end OW

namespace OW
open PySem L2 LI
namespace TR
abbrev Mv (ν : Type) := Int × Ts × ν
abbrev Pr (ν : Type) := List (ν × Option Int)
def Le (a b : Option Int) : Prop := ∀ y, b = some y → ∃ x, a = some x ∧ x ≤ y
theorem Le.refl (a : Option Int) : Le a a := fun y h => ⟨y, h, Int.le_refl _⟩
theorem Le.trans {a b c : Option Int} (h : Le a b) (k : Le b c) : Le a c := fun z hz => by
  obtain ⟨y, hy, h1⟩ := k z hz
  obtain ⟨x, hx, h2⟩ := h y hy
  exact ⟨x, hx, Int.le_trans h2 h1⟩
theorem Le.anti {a b : Option Int} (h : Le a b) (k : Le b a) : a = b := by
  cases b with
  | none =>
    cases a with
    | none => rfl
    | some x => obtain ⟨y, hy, _⟩ := k x rfl; cases hy
  | some y =>
    obtain ⟨x, hx, h1⟩ := h y rfl
    subst hx
    obtain ⟨y', hy, h2⟩ := k x rfl
    cases hy
    rw [Int.le_antisymm h1 h2]
def relax (acc : Option Int) (c : Int) (r : Option Int) : Option Int := match r with
  | none => acc
  | some r => match acc with
    | none => some (c + r)
    | some a => if c + r < a then some (c + r) else some a
theorem relax_le (acc : Option Int) (c : Int) (r : Option Int) : Le (relax acc c r) acc := fun y hy => by
  subst hy
  cases r with
  | none => exact ⟨y, rfl, Int.le_refl _⟩
  | some r =>
    unfold relax
    by_cases h : c + r < y
    · exact ⟨c + r, if_pos h, by omega⟩
    · exact ⟨y, if_neg h, Int.le_refl _⟩
theorem relax_mv (acc : Option Int) (c r : Int) : Le (relax acc c (some r)) (some (c + r)) := fun y hy => by
  cases hy
  cases acc with
  | none => exact ⟨_, rfl, Int.le_refl _⟩
  | some a =>
    unfold relax
    by_cases h : c + r < a
    · exact ⟨c + r, if_pos h, by omega⟩
    · exact ⟨a, if_neg h, by omega⟩
theorem relax_or (acc : Option Int) (c : Int) (r : Option Int) : relax acc c r = acc ∨ ∃ r', r = some r' ∧ relax acc c r = some (c + r') := by
  cases r with
  | none => exact .inl rfl
  | some r =>
    cases acc with
    | none => exact .inr ⟨r, rfl, rfl⟩
    | some a =>
      unfold relax
      by_cases h : c + r < a
      · exact .inr ⟨r, rfl, if_pos h⟩
      · exact .inl (if_neg h)
section
variable {ν : Type}
def cheap (p : ν → Option Int) : List (Mv ν) → Option Int → Option Int
  | [], x => x
  | m :: ms, x => cheap p ms (relax x m.1 (p m.2.2))
theorem cheap_le (p : ν → Option Int) : ∀ (ms : List (Mv ν)) (x : Option Int), Le (cheap p ms x) x
  | [], x => .refl x
  | m :: ms, x => (cheap_le p ms _).trans (relax_le _ _ _)
theorem cheap_mv (p : ν → Option Int) : ∀ (ms : List (Mv ν)) (x : Option Int) (m : Mv ν), m ∈ ms → ∀ r, p m.2.2 = some r → Le (cheap p ms x) (some (m.1 + r))
  | m0 :: ms, x, m, h, r, hr => by
    rcases List.mem_cons.mp h with h | h
    · subst h
      have := (cheap_le p ms (relax x m.1 (p m.2.2)))
      rw [hr] at this
      refine Le.trans ?_ (relax_mv x m.1 r)
      show Le (cheap p ms (relax x m.1 (p m.2.2))) _
      rw [hr]; exact this
    · exact cheap_mv p ms _ m h r hr
theorem cheap_or (p : ν → Option Int) : ∀ (ms : List (Mv ν)) (x : Option Int), cheap p ms x = x ∨ ∃ m ∈ ms, ∃ r, p m.2.2 = some r ∧ cheap p ms x = some (m.1 + r)
  | [], x => .inl rfl
  | m :: ms, x => by
    rcases cheap_or p ms (relax x m.1 (p m.2.2)) with h | ⟨m', h1, r, h2, h3⟩
    · rcases relax_or x m.1 (p m.2.2) with k | ⟨r, k1, k2⟩
      · left; show cheap p ms _ = x; rw [h, k]
      · right; exact ⟨m, List.mem_cons_self, r, k1, by show cheap p ms _ = _; rw [h, k2]⟩
    · right; exact ⟨m', List.mem_cons_of_mem _ h1, r, h2, h3⟩
variable [DecidableEq ν]
def up (p : ν → Option Int) (n : ν) (v : Option Int) : ν → Option Int := fun m => if m = n then v else p m
theorem up_same (p : ν → Option Int) (n : ν) : up p n (p n) = p := by
  funext m
  unfold up
  split
  · rename_i h; rw [h]
  · rfl
variable (mv : ν → List (Mv ν))
def pass : List ν → (ν → Option Int) → (ν → Option Int)
  | [], p => p
  | n :: ns, p => pass ns (up p n (cheap p (mv n) (p n)))
theorem up_le (p : ν → Option Int) (n m : ν) {v : Option Int} (h : Le v (p n)) : Le (up p n v m) (p m) := by
  unfold up
  split
  · rename_i e; rw [e]; exact h
  · exact .refl _
theorem pass_le : ∀ (ns : List ν) (p : ν → Option Int) (n : ν), Le (pass mv ns p n) (p n)
  | [], p, n => .refl _
  | k :: ns, p, n => (pass_le ns _ n).trans (up_le p k n (cheap_le p _ _))
theorem pass_out : ∀ (ns : List ν) (p : ν → Option Int) (n : ν), n ∉ ns → pass mv ns p n = p n
  | [], p, n, _ => rfl
  | k :: ns, p, n, h => by
    show pass mv ns _ n = _
    rw [pass_out ns _ n fun q => h (List.mem_cons_of_mem _ q)]
    unfold up
    rw [if_neg fun q => h (by rw [q]; exact List.mem_cons_self)]
theorem pass_mv : ∀ (ns : List ν) (p : ν → Option Int) (n : ν) (m : Mv ν), n ∈ ns → m ∈ mv n → ∀ r, p m.2.2 = some r → Le (pass mv ns p n) (some (m.1 + r))
  | k :: ns, p, n, m, hn, hm, r, hr => by
    by_cases hk : n = k
    · subst hk
      refine (pass_le mv ns _ n).trans ?_
      have : up p n (cheap p (mv n) (p n)) n = cheap p (mv n) (p n) := if_pos rfl
      rw [this]
      exact cheap_mv p _ _ m hm r hr
    · have hn' : n ∈ ns := by rcases List.mem_cons.mp hn with h | h; exact absurd h hk; exact h
      obtain ⟨r', h1, h2⟩ := up_le p k m.2.2 (cheap_le p (mv k) (p k)) r hr
      exact (pass_mv ns _ n m hn' hm r' h1).trans fun y hy => by cases hy; exact ⟨m.1 + r', rfl, by omega⟩
variable (en : ν → Bool)
def Att (p : ν → Option Int) (n : ν) : Prop := ∀ d, p n = some d → (en n = true ∧ d = 0) ∨ ∃ m ∈ mv n, ∃ r, p m.2.2 = some r ∧ m.1 + r ≤ d
def NN (p : ν → Option Int) : Prop := ∀ n d, p n = some d → 0 ≤ d
theorem up_att (p : ν → Option Int) (k : ν) (h : ∀ n, Att mv en p n) : ∀ n, Att mv en (up p k (cheap p (mv k) (p k))) n := fun n d hd => by
  have dn := fun m => up_le p k m (cheap_le p (mv k) (p k))
  have old : ∀ d0, p n = some d0 → d0 ≤ d → (en n = true ∧ d0 = 0 ∧ True) ∨ ∃ m ∈ mv n, ∃ r, up p k (cheap p (mv k) (p k)) m.2.2 = some r ∧ m.1 + r ≤ d := fun d0 h0 hl => by
    rcases h n d0 h0 with ⟨a, b⟩ | ⟨m, h1, r, h2, h3⟩
    · exact .inl ⟨a, b, trivial⟩
    · obtain ⟨r', k1, k2⟩ := dn m.2.2 r h2
      exact .inr ⟨m, h1, r', k1, by omega⟩
  by_cases hk : n = k
  · subst hk
    have e : up p n (cheap p (mv n) (p n)) n = cheap p (mv n) (p n) := if_pos rfl
    rw [e] at hd
    rcases cheap_or p (mv n) (p n) with q | ⟨m, h1, r, h2, h3⟩
    · rw [q] at hd
      rcases old d hd (Int.le_refl _) with ⟨a, b, _⟩ | z
      · exact .inl ⟨a, b⟩
      · exact .inr z
    · rw [h3] at hd
      cases hd
      obtain ⟨r', k1, k2⟩ := dn m.2.2 r h2
      exact .inr ⟨m, h1, r', k1, by omega⟩
  · have e : up p k (cheap p (mv k) (p k)) n = p n := if_neg hk
    rw [e] at hd
    rcases old d hd (Int.le_refl _) with ⟨a, b, _⟩ | z
    · exact .inl ⟨a, b⟩
    · exact .inr z
theorem pass_att : ∀ (ns : List ν) (p : ν → Option Int), (∀ n, Att mv en p n) → ∀ n, Att mv en (pass mv ns p) n
  | [], p, h => h
  | k :: ns, p, h => pass_att ns _ (up_att mv en p k h)
theorem pass_nn : ∀ (ns : List ν) (p : ν → Option Int), (∀ n ∈ ns, ∀ m ∈ mv n, 0 ≤ m.1) → NN p → NN (pass mv ns p)
  | [], p, _, h => h
  | k :: ns, p, hc, h => pass_nn ns _ (fun n hn => hc n (List.mem_cons_of_mem _ hn)) fun n d hd => by
    unfold up at hd
    split at hd
    · rcases cheap_or p (mv k) (p k) with q | ⟨m, h1, r, h2, h3⟩
      · rw [q] at hd; exact h k d hd
      · rw [h3] at hd; cases hd
        have := h _ r h2
        have := hc k List.mem_cons_self m h1
        omega
    · exact h n d hd
def seq (ns : List ν) (p : ν → Option Int) : Nat → (ν → Option Int)
  | 0 => p
  | k + 1 => pass mv ns (seq ns p k)
theorem seq_mono (ns : List ν) (p : ν → Option Int) (n : ν) : ∀ (j k : Nat), j ≤ k → Le (seq mv ns p k n) (seq mv ns p j n) := fun j k h => by
  induction k with
  | zero => rw [show j = 0 by omega]; exact .refl _
  | succ k ih =>
    by_cases e : j = k + 1
    · rw [e]; exact .refl _
    · exact (pass_le mv ns _ n).trans (ih (by omega))
theorem stable1 (f : Nat → Option Int) (hm : ∀ j k, j ≤ k → Le (f k) (f j)) (hn : ∀ k d, f k = some d → 0 ≤ d) : ∃ K, ∀ k, K ≤ k → f k = f K := by
  have key : ∀ (N k : Nat) (d : Int), f k = some d → d.toNat ≤ N → ∃ K, ∀ j, K ≤ j → f j = f K := by
    intro N
    induction N with
    | zero =>
      intro k d hd hN
      refine ⟨k, fun j hj => ?_⟩
      obtain ⟨x, hx, hle⟩ := hm k j hj d hd
      have := hn j x hx
      have := hn k d hd
      rw [hx, hd, show x = d by omega]
    | succ N ih =>
      intro k d hd hN
      by_cases hh : ∀ j, k ≤ j → f j = f k
      · exact ⟨k, hh⟩
      · obtain ⟨j, hj⟩ := Classical.not_forall.mp hh
        obtain ⟨hkj, hne⟩ := Classical.not_imp.mp hj
        obtain ⟨x, hx, hle⟩ := hm k j hkj d hd
        have := hn j x hx
        have : x ≠ d := fun q => hne (by rw [hx, hd, q])
        exact ih j x hx (by omega)
  by_cases h : ∃ k d, f k = some d
  · obtain ⟨k, d, hd⟩ := h
    exact key d.toNat k d hd (Nat.le_refl _)
  · refine ⟨0, fun k _ => ?_⟩
    have no : ∀ k, f k = none := fun k => by
      cases e : f k with
      | none => rfl
      | some d => exact absurd ⟨k, d, e⟩ h
    rw [no k, no 0]
theorem stableN (f : Nat → ν → Option Int) (hm : ∀ n j k, j ≤ k → Le (f k n) (f j n)) (hn : ∀ k n d, f k n = some d → 0 ≤ d) : ∀ ns : List ν, ∃ K, ∀ n ∈ ns, ∀ k, K ≤ k → f k n = f K n
  | [] => ⟨0, fun n h => by cases h⟩
  | x :: ns => by
    obtain ⟨K1, h1⟩ := stableN f hm hn ns
    obtain ⟨K2, h2⟩ := stable1 (fun k => f k x) (fun j k h => hm x j k h) fun k d h => hn k x d h
    refine ⟨max K1 K2, fun n hx k hk => ?_⟩
    rcases List.mem_cons.mp hx with h | h
    · subst h
      rw [show f k n = f K2 n from h2 k (by omega), show f (max K1 K2) n = f K2 n from h2 _ (by omega)]
    · rw [h1 n h k (by omega), h1 n h (max K1 K2) (by omega)]
theorem least (f : ν → Nat) : ∀ l : List ν, l ≠ [] → ∃ n ∈ l, ∀ m ∈ l, f n ≤ f m
  | [], h => absurd rfl h
  | [x], _ => ⟨x, List.mem_cons_self, fun m hm => by rw [List.mem_singleton] at hm; rw [hm]; exact Nat.le_refl _⟩
  | x :: y :: l, _ => by
    obtain ⟨n, h1, h2⟩ := least f (y :: l) (by simp)
    by_cases h : f x ≤ f n
    · refine ⟨x, List.mem_cons_self, fun m hm => ?_⟩
      rcases List.mem_cons.mp hm with q | q
      · rw [q]; exact Nat.le_refl _
      · exact Nat.le_trans h (h2 m q)
    · refine ⟨n, List.mem_cons_of_mem _ h1, fun m hm => ?_⟩
      rcases List.mem_cons.mp hm with q | q
      · rw [q]; omega
      · exact h2 m q
theorem filter_lt {q r : ν → Bool} : ∀ {l : List ν}, (∀ n ∈ l, q n = true → r n = true) → (∃ n ∈ l, r n = true ∧ q n = false) → (l.filter q).length < (l.filter r).length
  | [], _, ⟨n, h, _⟩ => by cases h
  | x :: l, h, hx => by
    have le : ∀ {l : List ν}, (∀ n ∈ l, q n = true → r n = true) → (l.filter q).length ≤ (l.filter r).length := by
      intro l
      induction l with
      | nil => intro _; exact Nat.le_refl _
      | cons y l ih =>
        intro h
        have i := ih fun n hn => h n (List.mem_cons_of_mem _ hn)
        rw [List.filter_cons, List.filter_cons]
        by_cases hq : q y = true
        · rw [if_pos hq, if_pos (h y List.mem_cons_self hq), List.length_cons, List.length_cons]; omega
        · rw [if_neg hq]
          split
          · rw [List.length_cons]; omega
          · exact i
    have hl := fun n hn => h n (List.mem_cons_of_mem x hn)
    obtain ⟨n, hn, h1, h2⟩ := hx
    rw [List.filter_cons, List.filter_cons]
    rcases List.mem_cons.mp hn with e | e
    · subst e
      rw [h1, h2]
      simp only [if_true, Bool.false_eq_true, if_false, List.length_cons]
      have := le hl
      omega
    · have i := filter_lt hl ⟨n, e, h1, h2⟩
      by_cases hq : q x = true
      · rw [if_pos hq, if_pos (h x List.mem_cons_self hq), List.length_cons, List.length_cons]; omega
      · rw [if_neg hq]
        split
        · rw [List.length_cons]; omega
        · exact i
structure Start (ns : List ν) (p : ν → Option Int) : Prop where
  nn : NN p
  att : ∀ n, Att mv en p n
  ends : ∀ n ∈ ns, en n = true → p n = some 0
  pos : ∀ n ∈ ns, ∀ m ∈ mv n, 0 ≤ m.1 ∧ (m.2.2 ∈ ns → 1 ≤ m.1)
theorem seq_nn {ns : List ν} {p : ν → Option Int} (s : Start mv en ns p) : ∀ k, NN (seq mv ns p k)
  | 0 => s.nn
  | k + 1 => pass_nn mv ns _ (fun n hn m hm => (s.pos n hn m hm).1) (seq_nn s k)
theorem seq_att {ns : List ν} {p : ν → Option Int} (s : Start mv en ns p) : ∀ k n, Att mv en (seq mv ns p k) n
  | 0 => s.att
  | k + 1 => pass_att mv en ns _ (seq_att s k)
theorem seq_out {ns : List ν} {p : ν → Option Int} {n : ν} (h : n ∉ ns) : ∀ k, seq mv ns p k n = p n
  | 0 => rfl
  | k + 1 => by show pass mv ns _ n = _; rw [pass_out mv ns _ n h, seq_out h k]
theorem seq_stop {ns : List ν} {p : ν → Option Int} (s : Start mv en ns p) : seq mv ns p (ns.length + 1) = seq mv ns p ns.length := by
  obtain ⟨K, hK⟩ := stableN (seq mv ns p) (fun n j k h => seq_mono mv ns p n j k h) (fun k n d h => seq_nn mv en s k n d h) ns
  let P := seq mv ns p
  let F := P K
  have low : ∀ k n, Le (F n) (P k n) := fun k n => by
    by_cases hn : n ∈ ns
    · by_cases h : K ≤ k
      · rw [show P k n = F n from hK n hn k h]; exact .refl _
      · exact seq_mono mv ns p n k K (by omega)
    · rw [show F n = p n from seq_out mv hn K, show P k n = p n from seq_out mv hn k]; exact .refl _
  have keep : ∀ k n, P k n = F n → P (k + 1) n = F n := fun k n h => (by
    refine Le.anti ?_ (low (k + 1) n)
    rw [← h]; exact pass_le mv ns _ n)
  have step : ∀ k, (∃ n ∈ ns, P k n ≠ F n) → (ns.filter fun n => decide (P (k + 1) n ≠ F n)).length < (ns.filter fun n => decide (P k n ≠ F n)).length := by
    intro k ⟨n0, h0, h1⟩
    refine filter_lt (fun n _ h => ?_) ?_
    · have h : P (k + 1) n ≠ F n := of_decide_eq_true h
      exact decide_eq_true fun q => h (keep k n q)
    · obtain ⟨n, hn, hmin⟩ := least (fun n => ((F n).getD 0).toNat) (ns.filter fun n => decide (P k n ≠ F n)) (List.ne_nil_of_mem (List.mem_filter.mpr ⟨h0, decide_eq_true h1⟩))
      obtain ⟨hn1, hn2⟩ := List.mem_filter.mp hn
      have hn2 : P k n ≠ F n := of_decide_eq_true hn2
      refine ⟨n, hn1, decide_eq_true hn2, decide_eq_false fun q => q ?_⟩
      cases hF : F n with
      | none =>
        exfalso
        apply hn2
        cases hP : P k n with
        | none => rw [hF]
        | some x => obtain ⟨y, hy, _⟩ := low k n x hP; rw [hF] at hy; cases hy
      | some d =>
        have hd := seq_nn mv en s K n d hF
        rcases seq_att mv en s K n d hF with ⟨a, b⟩ | ⟨m, h2, r, h3, h4⟩
        · exfalso
          apply hn2
          rw [hF, b]
          obtain ⟨x, hx, hle⟩ := seq_mono mv ns p n 0 k (Nat.zero_le _) 0 (s.ends n hn1 a)
          have := seq_nn mv en s k n x hx
          rw [show P k n = some x from hx, show x = 0 by omega]
        · have hb : P k m.2.2 = some r := by
            by_cases hin : m.2.2 ∈ ns
            · by_cases hbad : P k m.2.2 = F m.2.2
              · rw [hbad]; exact h3
              · have := hmin m.2.2 (List.mem_filter.mpr ⟨hin, decide_eq_true hbad⟩)
                have h3' : F m.2.2 = some r := h3
                rw [hF, h3'] at this
                have hc := (s.pos n hn1 m h2).2 hin
                have hr := seq_nn mv en s K m.2.2 r h3
                simp only [Option.getD_some] at this
                omega
            · rw [show P k m.2.2 = p m.2.2 from seq_out mv hin k, ← h3]; exact (seq_out mv hin K).symm
          obtain ⟨x, hx, hle⟩ := pass_mv mv ns (P k) n m hn1 h2 r hb _ rfl
          obtain ⟨d', hd', hle'⟩ := low (k + 1) n x hx
          rw [hF] at hd'
          cases hd'
          rw [show P (k + 1) n = some x from hx, show x = d by omega]
  have bound : ∀ k, (∃ n ∈ ns, P k n ≠ F n) → (ns.filter fun n => decide (P k n ≠ F n)).length + k ≤ ns.length := by
    intro k
    induction k with
    | zero => intro _; exact List.length_filter_le _ _
    | succ k ih =>
      intro ⟨n, hn, h⟩
      have h' : ∃ n ∈ ns, P k n ≠ F n := ⟨n, hn, fun q => h (keep k n q)⟩
      have := step k h'
      have := ih h'
      omega
  have fin : ∀ n, P ns.length n = F n := by
    intro n
    by_cases hn : n ∈ ns
    · by_cases h : P ns.length n = F n
      · exact h
      · exfalso
        have h1 := bound ns.length ⟨n, hn, h⟩
        have h2 : 0 < (ns.filter fun n => decide (P ns.length n ≠ F n)).length := List.length_pos_of_mem (List.mem_filter.mpr ⟨hn, decide_eq_true h⟩)
        omega
    · rw [show F n = p n from seq_out mv hn K]; exact seq_out mv hn _
  funext n
  rw [show seq mv ns p ns.length n = F n from fin n]
  exact keep ns.length n (fin n)
end
end TR
end OW

namespace OW
open PySem L2 LI
namespace TR
section
variable {ν : Type} [DecidableEq ν]
def val (m : Pr ν) (n : ν) : Option Int := (getT m n).getD none
theorem getT_key {m : Pr ν} {n : ν} : n ∈ m.map (·.1) ↔ ∃ v, getT m n = some v := by
  induction m with
  | nil => exact ⟨fun h => (by cases h), fun ⟨v, h⟩ => (by cases h)⟩
  | cons p m ih =>
    rw [List.map_cons, List.mem_cons, getT]
    by_cases h : p.1 = n
    · rw [if_pos h]; exact ⟨fun _ => ⟨_, rfl⟩, fun _ => .inl h.symm⟩
    · rw [if_neg h, ← ih]
      exact ⟨fun q => q.elim (fun z => absurd z.symm h) id, .inr⟩
theorem getT_val {m : Pr ν} {n : ν} (h : n ∈ m.map (·.1)) : getT m n = some (val m n) := by
  obtain ⟨v, e⟩ := getT_key.mp h
  unfold val
  rw [e]; rfl
theorem val_out {m : Pr ν} {n : ν} (h : n ∉ m.map (·.1)) : val m n = none := by
  unfold val
  cases e : getT m n with
  | none => rfl
  | some v => exact absurd (getT_key.mpr ⟨v, e⟩) h
theorem getT_mapv {n k : ν} {v : Option Int} : ∀ m : Pr ν, getT (m.map fun p => if p.1 = k then (p.1, v) else p) n = if n = k then (getT m n).map (fun _ => v) else getT m n
  | [] => by split <;> rfl
  | p :: m => by
    rw [List.map_cons, getT, getT, getT_mapv m]
    by_cases h : p.1 = k
    · rw [if_pos h]
      by_cases h2 : p.1 = n
      · rw [if_pos h2, if_pos h2, if_pos (by rw [← h2, h])]; rfl
      · rw [if_neg h2, if_neg h2]
    · rw [if_neg h]
      by_cases h2 : p.1 = n
      · rw [if_pos h2, if_pos h2, if_neg (by rw [← h2]; exact h)]
      · rw [if_neg h2, if_neg h2]
theorem put_old {m : Pr ν} {n : ν} {v : Option Int} (h : n ∈ m.map (·.1)) (hl : m.length < LIM) : ∃ m', putC m n v = some m' ∧ m'.map (·.1) = m.map (·.1) ∧ val m' = up (val m) n v := by
  refine ⟨m.map fun p => if p.1 = n then (p.1, v) else p, ?_, ?_, ?_⟩
  · unfold putC putT
    rw [if_pos hl, if_pos]
    rw [List.any_eq_true]
    obtain ⟨p, hp, e⟩ := List.mem_map.mp h
    exact ⟨p, hp, decide_eq_true e⟩
  · rw [List.map_map]
    refine List.map_congr_left fun p _ => ?_
    show (if p.1 = n then (p.1, v) else p).1 = p.1
    split <;> rfl
  · funext k
    unfold val up
    rw [getT_mapv]
    by_cases hk : k = n
    · subst hk
      rw [if_pos rfl, if_pos rfl]
      obtain ⟨w, e⟩ := getT_key.mp h
      rw [e]; rfl
    · rw [if_neg hk, if_neg hk]
theorem put_new {m : Pr ν} {n : ν} {v : Option Int} (h : n ∉ m.map (·.1)) (hl : m.length < LIM) : putC m n v = some (m ++ [(n, v)]) ∧ (m ++ [(n, v)]).map (·.1) = m.map (·.1) ++ [n] ∧ val (m ++ [(n, v)]) = up (val m) n v := by
  have hne : ∀ p ∈ m, p.1 ≠ n := fun p hp e => h (List.mem_map.mpr ⟨p, hp, e⟩)
  have g : ∀ (m : Pr ν), (∀ p ∈ m, p.1 ≠ n) → ∀ k, getT (m ++ [(n, v)]) k = if k = n then some v else getT m k := by
    intro m
    induction m with
    | nil =>
      intro _ k
      show (if n = k then some v else none) = _
      by_cases e : k = n
      · rw [if_pos e.symm, if_pos e]
      · rw [if_neg fun q => e q.symm, if_neg e]; rfl
    | cons p m ih =>
      intro hp k
      rw [List.cons_append, getT, getT, ih (fun q hq => hp q (List.mem_cons_of_mem _ hq))]
      by_cases e : p.1 = k
      · rw [if_pos e, if_pos e, if_neg fun q => hp p List.mem_cons_self (by rw [e, q])]
      · rw [if_neg e, if_neg e]
  refine ⟨?_, by simp, ?_⟩
  · unfold putC putT
    rw [if_pos hl, if_neg]
    rw [Bool.not_eq_true, List.any_eq_false]
    intro p hp
    simp [hne p hp]
  · funext k
    unfold val up
    rw [g m hne]
    by_cases e : k = n
    · rw [if_pos e, if_pos e]; rfl
    · rw [if_neg e, if_neg e]
def gCheapest (mv : ν → Option (List (Mv ν))) (prices : Pr ν) (node : ν) : Option (Option Int) :=
  ((getT prices node)).bind fun (found : (Option Int)) =>
  (((mv node).bind fun v1_ => some v1_).bind fun v2_ => (foldT (fun (s3_ : (Option Int)) (x4_ : Mv ν) =>
  ((getT prices x4_.2.2)).bind fun (rest : (Option Int)) =>
  ((if (Option.isSome rest) = true then (if (Option.isNone s3_) = true then some true else ((rest.bind fun v5_ => some (x4_.1 + v5_)).bind fun v6_ => s3_.bind fun v7_ => some (decide (v6_ < v7_)))) else some false).bind fun v8_ => ((if v8_ = true then
  (((rest.bind fun v9_ => some (x4_.1 + v9_)).bind fun v10_ => some (some v10_))).bind fun (found : (Option Int)) =>
  some found
  else
  some s3_ : Option (Option Int))).bind fun (s11_ : (Option Int)) =>
  some s11_)) v2_ found).bind fun (s3_ : (Option Int)) =>
  some s3_)
def gTurn (mv : ν → Option (List (Mv ν))) (s2_ : Pr ν × Bool) (node : ν) : Option (Pr ν × Bool) :=
  ((gCheapest mv s2_.1 node)).bind fun (found : (Option Int)) =>
  (((getT s2_.1 node).bind fun v3_ => some (!decide (found = v3_))).bind fun v4_ => ((if v4_ = true then
  (some found).bind fun u5_ => ((some node)).bind fun i6_ => (putC s2_.1 i6_ u5_).bind fun y7_ =>
  let falls : Bool := true
  some (y7_, falls)
  else
  some (s2_.1, s2_.2) : Option (Pr ν × Bool))).bind fun (s8_ : (Pr ν × Bool)) =>
  some (s8_.1, s8_.2))
def gSettle (fu : Nat) (mv : ν → Option (List (Mv ν))) (prices : Pr ν) (here : List ν) : Option (Pr ν) :=
  let falls : Bool := true
  (whileT (fun (s1_ : (Pr ν × Bool)) => (some s1_.2)) (fun (s1_ : (Pr ν × Bool)) =>
  let falls : Bool := false
  (foldT (fun (s2_ : (Pr ν × Bool)) (node : ν) => gTurn mv s2_ node) here (s1_.1, falls)).bind fun (s2_ : (Pr ν × Bool)) =>
  some (s2_.1, s2_.2)) fu (prices, falls)).bind fun (s1_ : (Pr ν × Bool)) =>
  some s1_.1
def gPut (isEnd : ν → Option Bool) (s7_ : Pr ν) (node : ν) : Option (Pr ν) :=
  (some ((fun _ => none) ())).bind fun u8_ => ((some node)).bind fun i9_ => (putC s7_ i9_ u8_).bind fun y10_ =>
  ((isEnd node).bind fun v11_ => ((if v11_ = true then
  (some (some (0 : Int))).bind fun u12_ => ((some node)).bind fun i13_ => (putC y10_ i13_ u12_).bind fun y14_ =>
  some y14_
  else
  some y10_ : Option (Pr ν))).bind fun (s15_ : (Pr ν)) =>
  some s15_)
def gPriced (fu : Nat) (mv : ν → Option (List (Mv ν))) (lastAt : Option Int) (nodesAt : Int → Option (List ν)) (isEnd : ν → Option Bool) : Option (Pr ν) :=
  let prices : (Pr ν) := ([] : (Pr ν))
  (((lastAt.bind fun v1_ => some (v1_ + (1 : Int))).bind fun v2_ => (rngT v2_)).bind fun v3_ => (foldT (fun (s4_ : (Pr ν)) (back : Int) =>
  (((lastAt.bind fun v5_ => some (v5_ - back)).bind fun v6_ => (nodesAt v6_))).bind fun (here : (List ν)) =>
  (foldT (fun (s7_ : (Pr ν)) (node : ν) => gPut isEnd s7_ node) here s4_).bind fun (s7_ : (Pr ν)) =>
  ((gSettle fu mv s7_ here)).bind fun (u16_ : (Pr ν)) =>
  some u16_) v3_ prices).bind fun (s4_ : (Pr ν)) =>
  some s4_)
def gFirst (mv : ν → Option (List (Mv ν))) (prices : Pr ν) (node : ν) : Option (Option (Ts × ν)) :=
  (((mv node).bind fun v1_ => some v1_).bind fun v2_ => (forT (τ := (Option (Ts × ν))) (fun (s3_ : Unit) (x4_ : Mv ν) =>
  ((((getT prices x4_.2.2).bind fun v5_ => some (Option.isSome v5_)).bind fun v6_ => (if v6_ = true then (((((getT prices x4_.2.2).bind fun x => x).bind fun v7_ => some (x4_.1 + v7_)).bind fun v8_ => some (some v8_)).bind fun v9_ => (getT prices node).bind fun v10_ => some (decide (v9_ = v10_))) else some false)).bind fun v11_ => if v11_ = true then
  some (.rt (some (x4_.2.1, x4_.2.2)) : (St Unit (Option (Ts × ν))))
  else
  some (.nx () : (St Unit (Option (Ts × ν)))))) v2_ ()).bind fun u => seqT u fun (s3_ : Unit) => some ((fun _ => none) ()))
def gWay (f2 : Nat) (mv : ν → Option (List (Mv ν))) (prices0 : Option (Pr ν)) (isEnd : ν → Option Bool) (first : Option ν) : Option (Option (Option Int × List Ts)) :=
  (prices0).bind fun (prices : (Pr ν)) =>
  (first).bind fun (node : ν) =>
  (((getT prices node).bind fun v1_ => some (Option.isNone v1_)).bind fun v2_ => if v2_ = true then
  some ((fun _ => none) ())
  else
  let names : (List Ts) := ([] : (List Ts))
  (whileT (fun (s3_ : (ν × (List Ts))) => (((isEnd s3_.1).bind fun v4_ => some (!v4_)).bind fun v5_ => (if v5_ = true then some true else (((getT prices s3_.1).bind fun x => x).bind fun v6_ => some (decide ((0 : Int) < v6_)))))) (fun (s3_ : (ν × (List Ts))) =>
  (((gFirst mv prices s3_.1).bind fun x => x)).bind fun (u7_ : (Ts × ν)) =>
  ((appT s3_.2 u7_.1)).bind fun (u8_ : (List Ts)) =>
  some (u7_.2, u8_)) f2 (node, names)).bind fun (s3_ : (ν × (List Ts))) =>
  (((first.bind fun v9_ => (getT prices v9_)).bind fun v10_ => some (v10_, s3_.2)).bind fun v11_ => some (some v11_)))
theorem cheapest_ok {mv : ν → Option (List (Mv ν))} {m : Pr ν} {n : ν} {ms : List (Mv ν)} (hm : mv n = some ms) (hn : n ∈ m.map (·.1)) (ht : ∀ x ∈ ms, x.2.2 ∈ m.map (·.1)) : gCheapest mv m n = some (cheap (val m) ms (val m n)) := by
  unfold gCheapest
  rw [getT_val hn, Option.bind_some, hm, Option.bind_some, Option.bind_some]
  have key : ∀ (ms : List (Mv ν)) (x : Option Int), (∀ y ∈ ms, y.2.2 ∈ m.map (·.1)) → foldT (fun (s3_ : (Option Int)) (x4_ : Mv ν) =>
  ((getT m x4_.2.2)).bind fun (rest : (Option Int)) =>
  ((if (Option.isSome rest) = true then (if (Option.isNone s3_) = true then some true else ((rest.bind fun v5_ => some (x4_.1 + v5_)).bind fun v6_ => s3_.bind fun v7_ => some (decide (v6_ < v7_)))) else some false).bind fun v8_ => ((if v8_ = true then
  (((rest.bind fun v9_ => some (x4_.1 + v9_)).bind fun v10_ => some (some v10_))).bind fun (found : (Option Int)) =>
  some found
  else
  some s3_ : Option (Option Int))).bind fun (s11_ : (Option Int)) =>
  some s11_)) ms x = some (cheap (val m) ms x) := by
    intro ms
    induction ms with
    | nil => intro x _; rfl
    | cons y ms ih =>
      intro x h
      rw [foldT_cons, getT_val (h y List.mem_cons_self), Option.bind_some]
      have e : ((if (Option.isSome (val m y.2.2)) = true then (if (Option.isNone x) = true then some true else (((val m y.2.2).bind fun v5_ => some (y.1 + v5_)).bind fun v6_ => x.bind fun v7_ => some (decide (v6_ < v7_)))) else some false).bind fun v8_ => ((if v8_ = true then
  ((((val m y.2.2).bind fun v9_ => some (y.1 + v9_)).bind fun v10_ => some (some v10_))).bind fun (found : (Option Int)) =>
  some found
  else
  some x : Option (Option Int))).bind fun (s11_ : (Option Int)) =>
  some s11_) = some (relax x y.1 (val m y.2.2)) := by
        cases val m y.2.2 with
        | none => rfl
        | some r =>
          cases x with
          | none => rfl
          | some a =>
            by_cases h : y.1 + r < a
            · simp [relax, h]
            · simp [relax, h]
      rw [e, Option.bind_some]
      exact ih _ fun z hz => h z (List.mem_cons_of_mem _ hz)
  rw [key ms _ ht]; rfl
theorem turn_ok {mv : ν → Option (List (Mv ν))} {m : Pr ν} {f : Bool} {n : ν} {ms : List (Mv ν)} (hm : mv n = some ms) (hn : n ∈ m.map (·.1)) (ht : ∀ x ∈ ms, x.2.2 ∈ m.map (·.1)) (hl : m.length < LIM) :
    ∃ m' f', gTurn mv (m, f) n = some (m', f') ∧ m'.map (·.1) = m.map (·.1) ∧ val m' = up (val m) n (cheap (val m) ms (val m n)) ∧ (f' = true ↔ f = true ∨ cheap (val m) ms (val m n) ≠ val m n) := by
  unfold gTurn
  rw [cheapest_ok hm hn ht]
  simp only [Option.bind_some]
  rw [getT_val hn]
  simp only [Option.bind_some]
  by_cases h : cheap (val m) ms (val m n) = val m n
  · rw [if_neg (by simp [h])]
    exact ⟨m, f, rfl, rfl, by rw [h, up_same], by simp [h]⟩
  · rw [if_pos (by simp [h])]
    obtain ⟨m', e1, e2, e3⟩ := put_old (v := cheap (val m) ms (val m n)) hn hl
    rw [e1]
    exact ⟨m', true, rfl, e2, e3, by simp [h]⟩
theorem turns_ok {mv : ν → Option (List (Mv ν))} {mvs : ν → List (Mv ν)} : ∀ (ns : List ν) (m : Pr ν) (f : Bool), (∀ n ∈ ns, mv n = some (mvs n)) → (∀ n ∈ ns, n ∈ m.map (·.1)) → (∀ n ∈ ns, ∀ x ∈ mvs n, x.2.2 ∈ m.map (·.1)) → m.length < LIM →
    ∃ m' f', foldT (fun (s2_ : (Pr ν × Bool)) (node : ν) => gTurn mv s2_ node) ns (m, f) = some (m', f') ∧ m'.map (·.1) = m.map (·.1) ∧ val m' = pass mvs ns (val m) ∧ (f' = true → f = true ∨ pass mvs ns (val m) ≠ val m) ∧ (f' = false → f = false ∧ pass mvs ns (val m) = val m)
  | [], m, f, _, _, _, _ => ⟨m, f, rfl, rfl, rfl, .inl, fun h => ⟨h, rfl⟩⟩
  | n :: ns, m, f, h1, h2, h3, hl => by
    obtain ⟨m1, f1, e1, k1, v1, b1⟩ := turn_ok (f := f) (h1 n List.mem_cons_self) (h2 n List.mem_cons_self) (h3 n List.mem_cons_self) hl
    have hl1 : m1.length < LIM := by have := congrArg List.length k1; simpa using (by simpa using this : m1.length = m.length) ▸ hl
    obtain ⟨m2, f2, e2, k2, v2, b2, b3⟩ := turns_ok ns m1 f1 (fun x hx => h1 x (List.mem_cons_of_mem _ hx)) (fun x hx => by rw [k1]; exact h2 x (List.mem_cons_of_mem _ hx)) (fun x hx => by rw [k1]; exact h3 x (List.mem_cons_of_mem _ hx)) hl1
    refine ⟨m2, f2, by rw [foldT_cons, e1, Option.bind_some]; exact e2, by rw [k2, k1], by rw [v2, v1]; rfl, fun hf => ?_, fun hf => ?_⟩
    · have keep : cheap (val m) (mvs n) (val m n) ≠ val m n → pass mvs (n :: ns) (val m) ≠ val m := fun hne q => hne (by
        have l1 := cheap_le (val m) (mvs n) (val m n)
        refine Le.anti l1 ?_
        have l2 := pass_le mvs ns (up (val m) n (cheap (val m) (mvs n) (val m n))) n
        have e : pass mvs ns (up (val m) n (cheap (val m) (mvs n) (val m n))) n = val m n := congrFun q n
        rw [e] at l2
        have e' : up (val m) n (cheap (val m) (mvs n) (val m n)) n = cheap (val m) (mvs n) (val m n) := if_pos rfl
        rw [e'] at l2
        exact l2)
      rcases b2 hf with z | z
      · rcases b1.mp z with y | y
        · exact .inl y
        · exact .inr (keep y)
      · by_cases hc : cheap (val m) (mvs n) (val m n) = val m n
        · right
          show pass mvs ns (up (val m) n (cheap (val m) (mvs n) (val m n))) ≠ _
          rw [← v1]
          rw [show val m1 = val m by rw [v1, hc, up_same]] at z ⊢
          exact z
        · exact .inr (keep hc)
    · obtain ⟨z1, z2⟩ := b3 hf
      have hn : ¬ (f = true ∨ cheap (val m) (mvs n) (val m n) ≠ val m n) := fun q => by rw [b1.mpr q] at z1; cases z1
      have hc : cheap (val m) (mvs n) (val m n) = val m n := Classical.byContradiction fun q => hn (.inr q)
      have e : val m1 = val m := by rw [v1, hc, up_same]
      refine ⟨by cases f with | false => rfl | true => exact absurd (.inl rfl) hn, ?_⟩
      show pass mvs ns (up (val m) n (cheap (val m) (mvs n) (val m n))) = _
      rw [← v1, z2, e]
theorem settle_ok {fu : Nat} {mv : ν → Option (List (Mv ν))} {mvs : ν → List (Mv ν)} {en : ν → Bool} {ns : List ν} {m : Pr ν} (h1 : ∀ n ∈ ns, mv n = some (mvs n)) (h2 : ∀ n ∈ ns, n ∈ m.map (·.1)) (h3 : ∀ n ∈ ns, ∀ x ∈ mvs n, x.2.2 ∈ m.map (·.1)) (hl : m.length < LIM) (hs : Start mvs en ns (val m)) (hf : ns.length + 2 ≤ fu) :
    ∃ m', gSettle fu mv m ns = some m' ∧ m'.map (·.1) = m.map (·.1) ∧ (∃ k, val m' = seq mvs ns (val m) k) ∧ pass mvs ns (val m') = val m' := by
  have key : ∀ (j k : Nat) (m' : Pr ν) (fu : Nat), k + j = ns.length → m'.map (·.1) = m.map (·.1) → val m' = seq mvs ns (val m) k → j + 2 ≤ fu →
      ∃ m2, whileT (fun (s1_ : (Pr ν × Bool)) => (some s1_.2)) (fun (s1_ : (Pr ν × Bool)) =>
  let falls : Bool := false
  (foldT (fun (s2_ : (Pr ν × Bool)) (node : ν) => gTurn mv s2_ node) ns (s1_.1, falls)).bind fun (s2_ : (Pr ν × Bool)) =>
  some (s2_.1, s2_.2)) fu (m', true) = some (m2, false) ∧ m2.map (·.1) = m.map (·.1) ∧ (∃ k, val m2 = seq mvs ns (val m) k) ∧ pass mvs ns (val m2) = val m2 := by
    intro j
    induction j with
    | zero =>
      intro k m' fu hk hm hv hfu
      obtain ⟨g, rfl⟩ : ∃ g, fu = g + 2 := ⟨fu - 2, by omega⟩
      have hl' : m'.length < LIM := by have := congrArg List.length hm; simpa using (by simpa using this : m'.length = m.length) ▸ hl
      obtain ⟨m2, f2, e2, k2, v2, b2, b3⟩ := turns_ok ns m' false h1 (by rw [hm]; exact h2) (by rw [hm]; exact h3) hl'
      have hst := seq_stop mvs en hs
      have hfix : pass mvs ns (val m') = val m' := by
        rw [hv, show k = ns.length by omega]; exact hst
      cases f2 with
      | true =>
        rcases b2 rfl with z | z
        · cases z
        · exact absurd hfix z
      | false =>
        refine ⟨m2, ?_, by rw [k2, hm], ⟨k, by rw [v2, hfix, hv]⟩, by rw [v2, hfix, hfix]⟩
        rw [whileT_succ, Option.bind_some, if_pos rfl]
        dsimp only
        rw [e2, Option.bind_some, Option.bind_some, whileT_succ, Option.bind_some]
        rfl
    | succ j ih =>
      intro k m' fu hk hm hv hfu
      obtain ⟨g, rfl⟩ : ∃ g, fu = g + 2 := ⟨fu - 2, by omega⟩
      have hl' : m'.length < LIM := by have := congrArg List.length hm; simpa using (by simpa using this : m'.length = m.length) ▸ hl
      obtain ⟨m2, f2, e2, k2, v2, b2, b3⟩ := turns_ok ns m' false h1 (by rw [hm]; exact h2) (by rw [hm]; exact h3) hl'
      cases f2 with
      | true =>
        obtain ⟨m3, e3, r⟩ := ih (k + 1) m2 (g + 1) (by omega) (by rw [k2, hm]) (by rw [v2, hv]; rfl) (by omega)
        refine ⟨m3, ?_, r⟩
        rw [whileT_succ, Option.bind_some, if_pos rfl]
        dsimp only
        rw [e2, Option.bind_some, Option.bind_some]
        exact e3
      | false =>
        have hfix := (b3 rfl).2
        refine ⟨m2, ?_, by rw [k2, hm], ⟨k, by rw [v2, hfix, hv]⟩, by rw [v2, hfix, hfix]⟩
        rw [whileT_succ, Option.bind_some, if_pos rfl]
        dsimp only
        rw [e2, Option.bind_some, Option.bind_some, whileT_succ, Option.bind_some]
        rfl
  obtain ⟨m2, e, k, v, p⟩ := key ns.length 0 m fu (by omega) rfl rfl hf
  refine ⟨m2, ?_, k, v, p⟩
  unfold gSettle
  dsimp only
  rw [e, Option.bind_some]
end
end TR
end OW

namespace OW
open PySem L2 LI
namespace TR
structure Tr (ν : Type) where
  last : Nat
  nds : Nat → List ν
  mvs : ν → List (Mv ν)
  en : ν → Bool
  at_ : ν → Nat
section
variable {ν : Type} [DecidableEq ν]
def In (T : Tr ν) (n : ν) : Prop := T.at_ n ≤ T.last ∧ n ∈ T.nds (T.at_ n)
structure TrOk (T : Tr ν) : Prop where
  at_ok : ∀ a, a ≤ T.last → ∀ n ∈ T.nds a, T.at_ n = a
  nodup : ∀ a, a ≤ T.last → (T.nds a).Nodup
  to : ∀ n, In T n → ∀ x ∈ T.mvs n, In T x.2.2
  up : ∀ n, In T n → ∀ x ∈ T.mvs n, T.at_ n < T.at_ x.2.2 ∨ (T.at_ x.2.2 = T.at_ n ∧ 1 ≤ x.1)
  nn : ∀ n, In T n → ∀ x ∈ T.mvs n, 0 ≤ x.1
structure Priced (T : Tr ν) (m : Pr ν) : Prop where
  keys : ∀ n, n ∈ m.map (·.1) ↔ In T n
  nn : NN (val m)
  att : ∀ n, Att T.mvs T.en (val m) n
  fair : ∀ n, In T n → ∀ x ∈ T.mvs n, ∀ r, val m x.2.2 = some r → Le (val m n) (some (x.1 + r))
  ends : ∀ n, In T n → T.en n = true → val m n = some 0
def tot (T : Tr ν) : Nat → Nat
  | 0 => 0
  | k + 1 => tot T k + (T.nds (T.last - k)).length
theorem puts_ok {isEnd : ν → Option Bool} {en : ν → Bool} : ∀ (ns : List ν) (m : Pr ν), (∀ n ∈ ns, isEnd n = some (en n)) → ns.Nodup → (∀ n ∈ ns, n ∉ m.map (·.1)) → m.length + ns.length < LIM →
    ∃ m', foldT (fun (s7_ : (Pr ν)) (node : ν) => gPut isEnd s7_ node) ns m = some m' ∧ m'.map (·.1) = m.map (·.1) ++ ns ∧ ∀ n, val m' n = if n ∈ ns then (if en n = true then some 0 else none) else val m n
  | [], m, _, _, _, _ => ⟨m, rfl, by simp, fun n => by simp⟩
  | k :: ns, m, h1, h2, h3, hl => by
    rw [List.length_cons] at hl
    obtain ⟨a1, a2, a3⟩ := put_new (v := none) (h3 k List.mem_cons_self) (by omega)
    have hk : k ∈ (m ++ [(k, (none : Option Int))]).map (·.1) := by rw [a2]; simp
    have hl2 : (m ++ [(k, (none : Option Int))]).length < LIM := by rw [List.length_append, List.length_singleton]; omega
    have one : ∃ m1, gPut isEnd m k = some m1 ∧ m1.map (·.1) = m.map (·.1) ++ [k] ∧ val m1 = up (val m) k (if en k = true then some 0 else none) := by
      unfold gPut
      simp only [Option.bind_some]
      rw [a1, Option.bind_some, h1 k List.mem_cons_self, Option.bind_some]
      by_cases he : en k = true
      · rw [if_pos he]
        obtain ⟨m1, b1, b2, b3⟩ := put_old (v := some 0) hk hl2
        rw [b1]
        refine ⟨m1, rfl, by rw [b2, a2], ?_⟩
        rw [b3, a3, if_pos he]
        funext n
        unfold up
        split <;> rfl
      · rw [if_neg he]
        exact ⟨_, rfl, a2, by rw [a3, if_neg he]⟩
    obtain ⟨m1, b1, b2, b3⟩ := one
    rw [List.nodup_cons] at h2
    have hm1 : m1.length = m.length + 1 := by have := congrArg List.length b2; simpa using this
    obtain ⟨m2, c1, c2, c3⟩ := puts_ok ns m1 (fun n hn => h1 n (List.mem_cons_of_mem _ hn)) h2.2 (fun n hn q => by
      rw [b2] at q
      rcases List.mem_append.mp q with q | q
      · exact h3 n (List.mem_cons_of_mem _ hn) q
      · rw [List.mem_singleton] at q; subst q; exact h2.1 hn) (by omega)
    refine ⟨m2, by rw [foldT_cons, b1, Option.bind_some]; exact c1, by rw [c2, b2, List.append_assoc]; rfl, fun n => ?_⟩
    rw [c3, b3]
    by_cases hn : n ∈ ns
    · rw [if_pos hn, if_pos (List.mem_cons_of_mem _ hn)]
    · rw [if_neg hn]
      unfold up
      by_cases e : n = k
      · subst e
        rw [if_pos rfl, if_pos List.mem_cons_self]
      · rw [if_neg e, if_neg]
        intro q
        rcases List.mem_cons.mp q with q | q
        · exact e q
        · exact hn q
structure Half (T : Tr ν) (k : Nat) (m : Pr ν) : Prop where
  keys : ∀ n, n ∈ m.map (·.1) ↔ In T n ∧ T.last < T.at_ n + k
  nn : NN (val m)
  att : ∀ n, Att T.mvs T.en (val m) n
  fair : ∀ n ∈ m.map (·.1), ∀ x ∈ T.mvs n, ∀ r, val m x.2.2 = some r → Le (val m n) (some (x.1 + r))
  ends : ∀ n ∈ m.map (·.1), T.en n = true → val m n = some 0
  len : m.length = tot T k
theorem tot_mono (T : Tr ν) : ∀ k j, tot T k ≤ tot T (k + j)
  | k, 0 => Nat.le_refl _
  | k, j + 1 => Nat.le_trans (tot_mono T k j) (by show tot T (k + j) ≤ tot T (k + j) + _; omega)
theorem half_step {T : Tr ν} (hT : TrOk T) {fu : Nat} {mv : ν → Option (List (Mv ν))} {isEnd : ν → Option Bool} (hmv : ∀ n, In T n → mv n = some (T.mvs n)) (hen : ∀ n, In T n → isEnd n = some (T.en n)) {k : Nat} (hk : k ≤ T.last) (hfu : (T.nds (T.last - k)).length + 2 ≤ fu) (htot : tot T (k + 1) < LIM) {m : Pr ν} (h : Half T k m) :
    ∃ m1 m', foldT (fun (s7_ : (Pr ν)) (node : ν) => gPut isEnd s7_ node) (T.nds (T.last - k)) m = some m1 ∧ gSettle fu mv m1 (T.nds (T.last - k)) = some m' ∧ Half T (k + 1) m' := by
  have hin : ∀ n ∈ T.nds (T.last - k), In T n ∧ T.at_ n = T.last - k := fun n hn => by
    have e := hT.at_ok (T.last - k) (by omega) n hn
    exact ⟨⟨by omega, by rw [e]; exact hn⟩, e⟩
  have hout : ∀ n ∈ T.nds (T.last - k), n ∉ m.map (·.1) := fun n hn q => by
    have := ((h.keys n).mp q).2
    have := (hin n hn).2
    omega
  have htot' : tot T (k + 1) = tot T k + (T.nds (T.last - k)).length := rfl
  obtain ⟨m1, e1, k1, v1⟩ := puts_ok (T.nds (T.last - k)) m (fun n hn => hen n (hin n hn).1) (hT.nodup _ (by omega)) hout (by rw [h.len]; omega)
  have hm1 : m1.length = tot T (k + 1) := by have := congrArg List.length k1; rw [List.length_append, List.length_map, List.length_map, h.len] at this; omega
  have key1 : ∀ n, n ∈ m1.map (·.1) ↔ n ∈ m.map (·.1) ∨ n ∈ T.nds (T.last - k) := fun n => by rw [k1, List.mem_append]
  have keys' : ∀ n, n ∈ m1.map (·.1) ↔ In T n ∧ T.last < T.at_ n + (k + 1) := fun n => by
    rw [key1, h.keys]
    constructor
    · rintro (⟨a, b⟩ | a)
      · exact ⟨a, by omega⟩
      · have := hin n a; exact ⟨this.1, by omega⟩
    · rintro ⟨a, b⟩
      by_cases q : T.last < T.at_ n + k
      · exact .inl ⟨a, q⟩
      · right
        have : T.at_ n = T.last - k := by have := a.1; omega
        rw [← this]; exact a.2
  have tgt : ∀ n ∈ m1.map (·.1), ∀ x ∈ T.mvs n, x.2.2 ∈ m1.map (·.1) := fun n hn x hx => by
    obtain ⟨a, b⟩ := (keys' n).mp hn
    rw [keys']
    refine ⟨hT.to n a x hx, ?_⟩
    rcases hT.up n a x hx with z | ⟨z, _⟩ <;> omega
  have vold : ∀ n, n ∉ T.nds (T.last - k) → val m1 n = val m n := fun n hn => by rw [v1, if_neg hn]
  have hs : Start T.mvs T.en (T.nds (T.last - k)) (val m1) := by
    refine ⟨fun n d hd => ?_, fun n d hd => ?_, fun n hn he => ?_, fun n hn x hx => ?_⟩
    · rw [v1] at hd
      split at hd
      · split at hd
        · cases hd; exact Int.le_refl _
        · cases hd
      · exact h.nn n d hd
    · rw [v1] at hd
      split at hd
      · split at hd
        · rename_i he; cases hd; exact .inl ⟨he, rfl⟩
        · cases hd
      · rcases h.att n d hd with z | ⟨x, h1, r, h2, h3⟩
        · exact .inl z
        · refine .inr ⟨x, h1, r, ?_, h3⟩
          rw [vold _ fun q => ?_]
          · exact h2
          · have hx : x.2.2 ∈ m.map (·.1) := by
              apply Classical.byContradiction
              intro z
              rw [val_out z] at h2; cases h2
            exact hout _ q hx
    · rw [v1, if_pos hn, if_pos he]
    · obtain ⟨a, b⟩ := hin n hn
      refine ⟨hT.nn n a x hx, fun q => ?_⟩
      rcases hT.up n a x hx with z | ⟨_, z⟩
      · have := (hin _ q).2; omega
      · exact z
  obtain ⟨m', e2, k2, ⟨j, v2⟩, p2⟩ := settle_ok (fu := fu) (mvs := T.mvs) (en := T.en) (fun n hn => hmv n (hin n hn).1) (fun n hn => (key1 n).mpr (.inr hn)) (fun n hn x hx => tgt n ((key1 n).mpr (.inr hn)) x hx) (by omega) hs hfu
  have same : ∀ n, n ∉ T.nds (T.last - k) → val m' n = val m n := fun n hn => by rw [v2, seq_out T.mvs hn j, vold n hn]
  refine ⟨m1, m', e1, e2, ⟨fun n => by rw [k2]; exact keys' n, by rw [v2]; exact seq_nn T.mvs T.en hs j, fun n => by rw [v2]; exact seq_att T.mvs T.en hs j n, fun n hn x hx r hr => ?_, fun n hn he => ?_, ?_⟩⟩
  · rw [k2] at hn
    by_cases q : n ∈ T.nds (T.last - k)
    · have := pass_mv T.mvs (T.nds (T.last - k)) (val m') n x q hx r hr
      rw [p2] at this
      exact this
    · have hnm : n ∈ m.map (·.1) := by rcases (key1 n).mp hn with z | z; exact z; exact absurd z q
      have hb : x.2.2 ∉ T.nds (T.last - k) := fun z => by
        have h1 := (hin _ z).2
        obtain ⟨a, b⟩ := (h.keys n).mp hnm
        rcases hT.up n a x hx with y | ⟨y, _⟩ <;> omega
      rw [same _ q]
      rw [same _ hb] at hr
      exact h.fair n hnm x hx r hr
  · rw [k2] at hn
    by_cases q : n ∈ T.nds (T.last - k)
    · have h0 := hs.ends n q he
      obtain ⟨d, hd, hle⟩ := seq_mono T.mvs (T.nds (T.last - k)) (val m1) n 0 j (Nat.zero_le _) 0 h0
      have := seq_nn T.mvs T.en hs j n d hd
      rw [v2, hd, show d = 0 by omega]
    · have hnm : n ∈ m.map (·.1) := by rcases (key1 n).mp hn with z | z; exact z; exact absurd z q
      rw [same _ q]
      exact h.ends n hnm he
  · have := congrArg List.length k2
    rw [List.length_map, List.length_map] at this
    omega
theorem priced_ok {T : Tr ν} (hT : TrOk T) {fu : Nat} {mv : ν → Option (List (Mv ν))} {isEnd : ν → Option Bool} {lastAt : Option Int} {nodesAt : Int → Option (List ν)} (hmv : ∀ n, In T n → mv n = some (T.mvs n)) (hen : ∀ n, In T n → isEnd n = some (T.en n)) (hla : lastAt = some (T.last : Int)) (hna : ∀ a, a ≤ T.last → nodesAt (a : Int) = some (T.nds a))
    (hfu : ∀ a, a ≤ T.last → (T.nds a).length + 2 ≤ fu) (htot : tot T (T.last + 1) < LIM) (hlast : T.last ≤ 1000000) : ∃ m, gPriced fu mv lastAt nodesAt isEnd = some m ∧ Priced T m ∧ m.length = tot T (T.last + 1) := by
  unfold gPriced
  dsimp only
  rw [hla, Option.bind_some, Option.bind_some, rngT_ok (by omega) (by omega), Option.bind_some]
  have key : ∀ k, k ≤ T.last + 1 → ∃ m, foldT (fun (s4_ : (Pr ν)) (back : Int) =>
  ((((some (T.last : Int)).bind fun v5_ => some (v5_ - back)).bind fun v6_ => (nodesAt v6_))).bind fun (here : (List ν)) =>
  (foldT (fun (s7_ : (Pr ν)) (node : ν) => gPut isEnd s7_ node) here s4_).bind fun (s7_ : (Pr ν)) =>
  ((gSettle fu mv s7_ here)).bind fun (u16_ : (Pr ν)) =>
  some u16_) ((List.range k).map fun (k : Nat) => (k : Int)) ([] : Pr ν) = some m ∧ Half T k m := by
    intro k
    induction k with
    | zero =>
      intro _
      exact ⟨[], rfl, ⟨fun n => ⟨fun h => (by cases h), fun h => (by have := h.1.1; omega)⟩, fun n d h => (by cases h), fun n d h => (by cases h), fun n h => (by cases h), fun n h => (by cases h), rfl⟩⟩
    | succ k ih =>
      intro hk
      obtain ⟨m, e, h⟩ := ih (by omega)
      obtain ⟨m1, m', e1, e2, h'⟩ := half_step hT hmv hen (k := k) (by omega) (hfu _ (by omega)) (by
        have := tot_mono T (k + 1) (T.last - k)
        rw [show k + 1 + (T.last - k) = T.last + 1 by omega] at this
        omega) h
      refine ⟨m', ?_, h'⟩
      rw [List.range_succ, List.map_append, foldT_app, e, Option.bind_some]
      show ((((some (T.last : Int)).bind fun v5_ => some (v5_ - (k : Int))).bind fun v6_ => (nodesAt v6_)).bind _).bind _ = _
      rw [Option.bind_some, Option.bind_some, show (T.last : Int) - (k : Int) = ((T.last - k : Nat) : Int) by omega, hna _ (by omega), Option.bind_some, e1, Option.bind_some, e2, Option.bind_some, Option.bind_some]
      rfl
  obtain ⟨m, e, h⟩ := key (T.last + 1) (Nat.le_refl _)
  refine ⟨m, ?_, ⟨fun n => ?_, h.nn, h.att, fun n hn => ?_, fun n hn => ?_⟩, h.len⟩
  · rw [show ((T.last : Int) + 1).toNat = T.last + 1 by omega]
    rw [e, Option.bind_some]
  · rw [h.keys]
    exact ⟨fun q => q.1, fun q => ⟨q, by omega⟩⟩
  · exact h.fair n ((h.keys n).mpr ⟨hn, by omega⟩)
  · exact h.ends n ((h.keys n).mpr ⟨hn, by omega⟩)
inductive Path (T : Tr ν) (m : Pr ν) : ν → List Ts → Prop where
  | done (n : ν) : In T n → T.en n = true → Path T m n []
  | step (n : ν) (x : Mv ν) (names : List Ts) (r : Int) : In T n → T.en n = false → x ∈ T.mvs n → val m x.2.2 = some r → val m n = some (x.1 + r) → Path T m x.2.2 names → Path T m n (x.2.1 :: names)
theorem exact {T : Tr ν} {m : Pr ν} (h : Priced T m) {n : ν} (hn : In T n) {d : Int} (hd : val m n = some d) (he : T.en n = false) : ∃ x ∈ T.mvs n, ∃ r, val m x.2.2 = some r ∧ d = x.1 + r := by
  rcases h.att n d hd with ⟨a, _⟩ | ⟨x, h1, r, h2, h3⟩
  · rw [he] at a; cases a
  · obtain ⟨d', h4, h5⟩ := h.fair n hn x h1 r h2 _ rfl
    rw [hd] at h4; cases h4
    exact ⟨x, h1, r, h2, by omega⟩
theorem first_ok {T : Tr ν} {m : Pr ν} (hT : TrOk T) (h : Priced T m) {mv : ν → Option (List (Mv ν))} (hmv : ∀ n, In T n → mv n = some (T.mvs n)) {n : ν} (hn : In T n) {d : Int} (hd : val m n = some d) (he : T.en n = false) : ∃ x ∈ T.mvs n, ∃ r, val m x.2.2 = some r ∧ d = x.1 + r ∧ gFirst mv m n = some (some (x.2.1, x.2.2)) := by
  have key : ∀ ms : List (Mv ν), (∀ x ∈ ms, x.2.2 ∈ m.map (·.1)) → (∃ x ∈ ms, ∃ r, val m x.2.2 = some r ∧ d = x.1 + r) → ∃ x ∈ ms, ∃ r, val m x.2.2 = some r ∧ d = x.1 + r ∧ forT (τ := (Option (Ts × ν))) (fun (s3_ : Unit) (x4_ : Mv ν) =>
  ((((getT m x4_.2.2).bind fun v5_ => some (Option.isSome v5_)).bind fun v6_ => (if v6_ = true then (((((getT m x4_.2.2).bind fun x => x).bind fun v7_ => some (x4_.1 + v7_)).bind fun v8_ => some (some v8_)).bind fun v9_ => (getT m n).bind fun v10_ => some (decide (v9_ = v10_))) else some false)).bind fun v11_ => if v11_ = true then
  some (.rt (some (x4_.2.1, x4_.2.2)) : (St Unit (Option (Ts × ν))))
  else
  some (.nx () : (St Unit (Option (Ts × ν)))))) ms () = some (.inr (some (x.2.1, x.2.2))) := by
    intro ms
    induction ms with
    | nil => intro _ ⟨x, hx, _⟩; cases hx
    | cons y ms ih =>
      intro ht hx
      rw [forT_cons, getT_val (ht y List.mem_cons_self), getT_val ((h.keys n).mpr hn)]
      by_cases hy : ∃ r, val m y.2.2 = some r ∧ d = y.1 + r
      · obtain ⟨r, h1, h2⟩ := hy
        refine ⟨y, List.mem_cons_self, r, h1, h2, ?_⟩
        simp only [Option.bind_some, h1, hd, Option.isSome_some, if_true, h2, decide_true]
      · obtain ⟨x, hx1, r, hx2, hx3⟩ := hx
        have hx' : ∃ x ∈ ms, ∃ r, val m x.2.2 = some r ∧ d = x.1 + r := by
          rcases List.mem_cons.mp hx1 with q | q
          · subst q; exact absurd ⟨r, hx2, hx3⟩ hy
          · exact ⟨x, q, r, hx2, hx3⟩
        obtain ⟨z, z1, r', z2, z3, z4⟩ := ih (fun x hx => ht x (List.mem_cons_of_mem _ hx)) hx'
        refine ⟨z, List.mem_cons_of_mem _ z1, r', z2, z3, ?_⟩
        have e : ((((some (val m y.2.2)).bind fun v5_ => some (Option.isSome v5_)).bind fun v6_ => (if v6_ = true then (((((some (val m y.2.2)).bind fun x => x).bind fun v7_ => some (y.1 + v7_)).bind fun v8_ => some (some v8_)).bind fun v9_ => (some (val m n)).bind fun v10_ => some (decide (v9_ = v10_))) else some false)).bind fun v11_ => if v11_ = true then
  some (.rt (some (y.2.1, y.2.2)) : (St Unit (Option (Ts × ν))))
  else
  some (.nx () : (St Unit (Option (Ts × ν))))) = some (.nx ()) := by
          cases hv : val m y.2.2 with
          | none => rfl
          | some r0 =>
            simp only [Option.bind_some, hd, Option.isSome_some, if_true]
            rw [if_neg]
            simp only [decide_eq_true_eq, Option.some.injEq]
            intro q
            exact hy ⟨r0, hv, q.symm⟩
        rw [e]
        rw [getT_val ((h.keys n).mpr hn)] at z4
        exact z4
  obtain ⟨x, h1, r, h2, h3, h4⟩ := key (T.mvs n) (fun x hx => (h.keys _).mpr (hT.to n hn x hx)) (exact h hn hd he)
  refine ⟨x, h1, r, h2, h3, ?_⟩
  unfold gFirst
  rw [hmv n hn, Option.bind_some, Option.bind_some, h4]
  rfl
def below (T : Tr ν) (m : Pr ν) (n k : ν) : Bool := decide (T.at_ n < T.at_ k) || (decide (T.at_ k = T.at_ n) && decide ((val m k).getD 0 < (val m n).getD 0))
def rank (T : Tr ν) (m : Pr ν) (n : ν) : Nat := ((m.map (·.1)).filter (below T m n)).length
theorem rank_lt {T : Tr ν} {m : Pr ν} (hT : TrOk T) (h : Priced T m) {n : ν} (hn : In T n) {x : Mv ν} (hx : x ∈ T.mvs n) {r : Int} (hr : val m x.2.2 = some r) (hd : val m n = some (x.1 + r)) : rank T m x.2.2 < rank T m n := by
  have hb : below T m n x.2.2 = true := by
    unfold below
    rcases hT.up n hn x hx with z | ⟨z, y⟩
    · simp [z]
    · rw [hr, hd]
      simp only [Option.getD_some]
      simp [z]; omega
  refine filter_lt (fun k _ hk => ?_) ⟨x.2.2, (h.keys _).mpr (hT.to n hn x hx), hb, by simp [below]⟩
  unfold below at hk hb ⊢
  simp only [Bool.or_eq_true, Bool.and_eq_true, decide_eq_true_eq] at hk hb ⊢
  rcases hk with hk | ⟨hk1, hk2⟩ <;> rcases hb with hb | ⟨hb1, hb2⟩
  · left; omega
  · left; omega
  · left; omega
  · right; exact ⟨by omega, by omega⟩
theorem way_ok {T : Tr ν} {m : Pr ν} (hT : TrOk T) (h : Priced T m) {f2 : Nat} {mv : ν → Option (List (Mv ν))} {isEnd : ν → Option Bool} (hmv : ∀ n, In T n → mv n = some (T.mvs n)) (hen : ∀ n, In T n → isEnd n = some (T.en n)) {fst : ν} (hf : In T fst) (hlen : m.length + 2 ≤ f2) (hl : m.length < LIM) :
    (val m fst = none ∧ gWay f2 mv (some m) isEnd (some fst) = some none) ∨ ∃ d names, val m fst = some d ∧ gWay f2 mv (some m) isEnd (some fst) = some (some (some d, names)) ∧ Path T m fst names := by
  unfold gWay
  rw [Option.bind_some, Option.bind_some, getT_val ((h.keys fst).mpr hf), Option.bind_some, Option.bind_some]
  cases hv : val m fst with
  | none => exact .inl ⟨rfl, rfl⟩
  | some d =>
    right
    have key : ∀ (N : Nat) (n : ν) (acc : List Ts) (f : Nat) (d : Int), In T n → rank T m n ≤ N → val m n = some d → N + 2 ≤ f → acc.length + N < LIM → ∃ n' names, whileT (fun (s3_ : (ν × (List Ts))) => (((isEnd s3_.1).bind fun v4_ => some (!v4_)).bind fun v5_ => (if v5_ = true then some true else (((getT m s3_.1).bind fun x => x).bind fun v6_ => some (decide ((0 : Int) < v6_)))))) (fun (s3_ : (ν × (List Ts))) =>
  (((gFirst mv m s3_.1).bind fun x => x)).bind fun (u7_ : (Ts × ν)) =>
  ((appT s3_.2 u7_.1)).bind fun (u8_ : (List Ts)) =>
  some (u7_.2, u8_)) f (n, acc) = some (n', acc ++ names) ∧ Path T m n names := by
      intro N
      induction N with
      | zero =>
        intro n acc f d hn hN hd hf hacc
        obtain ⟨g, rfl⟩ : ∃ g, f = g + 1 := ⟨f - 1, by omega⟩
        cases he : T.en n with
        | true =>
          refine ⟨n, [], ?_, .done n hn he⟩
          rw [whileT_succ, hen n hn, he, getT_val ((h.keys n).mpr hn), h.ends n hn he]
          simp
        | false =>
          obtain ⟨x, h1, r, h2, h3⟩ := exact h hn hd he
          have := rank_lt hT h hn h1 h2 (by rw [hd, h3])
          omega
      | succ N ih =>
        intro n acc f d hn hN hd hf hacc
        obtain ⟨g, rfl⟩ : ∃ g, f = g + 1 := ⟨f - 1, by omega⟩
        cases he : T.en n with
        | true =>
          refine ⟨n, [], ?_, .done n hn he⟩
          rw [whileT_succ, hen n hn, he, getT_val ((h.keys n).mpr hn), h.ends n hn he]
          simp
        | false =>
          obtain ⟨x, h1, r, h2, h3, h4⟩ := first_ok hT h hmv hn hd he
          have hr := rank_lt hT h hn h1 h2 (by rw [hd, h3])
          obtain ⟨n', names, e, p⟩ := ih x.2.2 (acc ++ [x.2.1]) g r (hT.to n hn x h1) (by omega) h2 (by omega) (by rw [List.length_append, List.length_singleton]; omega)
          refine ⟨n', x.2.1 :: names, ?_, .step n x names r hn he h1 h2 (by rw [hd, h3]) p⟩
          rw [whileT_succ, hen n hn, he]
          simp only [Option.bind_some, Bool.not_false, if_true]
          rw [h4]
          simp only [Option.bind_some]
          rw [appT_ok (by omega)]
          simp only [Option.bind_some]
          rw [e, List.append_assoc]
          rfl
    have hrk : rank T m fst ≤ m.length := by
      unfold rank
      have := List.length_filter_le (below T m fst) (m.map (·.1))
      rw [List.length_map] at this
      exact this
    obtain ⟨n', names, e, p⟩ := key m.length fst [] f2 d hf hrk hv hlen (by simpa using hl)
    refine ⟨d, names, rfl, ?_, p⟩
    rw [if_neg (by simp)]
    dsimp only
    rw [e]
    simp only [Option.bind_some]
    rw [getT_val ((h.keys fst).mpr hf), hv]
    rfl
end
end TR
end OW

namespace OW
open PySem L2 LI TR
abbrev NdS := Int × (Ts × Ts)
def colsI (L : List Lt3) : List Ts := (nub (L.map (fun l => l.2.1) ++ [pln])).mergeSort leTs
def colsG (L : List Lt3) : List Ts := (nub (L.map (fun l => l.2.2) ++ [pln])).mergeSort leTs
def wr1 (s : Ts) : Ts := if s = ['['] then ['[', '['] else s
def shw (l : Lt3) (st : Ts × Ts) : Bool := decide (l.2.2 = st.2) && (decide (l.1 = [' ']) || decide (l.2.1 = st.1))
def ndsS (L : List Lt3) (a : Nat) : List NdS := (colsI L).flatMap fun i => (colsG L).map fun g => ((a : Int), (i, g))
def mvsS (L : List Lt3) (n : NdS) : List (Mv NdS) :=
  ([(2, ['[', ']'], (n.1, (pln, pln)))] : List (Mv NdS)) ++ ((colsI L).map fun i => (((3 : Int), ['['] ++ i ++ [']'], (n.1, (i, n.2.2))) : Mv NdS)) ++ ((colsG L).map fun g => (((4 : Int), ['[', '/'] ++ g ++ [']'], (n.1, (n.2.1, g))) : Mv NdS)) ++
    (match L[n.1.toNat]? with | some l => if shw l n.2 = true then ([(0, wr1 l.1, (n.1 + 1, n.2))] : List (Mv NdS)) else [] | none => [])
def T (L : List Lt3) : Tr NdS := { last := L.length, nds := ndsS L, mvs := mvsS L, en := fun n => decide (n = ((L.length : Int), (pln, pln))), at_ := fun n => n.1.toNat }
end OW

namespace OW
open PySem L2 LI TR
end OW

namespace OW
open PySem L2 LI
end OW

namespace OW
open PySem L2 LI
section
variable {κ α : Type} [DecidableEq κ]
theorem getT_upd {k : κ} {y : α} : ∀ {m : List (κ × α)} {x : α}, getT m k = some x → getT (updT m k y) k = some y
  | [], x, h => by cases h
  | p :: m, x, h => by
    unfold getT at h
    unfold updT
    by_cases e : p.1 = k
    · rw [if_pos e]; unfold getT; rw [if_pos e]
    · rw [if_neg e] at h ⊢; unfold getT; rw [if_neg e]; exact getT_upd h
theorem getT_upd_ne {k k2 : κ} {y : α} (hn : k2 ≠ k) : ∀ (m : List (κ × α)), getT (updT m k y) k2 = getT m k2
  | [] => rfl
  | p :: m => by
    unfold updT
    by_cases e : p.1 = k
    · rw [if_pos e]; unfold getT; rw [if_neg (by rw [e]; exact fun q => hn q.symm), if_neg (by rw [e]; exact fun q => hn q.symm)]
    · rw [if_neg e]; unfold getT
      by_cases e2 : p.1 = k2
      · rw [if_pos e2, if_pos e2]
      · rw [if_neg e2, if_neg e2]; exact getT_upd_ne hn m
theorem updT_len {k : κ} {y : α} : ∀ (m : List (κ × α)), (updT m k y).length = m.length
  | [] => rfl
  | p :: m => by
    unfold updT
    by_cases e : p.1 = k
    · rw [if_pos e]; rfl
    · rw [if_neg e, List.length_cons, updT_len m, List.length_cons]
theorem getT_put {k : κ} {v : α} : ∀ {m : List (κ × α)}, getT (putT m k v) k = some v := by
  intro m
  unfold putT
  split
  · rename_i h
    induction m with
    | nil => cases h
    | cons p m ih =>
      rw [List.map_cons]
      by_cases e : p.1 = k
      · rw [if_pos e]; unfold getT; rw [if_pos e]
      · rw [if_neg e]; unfold getT; rw [if_neg e]
        rw [List.any_cons, decide_eq_false e, Bool.false_or] at h
        exact ih h
  · rename_i h
    induction m with
    | nil => simp [getT]
    | cons p m ih =>
      rw [List.any_cons, Bool.or_eq_true, not_or] at h
      rw [List.cons_append]
      unfold getT
      rw [if_neg (by simpa using h.1)]
      exact ih h.2
theorem getT_put_ne {k k2 : κ} {v : α} (hn : k2 ≠ k) : ∀ {m : List (κ × α)}, getT (putT m k v) k2 = getT m k2 := by
  intro m
  unfold putT
  split
  · rename_i h
    clear h
    induction m with
    | nil => rfl
    | cons p m ih =>
      rw [List.map_cons]
      by_cases e : p.1 = k
      · rw [if_pos e]; unfold getT; rw [if_neg (by rw [e]; exact fun q => hn q.symm), if_neg (by rw [e]; exact fun q => hn q.symm)]; exact ih
      · rw [if_neg e]; unfold getT; rw [ih]
  · rename_i h
    clear h
    induction m with
    | nil => simp [getT, hn.symm]
    | cons p m ih =>
      rw [List.cons_append]
      unfold getT
      rw [ih]
end
end OW

namespace OW
open PySem L2 LI
end OW

namespace OW
open PySem L2 LI
end OW

namespace OW
open PySem L2 LI
end OW

namespace OW
open PySem L2 LI
end OW

namespace OW
open PySem L2 LI
@[reducible] def grt : Ts := ['A', 'B', 'C', 'D', 'E', 'F', 'G', 'H', 'I', 'J', 'K', 'L', 'M', 'N', 'O', 'P', 'Q', 'R', 'S', 'T', 'U', 'V', 'W', 'X', 'Y', 'Z']
def wdC (s : Ts) : Int := match s with | [c] => if c ∈ grt then 2 else 1 | _ => 1
def okL (l : Lt) : Prop := ∃ c, l.1 = [c]
def tk : Int → List Lt → Nat
  | _, [] => 0
  | w, l :: ls => if wdC l.1 ≤ w then tk (w - wdC l.1) ls + 1 else 0
end OW

namespace OW
open PySem L2 LI
def sgnL (ls : List Lt) (i : Nat) : Ts := (ls[i]?.map fun l => l.1).getD []
def brkI (ls : List Lt) (x : Int) : Bool := decide (sgnL ls (x - 1).toNat = [' ']) && !decide (sgnL ls x.toNat = [' '])
def breaksL (ls : List Lt) : List Int := (((List.range (ls.length - 1)).map fun (j : Nat) => 1 + (j : Int)).filter (brkI ls)) ++ (if 0 < ls.length then [(ls.length : Int)] else [])
def bareN (ls : List Lt) (lo : Nat) : Nat → Nat
  | 0 => 0
  | h + 1 => if lo < h + 1 ∧ sgnL ls h = [' '] then bareN ls lo h else h + 1
def sumW (ls : List Lt) : Int := (ls.map fun l => wdC l.1).sum
def cel (ls : List Lt) (lo hi : Nat) : Int := sumW ((ls.take (bareN ls lo hi)).drop lo)
def rch (ls : List Lt) (lo : Nat) (w : Int) : List Int → List Int
  | [] => []
  | s :: ss => if (lo : Int) < s then (if cel ls lo s.toNat ≤ w then s :: rch ls lo w ss else []) else rch ls lo w ss
def lines1 (ls : List Lt) (lo : Nat) (w : Int) : List Int := if rch ls lo w (breaksL ls) = [] then [((lo + tk w (ls.drop lo) : Nat) : Int)] else rch ls lo w (breaksL ls)
end OW

namespace OW
open PySem L2 LI
section
variable {κ α : Type} [DecidableEq κ]
theorem getT_new {k : κ} {v : α} : ∀ {m : List (κ × α)}, (∀ p ∈ m, p.1 ≠ k) → getT (m ++ [(k, v)]) k = some v
  | [], _ => by simp [getT]
  | p :: m, h => by
    rw [List.cons_append, getT, if_neg (h p (by simp))]
    exact getT_new fun q hq => h q (by simp [hq])
theorem getT_old {k k' : κ} {v : α} (hn : k' ≠ k) : ∀ {m : List (κ × α)}, getT (m ++ [(k', v)]) k = getT m k
  | [] => by simp [getT, hn]
  | p :: m => by
    rw [List.cons_append, getT, getT]
    by_cases h : p.1 = k
    · rw [if_pos h, if_pos h]
    · rw [if_neg h, if_neg h]; exact getT_old hn
end
def costN (ls : List Lt) (w : Int) (lo hi : Nat) : Int := if hi = ls.length then 0 else (w - cel ls lo hi) * (w - cel ls lo hi)
def mv (ls : List Lt) (w : Int) (a : Nat) : List (Int × Ts × (Int × Int)) := (lines1 ls a w).map fun s => (costN ls w a s.toNat, (toString s).toList, (s, 0))
end OW

namespace OW
open PySem L2 LI
end OW

namespace OW
open PySem L2 LI
end OW

namespace OW
open PySem L2 LI
abbrev Cl := Ts × Ts × Ts
abbrev Wt := Int × Int × List Cl
def layR (row : List Cl) (c : Nat) (cs : List Cl) : List Cl := row.take c ++ cs ++ row.drop (c + cs.length)
def lay (p : List (List Cl)) (x : Wt) : List (List Cl) := p.set x.1.toNat (layR (p.getD x.1.toNat []) x.2.1.toNat x.2.2)
end OW

namespace OW
open PySem L2 LI
abbrev Rm := Ts × Int × Int × Int × Int × Ts
def lineAt (lines : List (List Lt)) (k : Int) : List Lt := lines.getD k.toNat []
structure RmOk (h w : Nat) (rm : Rm) : Prop where
  top : 0 ≤ rm.2.1
  tall : 1 ≤ rm.2.2.2.1
  low : rm.2.1 + rm.2.2.2.1 ≤ h
  left : 0 ≤ rm.2.2.1
  broad : 2 ≤ rm.2.2.2.2.1
  right : rm.2.2.1 + rm.2.2.2.2.1 ≤ w
structure LnOk (rm : Rm) (lines : List (List Lt)) : Prop where
  ok : ∀ ls ∈ lines, ∀ l ∈ ls, okL l
  wide : ∀ ls ∈ lines, sumW ls ≤ rm.2.2.2.2.1
theorem LnOk.at {rm : Rm} {lines : List (List Lt)} {h w : Nat} (R : RmOk h w rm) (L : LnOk rm lines) (k : Int) : (∀ l ∈ lineAt lines k, okL l) ∧ sumW (lineAt lines k) ≤ rm.2.2.2.2.1.toNat := by
  have hb := R.broad
  unfold lineAt
  rw [List.getD_eq_getElem?_getD]
  cases e : lines[k.toNat]? with
  | none => exact ⟨fun l hl => by simp at hl, by show (0 : Int) ≤ _; omega⟩
  | some ls =>
    have hm := List.mem_of_getElem? e
    have := L.wide ls hm
    exact ⟨L.ok ls hm, by show sumW ls ≤ _; omega⟩
end OW

namespace OW
open PySem L2 LI
abbrev Sp := List (Int × Int)
def kPass : Ts := ['p', 'a', 's', 's']
def kBegin : Ts := ['b', 'e', 'g', 'i', 'n']
def kOn : Ts := ['o', 'n']
def likeS (one other : List Cl) (x : Int × Int) : Bool := decide (cutL one (some x.1) (some (x.1 + x.2)) = cutL other (some x.1) (some (x.1 + x.2)))
def chM (one other : List Cl) (n : Int × Int) (x : Int × Int) : List (TR.Mv (Int × Int)) := (if likeS one other x = true then [((0 : Int), kPass, (n.1 + 1, (0 : Int)))] else []) ++ [if n.2 = 0 then ((4 : Int) + x.2, kBegin, (n.1 + 1, (1 : Int))) else (x.2, kOn, (n.1 + 1, (1 : Int)))]
section
variable {one other : List Cl} {sp : Sp} {w : Int}
end
end OW

namespace OW
open PySem L2 LI
section
variable {one other : List Cl} {r c b st : Int} {W : List Wt} {w : Nat}
end
section
variable {one other : List Cl} {r c b st : Int} {W : List Wt} {w : Nat}
end
end OW

namespace OW
open PySem L2 LI
end OW

namespace OW
open PySem L2 LI
end OW

namespace OW
open PySem L2 LI
abbrev Nd := Int × Int
abbrev Sx := Int × Ts × Nd
abbrev Mx := Nd × Sx
def mvs (ms : List Mx) (n : Nd) : List Sx := (ms.filter fun m => decide (m.1 = n)).map fun m => m.2
theorem sda_eq {m : List (Nd × List Sx)} {k : Nd} {x : Sx} (hl : m.length < LIM) (hx : ∀ xs, getT m k = some xs → xs.length < LIM) : ∃ m', sdaT m k x = some m' ∧ m'.length ≤ m.length + 1 ∧ ∀ n, (getT m' n).getD [] = if n = k then (getT m k).getD [] ++ [x] else (getT m n).getD [] := by
  unfold sdaT
  rw [if_pos hl]
  cases z : getT m k with
  | some xs =>
    dsimp only
    rw [if_pos (hx xs z)]
    refine ⟨_, rfl, by rw [updT_len]; omega, fun n => ?_⟩
    by_cases q : n = k
    · rw [if_pos q, q, getT_upd z]; rfl
    · rw [if_neg q, getT_upd_ne q]
  | none =>
    dsimp only
    refine ⟨_, rfl, by rw [List.length_append, List.length_singleton]; omega, fun n => ?_⟩
    have hne : ∀ p ∈ m, p.1 ≠ k := by
      intro p hp q
      have : ∀ (m : List (Nd × List Sx)), p ∈ m → getT m p.1 ≠ none := by
        intro m
        induction m with
        | nil => intro h; cases h
        | cons y m ih =>
          intro h
          unfold getT
          by_cases c : y.1 = p.1
          · rw [if_pos c]; simp
          · rw [if_neg c]
            rcases List.mem_cons.mp h with h | h
            · exact absurd (by rw [h]) c
            · exact ih h
      exact this m hp (by rw [q]; exact z)
    by_cases q : n = k
    · rw [if_pos q, q, getT_new hne]; rfl
    · rw [if_neg q, getT_old (fun z => q z.symm)]
theorem listed_ex (sizes : List Int) (ms : List Mx) (ends : List Nd) (hl : ms.length ≤ 1000) : ∃ st, t_Listed_init sizes ms ends = some ⟨sizes, st, ends⟩ ∧ ∀ n, (getT st n).getD [] = mvs ms n := by
  unfold t_Listed_init
  dsimp only
  have main : ∀ (xs pre : List Mx) (st : List (Nd × List Sx)), pre ++ xs = ms → st.length ≤ pre.length → (∀ n, (getT st n).getD [] = mvs pre n) → ∃ st', foldT (fun (s3_ : ((List Int) × (List ((Int × Int) × (List (Int × Ts × (Int × Int))))))) (x4_ : ((Int × Int) × Int × Ts × (Int × Int))) =>
  ((sdaT s3_.2 x4_.1 (x4_.2.1, x4_.2.2.1, x4_.2.2.2))).bind fun (u5_ : (List ((Int × Int) × (List (Int × Ts × (Int × Int)))))) =>
  some (s3_.1, u5_)) xs (sizes, st) = some (sizes, st') ∧ ∀ n, (getT st' n).getD [] = mvs ms n := by
    intro xs
    induction xs with
    | nil =>
      intro pre st e _ h
      rw [List.append_nil] at e
      subst e
      exact ⟨st, rfl, h⟩
    | cons x xs ih =>
      intro pre st e hs h
      have hpl : pre.length ≤ 1000 := by rw [← e, List.length_append] at hl; omega
      have hm : ∀ n, (mvs pre n).length ≤ pre.length := fun n => by
        unfold mvs
        rw [List.length_map]
        exact List.length_filter_le _ _
      obtain ⟨st', e1, e2, e3⟩ := sda_eq (m := st) (k := x.1) (x := x.2) (by unfold LIM; omega) (fun ys hy => by
        have := h x.1
        rw [hy] at this
        have h2 := hm x.1
        rw [← this] at h2
        have h2 : ys.length ≤ pre.length := h2
        unfold LIM; omega)
      obtain ⟨st2, f1, f2⟩ := ih (pre ++ [x]) st' (by rw [List.append_assoc]; exact e) (by rw [List.length_append, List.length_singleton]; omega) (fun n => by
        rw [e3]
        unfold mvs
        rw [List.filter_append, List.map_append]
        by_cases q : n = x.1
        · subst q
          rw [if_pos rfl, h, List.filter_cons_of_pos (by simp)]
          rfl
        · rw [if_neg q, h, List.filter_cons_of_neg (by simpa using fun z => q z.symm)]
          simp [mvs])
      refine ⟨st2, ?_, f2⟩
      rw [foldT_cons]
      dsimp only
      rw [show sdaT st x.1 (x.2.1, x.2.2.1, x.2.2.2) = some st' from e1, Option.bind_some, Option.bind_some]
      exact f1
  obtain ⟨st', e, h⟩ := main ms [] [] rfl (Nat.zero_le _) (fun n => rfl)
  exact ⟨st', (congrArg (Option.bind · _) e).trans rfl, h⟩
structure Lsd (sizes : List Int) (ms : List Mx) (ends : List Nd) (T : OListed) : Prop where
  sz : T.sizes = sizes
  mv : ∀ n, t_Listed_moves_from T n = some (mvs ms n)
  en : ∀ n, t_Listed_is_end T n = some (memT n ends)
theorem lsd_ex (sizes : List Int) (ms : List Mx) (ends : List Nd) (hl : ms.length ≤ 1000) : ∃ T, t_Listed_init sizes ms ends = some T ∧ Lsd sizes ms ends T := by
  obtain ⟨st, e, h⟩ := listed_ex sizes ms ends hl
  refine ⟨_, e, rfl, fun n => ?_, fun n => rfl⟩
  unfold t_Listed_moves_from
  rw [h]
theorem mvs_len (ms : List Mx) (n : Nd) : (mvs ms n).length ≤ ms.length := by
  unfold mvs
  rw [List.length_map]
  exact List.length_filter_le _ _
def hereN (ms : List Mx) (n : Nd) (x : Ts) : List Mx := ms.filter fun m => decide (m.1 = n) && decide (m.2.2.1 = x)
def wk (ms : List Mx) (ends : List Nd) : List Ts → Nd → Int → Option Int
  | [], n, t => if memT n ends = true then some t else none
  | x :: xs, n, t => match hereN ms n x with
    | [] => none
    | m :: _ => wk ms ends xs m.2.2.2 (t + m.2.1)
theorem here_mvs (ms : List Mx) (n : Nd) (x : Ts) : ((mvs ms n).filter fun s => decide (s.2.1 = x)) = (hereN ms n x).map fun m => m.2 := by
  unfold mvs hereN
  rw [List.filter_map, List.filter_filter]
  congr 1
  refine List.filter_congr fun m _ => ?_
  rw [Bool.and_comm]; rfl
theorem walked_eq {sizes : List Int} {ms : List Mx} {ends : List Nd} {T : OListed} (L : Lsd sizes ms ends T) (hl : ms.length ≤ 1000) (names : List Ts) : t_walked T names = some (wk ms ends names (0, 0) 0) := by
  unfold t_walked
  dsimp only
  rw [show t_Listed_first_node T = some ((0 : Int), (0 : Int)) from rfl, Option.bind_some]
  have main : ∀ (xs : List Ts) (n : Nd) (t : Int), (forT (τ := (Option Int)) (fun (s1_ : (Int × (Int × Int))) (name : Ts) =>
  ((((t_Listed_moves_from T s1_.2).bind fun v2_ => some v2_).bind fun v3_ => (compT (fun (move : (Int × Ts × (Int × Int))) => (some (decide (move.2.1 = name)))) (fun (move : (Int × Ts × (Int × Int))) => (some move)) v3_))).bind fun (found : (List (Int × Ts × (Int × Int)))) =>
  if (decide (found = ([] : (List (Int × Ts × (Int × Int)))))) = true then
  some (.rt ((fun _ => none) ()) : (St (Int × (Int × Int)) (Option Int)))
  else
  ((((atI found (0 : Int)).bind fun v4_ => some v4_.1).bind fun v5_ => some (s1_.1 + v5_))).bind fun (total : Int) =>
  (((atI found (0 : Int)).bind fun v6_ => some v6_.2.2)).bind fun (node : (Int × Int)) =>
  some (.nx (total, node) : (St (Int × (Int × Int)) (Option Int)))) xs (t, n)).bind (fun u => seqT u fun (s1_ : (Int × (Int × Int))) => (((t_Listed_is_end T s1_.2).bind fun v7_ => some (!v7_)).bind fun v8_ => if v8_ = true then
  some ((fun _ => none) ())
  else
  some (some s1_.1))) = some (wk ms ends xs n t) := by
    intro xs
    induction xs with
    | nil =>
      intro n t
      rw [forT_nil, Option.bind_some, seqT_inl]
      dsimp only
      rw [L.en, Option.bind_some, Option.bind_some]
      unfold wk
      cases memT n ends <;> rfl
    | cons x xs ih =>
      intro n t
      rw [forT_cons]
      dsimp only
      have hml := mvs_len ms n
      rw [L.mv, Option.bind_some, Option.bind_some, compT_fil (q := fun s : Sx => decide (s.2.1 = x)) (f := fun s => s) (by unfold LIM; omega) (fun _ _ => rfl) (fun _ _ _ => rfl), List.map_id', here_mvs, Option.bind_some]
      unfold wk
      cases z   : hereN ms n x with
      | nil => rfl
      | cons m rest =>
        rw [List.map_cons, if_neg (by simp)]
        have e0 : atI (m.2 :: rest.map fun m => m.2) (0 : Int) = some m.2 := LI.atI_nat (k := 0) (by simp)
        rw [e0]
        simp only [Option.bind_some]
        exact ih m.2.2.2 (t + m.2.1)
  exact main names (0, 0) 0
theorem lw_walked_eq (ms : List Mx) (ends : List Nd) (hl : ms.length ≤ 1000) (names : List Ts) : t_lw_walked ms ends names = some (wk ms ends names (0, 0) 0) := by
  unfold t_lw_walked
  dsimp only
  have main : ∀ (xs : List Ts) (n : Nd) (t : Int), (forT (τ := (Option Int)) (fun (s1_ : ((Int × Int) × Int)) (name : Ts) =>
  ((compT (fun (move : ((Int × Int) × Int × Ts × (Int × Int))) => (some ((decide (move.1 = s1_.1)) && (decide (move.2.2.1 = name))))) (fun (move : ((Int × Int) × Int × Ts × (Int × Int))) => (some move)) ms)).bind fun (here : (List ((Int × Int) × Int × Ts × (Int × Int)))) =>
  if (decide (here = ([] : (List ((Int × Int) × Int × Ts × (Int × Int)))))) = true then
  some (.rt ((fun _ => none) ()) : (St ((Int × Int) × Int) (Option Int)))
  else
  ((((atI here (0 : Int)).bind fun v2_ => some v2_.2.1).bind fun v3_ => some (s1_.2 + v3_))).bind fun (total : Int) =>
  (((atI here (0 : Int)).bind fun v4_ => some v4_.2.2.2)).bind fun (node : (Int × Int)) =>
  some (.nx (node, total) : (St ((Int × Int) × Int) (Option Int)))) xs (n, t)).bind (fun u => seqT u fun (s1_ : ((Int × Int) × Int)) => if (!memT s1_.1 ends) = true then
  some ((fun _ => none) ())
  else
  some (some s1_.2)) = some (wk ms ends xs n t) := by
    intro xs
    induction xs with
    | nil =>
      intro n t
      rw [forT_nil, Option.bind_some, seqT_inl]
      dsimp only
      unfold wk
      cases memT n ends <;> rfl
    | cons x xs ih =>
      intro n t
      rw [forT_cons]
      dsimp only
      rw [compT_fil (q := fun m : Mx => decide (m.1 = n) && decide (m.2.2.1 = x)) (f := fun s => s) (by unfold LIM; omega) (fun _ _ => rfl) (fun _ _ _ => rfl), List.map_id', Option.bind_some]
      unfold wk
      rw [show (ms.filter fun m : Mx => decide (m.1 = n) && decide (m.2.2.1 = x)) = hereN ms n x from rfl]
      cases z   : hereN ms n x with
      | nil => rfl
      | cons m rest =>
        rw [if_neg (by simp)]
        have e0 : atI (m :: rest) (0 : Int) = some m := LI.atI_nat (k := 0) (by simp)
        rw [e0]
        simp only [Option.bind_some]
        exact ih m.2.2.2 (t + m.2.1)
  exact main names (0, 0) 0
theorem mixb_ex' (c : Int) (k : Int) (h0 : 0 ≤ k) (hk : k ≤ 1000000) : ∃ v, t_lw_mix_b c k = some v ∧ 0 ≤ v ∧ v < 1000000000 := mix_ex c k h0 hk
theorem sizes_ex (c : Int) : ∃ ss, t_lw_sizes c = some ss ∧ 1 ≤ ss.length ∧ ss.length ≤ 5 ∧ ∀ s ∈ ss, 1 ≤ s ∧ s ≤ 3 := by
  unfold t_lw_sizes
  obtain ⟨v, e, _, _⟩ := mixb_ex' c 8 (by omega) (by omega)
  have h5 := mod_in v 5 (by omega)
  rw [e, Option.bind_some, Option.bind_some, Option.bind_some, rngT_ok (by omega) (by omega), Option.bind_some]
  obtain ⟨ss, e1, e2, e3⟩ := compT_ex (g := fun (k : Int) => (((t_lw_mix_b c k).bind fun v5_ => some (v5_ % 3)).bind fun v6_ => some ((1 : Int) + v6_))) (P := fun _ s => 1 ≤ s ∧ s ≤ 3) (xs := (List.range (1 + v % 5).toNat).map fun (k : Nat) => (k : Int)) (by rw [List.length_map, List.length_range]; unfold LIM; omega) (fun k hk => by
    obtain ⟨j, hj, rfl⟩ := List.mem_map.mp hk
    rw [List.mem_range] at hj
    obtain ⟨v, e, _, _⟩ := mixb_ex' c (j : Int) (by omega) (by omega)
    have h3 := mod_in v 3 (by omega)
    exact ⟨_, by rw [e]; rfl, by omega, by omega⟩)
  rw [List.length_map, List.length_range] at e2
  refine ⟨ss, e1, by omega, by omega, fun s hs => ?_⟩
  obtain ⟨_, _, h⟩ := e3 s hs
  exact h
def nodesL (ss : List Int) : List Nd := (List.range ss.length).flatMap fun a => ((List.range (ss.getD a 0).toNat).map fun (k : Nat) => ((a : Int), (k : Int)))
theorem nodes_len {ss : List Int} (h : ss.length ≤ 5) (h3 : ∀ s ∈ ss, 1 ≤ s ∧ s ≤ 3) : (nodesL ss).length ≤ 15 := by
  have : ∀ (xs : List Nat), (∀ a ∈ xs, a < ss.length) → (xs.flatMap fun a => ((List.range (ss.getD a 0).toNat).map fun (k : Nat) => ((a : Int), (k : Int)))).length ≤ 3 * xs.length := by
    intro xs
    induction xs with
    | nil => intro _; exact Nat.le_refl _
    | cons x xs ih =>
      intro hx
      have := ih fun a ha => hx a (List.mem_cons_of_mem _ ha)
      have hxl := hx x List.mem_cons_self
      have hs : ss.getD x 0 = ss[x] := by rw [List.getD_eq_getElem?_getD, List.getElem?_eq_getElem hxl]; rfl
      have := h3 _ (List.getElem_mem hxl)
      rw [List.flatMap_cons, List.length_append, List.length_map, List.length_range, List.length_cons, hs]
      omega
  have := this (List.range ss.length) fun a ha => List.mem_range.mp ha
  rw [List.length_range] at this
  unfold nodesL
  omega
theorem nodes_ne {ss : List Int} (h : 1 ≤ ss.length) (h3 : ∀ s ∈ ss, 1 ≤ s ∧ s ≤ 3) : nodesL ss ≠ [] := by
  have hs : ss.getD 0 0 = ss[0] := by rw [List.getD_eq_getElem?_getD, List.getElem?_eq_getElem h]; rfl
  have := h3 _ (List.getElem_mem h)
  have hm : ((0 : Int), (0 : Int)) ∈ nodesL ss := by
    unfold nodesL
    refine List.mem_flatMap.mpr ⟨0, List.mem_range.mpr (by omega), List.mem_map.mpr ⟨0, List.mem_range.mpr (by rw [hs]; omega), rfl⟩⟩
  exact List.ne_nil_of_mem hm
theorem at_of {ss : List Int} {a : Nat} (h : a < ss.length) : atI ss (a : Int) = some (ss.getD a 0) := by
  rw [LI.atI_nat h, List.getD_eq_getElem?_getD, List.getElem?_eq_getElem h]; rfl
theorem nodes_eqL {ss : List Int} (h : ss.length ≤ 5) (h3 : ∀ s ∈ ss, 1 ≤ s ∧ s ≤ 3) : t_lw_nodes ss = some (nodesL ss) := by
  unfold t_lw_nodes
  dsimp only
  rw [rngT_ok (by omega) (by omega), Option.bind_some, Int.toNat_natCast]
  have hlen := nodes_len h h3
  have main : ∀ b, b ≤ ss.length → foldT (fun (s2_ : (List (Int × Int))) (at_ : Int) =>
  (((atI ss at_).bind fun v3_ => (rngT v3_)).bind fun v4_ => (foldT (fun (s5_ : (List (Int × Int))) (state : Int) =>
  ((appT s5_ (at_, state))).bind fun (u6_ : (List (Int × Int))) =>
  some u6_) v4_ s2_).bind fun (s5_ : (List (Int × Int))) =>
  some s5_)) ((List.range b).map fun (k : Nat) => (k : Int)) [] = some ((List.range b).flatMap fun a => ((List.range (ss.getD a 0).toNat).map fun (k : Nat) => ((a : Int), (k : Int)))) ∧ ((List.range b).flatMap fun a => ((List.range (ss.getD a 0).toNat).map fun (k : Nat) => ((a : Int), (k : Int)))).length ≤ 3 * b := by
    intro b
    induction b with
    | zero => intro _; exact ⟨rfl, Nat.le_refl _⟩
    | succ b ih =>
      intro hb
      obtain ⟨e1, e2⟩ := ih (by omega)
      have hs : ss.getD b 0 = ss[b] := by rw [List.getD_eq_getElem?_getD, List.getElem?_eq_getElem (by omega)]; rfl
      have hb3 := h3 _ (List.getElem_mem (show b < ss.length by omega))
      rw [← hs] at hb3
      refine ⟨?_, ?_⟩
      · rw [List.range_succ, List.map_append, foldT_app, e1, Option.bind_some, List.map_cons, List.map_nil, foldT_cons]
        rw [at_of (by omega), Option.bind_some, rngT_ok (by omega) (by omega), Option.bind_some]
        have key : ∀ (xs : List Nat) (acc : List Nd), acc.length + xs.length ≤ 100 → foldT (fun (s5_ : (List (Int × Int))) (state : Int) =>
          ((appT s5_ ((b : Int), state))).bind fun (u6_ : (List (Int × Int))) =>
          some u6_) (xs.map fun (k : Nat) => (k : Int)) acc = some (acc ++ xs.map fun (k : Nat) => ((b : Int), (k : Int))) := by
          intro xs
          induction xs with
          | nil => intro acc _; simp
          | cons x xs ih =>
            intro acc ha
            rw [List.length_cons] at ha
            rw [List.map_cons, foldT_cons, appT_ok (by unfold LIM; omega), Option.bind_some, Option.bind_some, ih _ (by rw [List.length_append, List.length_singleton]; omega), List.append_assoc]
            rfl
        rw [key _ _ (by rw [List.length_range]; omega), Option.bind_some, Option.bind_some, foldT_nil, List.flatMap_append, List.flatMap_cons, List.flatMap_nil, List.append_nil]
      · rw [List.range_succ, List.flatMap_append, List.flatMap_cons, List.flatMap_nil, List.append_nil, List.length_append, List.length_map, List.length_range]
        omega
  exact (congrArg (Option.bind · _) (main ss.length (Nat.le_refl _)).1).trans rfl
def NmOk (ms : List Mx) : Prop := ∀ (k : Nd) (j : Nat) (m : Sx), (mvs ms k)[j]? = some m → m.2.1.length = j
theorem mvs_snoc (ms : List Mx) (x : Mx) (k : Nd) : mvs (ms ++ [x]) k = mvs ms k ++ (if x.1 = k then [x.2] else []) := by
  unfold mvs
  rw [List.filter_append, List.map_append]
  by_cases z : x.1 = k
  · rw [if_pos z, List.filter_cons_of_pos (by simp [z])]; rfl
  · rw [if_neg z, List.filter_cons_of_neg (by simp [z])]; rfl
theorem nm_snoc {ms : List Mx} {x : Mx} (h : NmOk ms) (hx : x.2.2.1.length = (mvs ms x.1).length) : NmOk (ms ++ [x]) := by
  intro k j m hj
  rw [mvs_snoc] at hj
  by_cases q : j < (mvs ms k).length
  · rw [List.getElem?_append_left q] at hj
    exact h k j m hj
  · rw [List.getElem?_append_right (by omega)] at hj
    by_cases z : x.1 = k
    · rw [if_pos z] at hj
      obtain ⟨hlt, _⟩ := List.getElem?_eq_some_iff.mp hj
      rw [List.length_singleton] at hlt
      have e : j - (mvs ms k).length = 0 := by omega
      rw [e] at hj
      cases hj
      rw [hx, z]; omega
    · rw [if_neg z] at hj; cases hj
theorem moves_ex (ns : List Int) (hn : ns.length ≤ 63) {nodes : List Nd} (hne : nodes ≠ []) (hl : nodes.length ≤ 15) : ∃ ms, t_lw_moves ns nodes = some ms ∧ ms.length ≤ 40 ∧ (∀ m ∈ ms, m.1 ∈ nodes ∧ m.2.2.2 ∈ nodes ∧ m.1.1 ≤ m.2.2.2.1 ∧ 0 ≤ m.2.1 ∧ (m.2.2.2.1 = m.1.1 → 1 ≤ m.2.1)) ∧ NmOk ms := by
  unfold t_lw_moves
  dsimp only
  have hpos : 0 < nodes.length := List.length_pos_iff.mpr hne
  have hcut : (cutL ns (some (3 : Int)) (some (43 : Int))).length ≤ 40 := by
    rw [show (3 : Int) = ((3 : Nat) : Int) from rfl, show (43 : Int) = ((43 : Nat) : Int) from rfl, cut_nat, List.length_drop, List.length_take]
    omega
  obtain ⟨s, e, h⟩ := foldT_cnt (g := fun (s1_ : ((List ((Int × Int) × Int × Ts × (Int × Int))) × (List ((Int × Int) × Int)))) (cell : Int) =>
  ((((t_lw_mix_b cell (1 : Int)).bind fun v2_ => (modT v2_ (List.length nodes : Int))).bind fun v3_ => (atI nodes v3_))).bind fun (one : (Int × Int)) =>
  ((compT (fun (node : (Int × Int)) => (some (decide (one.1 ≤ node.1)))) (fun (node : (Int × Int)) => (some node)) nodes)).bind fun (beyond : (List (Int × Int))) =>
  ((((t_lw_mix_b cell (6 : Int)).bind fun v4_ => (modT v4_ (List.length beyond : Int))).bind fun v5_ => (atI beyond v5_))).bind fun (other : (Int × Int)) =>
  (((t_lw_mix_b cell (9 : Int)).bind fun v6_ => (((t_lw_mix_b cell (7 : Int)).bind fun v7_ => some (v7_ % 3)).bind fun v8_ => (atI ([(3 : Int), (40 : Int), (1000000000 : Int)] : (List Int)) v8_)).bind fun v9_ => (modT v6_ v9_))).bind fun (cost : Int) =>
  ((if ((decide (other.1 = one.1)) && (decide (cost = (0 : Int)))) = true then
  let cost_2 : Int := (1 : Int)
  some cost_2
  else
  some cost : Option Int)).bind fun (s10_ : Int) =>
  (((((t_lw_mix_b cell (10 : Int)).bind fun v11_ => some (v11_ % 4)).bind fun v12_ => (atI ([(1 : Int), (1 : Int), (1 : Int), (10000000000000000000000000000000000000000 : Int)] : (List Int)) v12_)).bind fun v13_ => (mulT s10_ v13_))).bind fun (cost : Int) =>
  (((((ixS (['a', 'b'] : Ts) (cell % 2)).bind fun v14_ => (repS v14_ (Option.getD (getT s1_.2 one) (0 : Int)))).bind fun v15_ => some (one, cost, v15_, other)).bind fun v16_ => (appT s1_.1 v16_))).bind fun (u17_ : (List ((Int × Int) × Int × Ts × (Int × Int)))) =>
  (some ((Option.getD (getT s1_.2 one) (0 : Int)) + (1 : Int))).bind fun u18_ => ((some one)).bind fun i19_ => (putC s1_.2 i19_ u18_).bind fun y20_ =>
  some (u17_, y20_)) (fun n s => s.1.length + n ≤ 40 ∧ s.2.length + n ≤ 40 ∧ (∀ k, 0 ≤ (getT s.2 k).getD 0 ∧ (getT s.2 k).getD 0 + n ≤ 40) ∧ (∀ m ∈ s.1, m.1 ∈ nodes ∧ m.2.2.2 ∈ nodes ∧ m.1.1 ≤ m.2.2.2.1 ∧ 0 ≤ m.2.1 ∧ (m.2.2.2.1 = m.1.1 → 1 ≤ m.2.1)) ∧ (∀ k, (getT s.2 k).getD 0 = ((mvs s.1 k).length : Int)) ∧ NmOk s.1) (cutL ns (some (3 : Int)) (some (43 : Int))) ([], []) ⟨by simpa using hcut, by simpa using hcut, fun k => ⟨Int.le_refl _, by show (0 : Int) + _ ≤ 40; omega⟩, by simp, fun k => rfl, fun k j m h => (by simp [mvs] at h)⟩ (by
    rintro n s c ⟨h1, h2, h3, h4, h5, h6⟩ hc
    dsimp only
    obtain ⟨v1, e1, _, _⟩ := mixb_ex' c 1 (by omega) (by omega)
    obtain ⟨v6, e6, _, _⟩ := mixb_ex' c 6 (by omega) (by omega)
    obtain ⟨v9, e9, _, _⟩ := mixb_ex' c 9 (by omega) (by omega)
    obtain ⟨v7, e7, _, _⟩ := mixb_ex' c 7 (by omega) (by omega)
    obtain ⟨v10, e10, _, _⟩ := mixb_ex' c 10 (by omega) (by omega)
    have m1 := mod_in v1 (nodes.length : Int) (by omega)
    obtain ⟨one, eo, ho⟩ := atI_all (P := fun x => x ∈ nodes) m1.1 m1.2 (fun x hx => hx)
    rw [e1, Option.bind_some, modT_ok (by omega), Option.bind_some, eo, Option.bind_some]
    rw [compT_fil (q := fun x : Nd => decide (one.1 ≤ x.1)) (f := fun x => x) (by unfold LIM; omega) (fun _ _ => rfl) (fun _ _ _ => rfl), List.map_id', Option.bind_some]
    have hb : one ∈ nodes.filter fun x : Nd => decide (one.1 ≤ x.1) := List.mem_filter.mpr ⟨ho, by simp⟩
    have hbp := List.length_pos_of_mem hb
    have m6 := mod_in v6 ((nodes.filter fun x : Nd => decide (one.1 ≤ x.1)).length : Int) (by omega)
    obtain ⟨other, et, ht⟩ := atI_all (P := fun x => x ∈ nodes ∧ one.1 ≤ x.1) m6.1 m6.2 (fun x hx => by
      obtain ⟨a, b⟩ := List.mem_filter.mp hx
      exact ⟨a, by simpa using b⟩)
    rw [e6, Option.bind_some, modT_ok (by omega), Option.bind_some, et, Option.bind_some, e9, Option.bind_some, e7, Option.bind_some, Option.bind_some]
    have m7 := mod_in v7 3 (by omega)
    obtain ⟨q, eq, hq⟩ := atI_all (xs := [(3 : Int), 40, 1000000000]) (P := fun x => 3 ≤ x ∧ x ≤ 1000000000) m7.1 m7.2 (by simp)
    rw [eq, Option.bind_some, modT_ok (by omega), Option.bind_some]
    have m9 := mod_in v9 q (by omega)
    obtain ⟨cost, ec, hc0, hc1, hc2⟩ : ∃ cost : Int, (if (decide (other.1 = one.1) && decide (v9 % q = 0)) = true then let cost_2 : Int := (1 : Int); some cost_2 else some (v9 % q)) = some cost ∧ 0 ≤ cost ∧ cost ≤ 1000000000 ∧ (other.1 = one.1 → 1 ≤ cost) := by
      by_cases z : (decide (other.1 = one.1) && decide (v9 % q = 0)) = true
      · rw [if_pos z]; exact ⟨1, rfl, by omega, by omega, fun _ => by omega⟩
      · rw [if_neg z]
        refine ⟨_, rfl, m9.1, by omega, fun w => ?_⟩
        have : ¬ v9 % q = 0 := fun w2 => z (by rw [decide_eq_true w, decide_eq_true w2]; rfl)
        omega
    rw [ec, Option.bind_some, e10, Option.bind_some, Option.bind_some]
    have m10 := mod_in v10 4 (by omega)
    obtain ⟨f, ef, hf⟩ := atI_all (xs := [(1 : Int), 1, 1, 10000000000000000000000000000000000000000]) (P := fun x => 1 ≤ x) m10.1 m10.2 (by simp)
    rw [ef, Option.bind_some, mulT_ok (by omega) (by omega), Option.bind_some]
    have m2 := mod_in c 2 (by omega)
    obtain ⟨d, hd, ed⟩ := ixS_mem (s := ['a', 'b']) (by simp [LIM]) m2.1 (by simpa using m2.2)
    have h3' := h3 one
    rw [ed, Option.bind_some]
    have er : repS [d] ((getT s.2 one).getD 0) = some (List.replicate ((getT s.2 one).getD 0).toNat [d]).flatten := by
      unfold repS
      rw [if_pos ⟨by omega, by omega, by simp [LIM]; omega⟩]
    rw [er, Option.bind_some, Option.bind_some, appT_ok (by unfold LIM; omega), Option.bind_some, Option.bind_some, Option.bind_some]
    have ep : putC s.2 one ((getT s.2 one).getD 0 + 1) = some (putT s.2 one ((getT s.2 one).getD 0 + 1)) := if_pos (by unfold LIM; omega)
    rw [ep, Option.bind_some]
    refine ⟨_, rfl, by rw [List.length_append, List.length_singleton]; omega, ?_, fun k => ?_, fun m hm => ?_, fun k => ?_, ?_⟩
    · dsimp only
      unfold putT
      split
      · rw [List.length_map]; omega
      · rw [List.length_append, List.length_singleton]; omega
    · dsimp only
      by_cases z : k = one
      · rw [z, getT_put]
        show 0 ≤ (getT s.2 one).getD 0 + 1 ∧ (getT s.2 one).getD 0 + 1 + (n : Int) ≤ 40
        omega
      · rw [getT_put_ne z]
        have := h3 k
        omega
    · rcases List.mem_append.mp hm with hm | hm
      · exact h4 m hm
      · rw [List.mem_singleton] at hm
        subst hm
        refine ⟨ho, ht.1, ht.2, Int.mul_nonneg hc0 (by omega), fun w => ?_⟩
        have := hc2 w
        exact Int.le_trans (by omega) (Int.mul_le_mul (a := 1) (b := 1) this hf (by omega) hc0)
    · dsimp only
      rw [mvs_snoc]
      by_cases z : k = one
      · rw [z, getT_put, if_pos rfl, List.length_append, List.length_singleton]
        have h5o := h5 one
        show (getT s.2 one).getD 0 + 1 = _
        omega
      · rw [getT_put_ne z, if_neg (fun w => z w.symm), List.append_nil, h5]
    · exact nm_snoc h6 (by
        show (List.replicate ((getT s.2 one).getD 0).toNat [d]).flatten.length = _
        rw [h5]; simp))
  refine ⟨s.1, (congrArg (Option.bind · _) e).trans rfl, by have := h.1; omega, h.2.2.2.1, h.2.2.2.2.2⟩
theorem ends_ex (c : Int) {nodes : List Nd} (hne : nodes ≠ []) (hl : nodes.length ≤ 15) : ∃ es, t_lw_ends c nodes = some es ∧ es.length ≤ 20 ∧ ∀ n ∈ es, n ∈ nodes := by
  unfold t_lw_ends
  dsimp only
  have hpos : 0 < nodes.length := List.length_pos_iff.mpr hne
  rw [rngT_ok (by omega) (by omega), Option.bind_some, Int.toNat_natCast]
  obtain ⟨es, e, h1, h2⟩ := foldT_cnt (g := fun (s2_ : (List (Int × Int))) (k : Int) =>
  ((((t_lw_mix_b c ((11 : Int) + k)).bind fun v3_ => some (v3_ % 3)).bind fun v4_ => some (decide (v4_ = (0 : Int)))).bind fun v5_ => ((if v5_ = true then
  (((atI nodes k).bind fun v6_ => (appT s2_ v6_))).bind fun (u7_ : (List (Int × Int))) =>
  some u7_
  else
  some s2_ : Option (List (Int × Int)))).bind fun (s8_ : (List (Int × Int))) =>
  some s8_)) (fun n es => es.length + n ≤ 15 ∧ ∀ x ∈ es, x ∈ nodes) ((List.range nodes.length).map fun (k : Nat) => (k : Int)) [] ⟨by simpa using hl, by simp⟩ (by
    rintro n es k ⟨h1, h2⟩ hk
    obtain ⟨j, hj, rfl⟩ := List.mem_map.mp hk
    rw [List.mem_range] at hj
    obtain ⟨v, ev, _, _⟩ := mixb_ex' c (11 + (j : Int)) (by omega) (by omega)
    rw [ev, Option.bind_some, Option.bind_some, Option.bind_some]
    split
    · rw [LI.atI_nat hj, Option.bind_some, appT_ok (by unfold LIM; omega)]
      refine ⟨_, rfl, by rw [List.length_append, List.length_singleton]; omega, fun x hx => ?_⟩
      rcases List.mem_append.mp hx with hx | hx
      · exact h2 x hx
      · rw [List.mem_singleton] at hx; rw [hx]; exact List.getElem_mem hj
    · exact ⟨_, rfl, by omega, h2⟩)
  rw [e, Option.bind_some]
  obtain ⟨x, hx⟩ : ∃ x, nodes.getLast? = some x := by
    cases z : nodes.getLast? with
    | none => exact absurd (List.getLast?_eq_none_iff.mp z) hne
    | some x => exact ⟨x, rfl⟩
  have hlast : atI nodes (-1 : Int) = some x := by
    unfold atI ixN
    rw [if_neg (by omega), if_pos (by omega), Option.bind_some]
    rw [List.getLast?_eq_getElem?] at hx
    rw [show ((-1 : Int) + (nodes.length : Int)).toNat = nodes.length - 1 by omega]
    exact hx
  have hxm : x ∈ nodes := List.mem_of_getLast? hx
  rw [hlast]
  simp only [Option.bind_some]
  have key : ∃ b : Bool, (if decide ((0 : Int) < (c % 4)) = true then some (!memT x es) else some false) = some b := by
    split <;> exact ⟨_, rfl⟩
  obtain ⟨b, eb⟩ := key
  rw [eb, Option.bind_some]
  cases b with
  | true =>
    rw [if_pos rfl, appT_ok (by unfold LIM; omega)]
    refine ⟨_, rfl, by rw [List.length_append, List.length_singleton]; omega, fun y hy => ?_⟩
    rcases List.mem_append.mp hy with hy | hy
    · exact h2 y hy
    · rw [List.mem_singleton] at hy; rw [hy]; exact hxm
  | false =>
    rw [if_neg (by decide)]
    exact ⟨_, rfl, by omega, h2⟩
def TL (ss : List Int) (ms : List Mx) (es : List Nd) : TR.Tr Nd where
  last := ss.length - 1
  nds a := (List.range (ss.getD a 0).toNat).map fun (k : Nat) => ((a : Int), (k : Int))
  mvs := mvs ms
  en n := memT n es
  at_ n := n.1.toNat
structure DrawOk (ss : List Int) (ms : List Mx) (es : List Nd) : Prop where
  s1 : 1 ≤ ss.length
  s5 : ss.length ≤ 5
  s3 : ∀ s ∈ ss, 1 ≤ s ∧ s ≤ 3
  ml : ms.length ≤ 40
  mq : ∀ m ∈ ms, m.1 ∈ nodesL ss ∧ m.2.2.2 ∈ nodesL ss ∧ m.1.1 ≤ m.2.2.2.1 ∧ 0 ≤ m.2.1 ∧ (m.2.2.2.1 = m.1.1 → 1 ≤ m.2.1)
  nm : NmOk ms
  ek : ∀ n ∈ es, n ∈ nodesL ss
theorem mvs_mem {ms : List Mx} {n : Nd} {x : Sx} (h : x ∈ mvs ms n) : (n, x) ∈ ms := by
  unfold mvs at h
  obtain ⟨m, hm, rfl⟩ := List.mem_map.mp h
  obtain ⟨a, b⟩ := List.mem_filter.mp hm
  have : m.1 = n := by simpa using b
  rw [← this]; exact a
theorem mem_mvs {ms : List Mx} {m : Mx} (h : m ∈ ms) : m.2 ∈ mvs ms m.1 :=
  List.mem_map.mpr ⟨m, List.mem_filter.mpr ⟨h, by simp⟩, rfl⟩
section
variable {ss : List Int} {ms : List Mx} {es : List Nd}
theorem in_TL (h1 : 1 ≤ ss.length) (n : Nd) : TR.In (TL ss ms es) n ↔ n ∈ nodesL ss := by
  constructor
  · rintro ⟨a, b⟩
    exact List.mem_flatMap.mpr ⟨n.1.toNat, List.mem_range.mpr (by have : n.1.toNat ≤ ss.length - 1 := a; omega), b⟩
  · intro h
    obtain ⟨a, ha, hn⟩ := List.mem_flatMap.mp h
    have ha := List.mem_range.mp ha
    obtain ⟨k, hk, rfl⟩ := List.mem_map.mp hn
    refine ⟨?_, ?_⟩
    · show (a : Int).toNat ≤ ss.length - 1
      omega
    · show ((a : Int), (k : Int)) ∈ (List.range (ss.getD (a : Int).toNat 0).toNat).map fun (k : Nat) => ((((a : Int).toNat : Nat) : Int), (k : Int))
      rw [Int.toNat_natCast]; exact hn
theorem nds_nodup (a m : Nat) : ((List.range m).map fun (k : Nat) => ((a : Int), (k : Int))).Nodup :=
  List.pairwise_map.mpr (List.nodup_range.imp fun {x y} h e => h (by have := congrArg Prod.snd e; dsimp only at this; omega))
theorem nodes_nodup (ss : List Int) : (nodesL ss).Nodup := by
  unfold nodesL
  refine List.pairwise_flatMap.mpr ⟨fun a _ => nds_nodup a _, List.nodup_range.imp fun {x y} h => ?_⟩
  intro p hp q hq e
  obtain ⟨i, _, rfl⟩ := List.mem_map.mp hp
  obtain ⟨j, _, rfl⟩ := List.mem_map.mp hq
  exact h (by have := congrArg Prod.fst e; dsimp only at this; omega)
theorem trOkL (D : DrawOk ss ms es) : TR.TrOk (TL ss ms es) where
  at_ok := fun a _ n hn => by
    obtain ⟨k, _, rfl⟩ := List.mem_map.mp hn
    exact Int.toNat_natCast a
  nodup := fun a _ => nds_nodup a _
  to := fun n _ x hx => (in_TL D.s1 _).mpr (D.mq _ (mvs_mem hx)).2.1
  up := fun n hn x hx => by
    obtain ⟨h1, h2, h3, h4, h5⟩ := D.mq _ (mvs_mem hx)
    dsimp only at h1 h2 h3 h4 h5
    have p1 : 0 ≤ n.1 := by
      obtain ⟨a, _, q⟩ := List.mem_flatMap.mp h1
      obtain ⟨k, _, rfl⟩ := List.mem_map.mp q
      show (0 : Int) ≤ (a : Int); omega
    show n.1.toNat < x.2.2.1.toNat ∨ (x.2.2.1.toNat = n.1.toNat ∧ 1 ≤ x.1)
    by_cases z : x.2.2.1 = n.1
    · exact .inr ⟨by rw [z], h5 z⟩
    · exact .inl (by omega)
  nn := fun n hn x hx => (D.mq _ (mvs_mem hx)).2.2.2.1
theorem tot_eq (h1 : 1 ≤ ss.length) (h5 : ss.length ≤ 5) : TR.tot (TL ss ms es) ss.length = (nodesL ss).length := by
  have hl : (nodesL ss).length = ((List.range ss.length).map fun a => (ss.getD a 0).toNat).sum := by
    unfold nodesL
    rw [List.length_flatMap]
    congr 1
    refine List.map_congr_left fun a _ => ?_
    rw [List.length_map, List.length_range]
  have ht : ∀ k, TR.tot (TL ss ms es) k = ((List.range k).map fun j => (ss.getD (ss.length - 1 - j) 0).toNat).sum := by
    intro k
    induction k with
    | zero => rfl
    | succ k ih =>
      show TR.tot (TL ss ms es) k + ((List.range (ss.getD (ss.length - 1 - k) 0).toNat).map _).length = _
      rw [ih, List.length_map, List.length_range, List.range_succ, List.map_append, List.sum_append]
      simp
  rw [hl, ht]
  rcases ss with _ | ⟨a, _ | ⟨b, _ | ⟨c, _ | ⟨d, _ | ⟨e, _ | ⟨f, r⟩⟩⟩⟩⟩⟩
  · simp at h1
  all_goals first
    | (simp at h5; done)
    | (simp [List.range, List.range.loop]; try omega)
theorem lastL {T : OListed} (L : Lsd ss ms es T) (h1 : 1 ≤ ss.length) : t_Listed_last_at T = some ((TL ss ms es).last : Int) := by
  unfold t_Listed_last_at
  rw [L.sz]
  show some ((ss.length : Int) - 1) = some ((ss.length - 1 : Nat) : Int)
  congr 1; omega
theorem ndsL {T : OListed} (L : Lsd ss ms es T) (h3 : ∀ s ∈ ss, 1 ≤ s ∧ s ≤ 3) {a : Nat} (ha : a < ss.length) : t_Listed_nodes_at T (a : Int) = some ((TL ss ms es).nds a) := by
  have hs : ss.getD a 0 = ss[a] := by rw [List.getD_eq_getElem?_getD, List.getElem?_eq_getElem ha]; rfl
  have hb3 := h3 _ (List.getElem_mem ha)
  rw [← hs] at hb3
  unfold t_Listed_nodes_at
  rw [L.sz, at_of ha, Option.bind_some, rngT_ok (by omega) (by omega), Option.bind_some, compT_map (f := fun s : Int => ((a : Int), s)) (by rw [List.length_map, List.length_range]; unfold LIM; omega) (fun _ _ => rfl), List.map_map]
  rfl
theorem pricedL (D : DrawOk ss ms es) {T : OListed} (L : Lsd ss ms es T) : ∃ m, t_priced_d T = some m ∧ TR.Priced (TL ss ms es) m ∧ m.length = (nodesL ss).length := by
  have hnl := nodes_len D.s5 D.s3
  have hs1 := D.s1
  have hs5 := D.s5
  have hlast : (TL ss ms es).last + 1 = ss.length := by show ss.length - 1 + 1 = _; omega
  obtain ⟨m, e, p, q⟩ := TR.priced_ok (trOkL D) (fu := 5000) (mv := t_Listed_moves_from T) (isEnd := t_Listed_is_end T) (lastAt := t_Listed_last_at T) (nodesAt := t_Listed_nodes_at T) (fun n _ => L.mv n) (fun n _ => L.en n) (lastL L D.s1) (fun a ha => ndsL L D.s3 (by omega)) (fun a ha => by
      have hs : ss.getD a 0 = ss[a]'(by omega) := by rw [List.getD_eq_getElem?_getD, List.getElem?_eq_getElem (by omega)]; rfl
      have hb3 := D.s3 _ (List.getElem_mem (show a < ss.length by omega))
      rw [← hs] at hb3
      show ((List.range (ss.getD a 0).toNat).map _).length + 2 ≤ 5000
      rw [List.length_map, List.length_range]; omega) (by rw [hlast, tot_eq D.s1 D.s5]; unfold LIM; omega) (by omega)
  refine ⟨m, e, p, ?_⟩
  rw [q, hlast, tot_eq D.s1 D.s5]
abbrev Pd := TR.Pr Nd
def lx (p : Nd → Option Int) (m : Mx) : Nd → Option Int := TR.up p m.1 (TR.relax (p m.1) m.2.1 (p m.2.2.2))
theorem lx_le (p : Nd → Option Int) (m : Mx) (n : Nd) : TR.Le (lx p m n) (p n) := TR.up_le p m.1 n (TR.relax_le _ _ _)
theorem lxs_le : ∀ (ms : List Mx) (p : Nd → Option Int) (n : Nd), TR.Le (ms.foldl lx p n) (p n)
  | [], p, n => TR.Le.refl _
  | m :: ms, p, n => (lxs_le ms (lx p m) n).trans (lx_le p m n)
theorem relax_ml {acc : Option Int} {c : Int} {r : Option Int} {r' : Int} (h : TR.Le r (some r')) : TR.Le (TR.relax acc c r) (some (c + r')) := by
  obtain ⟨x, hx, h1⟩ := h r' rfl
  subst hx
  exact (TR.relax_mv acc c x).trans fun y hy => ⟨c + x, rfl, by cases hy; omega⟩
theorem lxs_mv : ∀ (ms : List Mx) (p : Nd → Option Int) (m : Mx) (r : Int), m ∈ ms → TR.Le (p m.2.2.2) (some r) → TR.Le (ms.foldl lx p m.1) (some (m.2.1 + r))
  | x :: ms, p, m, r, h, hr => by
    rcases List.mem_cons.mp h with h | h
    · subst h
      refine (lxs_le ms (lx p m) m.1).trans ?_
      unfold lx TR.up
      rw [if_pos rfl]
      exact relax_ml hr
    · exact lxs_mv ms (lx p x) m r h ((lx_le p x _).trans hr)
theorem lxs_lo {d : Nd → Option Int} : ∀ (ms : List Mx) (p : Nd → Option Int), (∀ m ∈ ms, ∀ r, d m.2.2.2 = some r → TR.Le (d m.1) (some (m.2.1 + r))) → (∀ n, TR.Le (d n) (p n)) → ∀ n, TR.Le (d n) (ms.foldl lx p n)
  | [], p, _, h, n => h n
  | m :: ms, p, hf, h, n => by
    refine lxs_lo ms (lx p m) (fun x hx => hf x (List.mem_cons_of_mem _ hx)) (fun k => ?_) n
    unfold lx TR.up
    split
    · rename_i e
      subst e
      rcases TR.relax_or (p m.1) m.2.1 (p m.2.2.2) with q | ⟨r, q1, q2⟩
      · rw [q]; exact h _
      · rw [q2]
        obtain ⟨r', e1, e2⟩ := h m.2.2.2 r q1
        exact (hf m List.mem_cons_self r' e1).trans fun y hy => ⟨m.2.1 + r', rfl, by cases hy; omega⟩
    · exact h k
def turns (ms : List Mx) (p : Nd → Option Int) : Nat → Nd → Option Int
  | 0 => p
  | k + 1 => ms.foldl lx (turns ms p k)
def p0 (ss : List Int) (es : List Nd) (n : Nd) : Option Int := if n ∈ nodesL ss then (if memT n es = true then some 0 else none) else none
theorem turns_eq (D : DrawOk ss ms es) {m : Pd} (P : TR.Priced (TL ss ms es) m) : ∀ n, n ∈ nodesL ss → turns ms (p0 ss es) m.length n = TR.val m n := by
  have hlo : ∀ k n, TR.Le (TR.val m n) (turns ms (p0 ss es) k n) := by
    intro k
    induction k with
    | zero =>
      intro n
      show TR.Le _ (p0 ss es n)
      unfold p0
      split
      · rename_i hn
        split
        · rename_i he
          rw [P.ends n ((in_TL D.s1 n).mpr hn) he]
          exact TR.Le.refl _
        · exact fun y hy => by cases hy
      · exact fun y hy => by cases hy
    | succ k ih =>
      exact lxs_lo ms _ (fun x hx r hr => P.fair x.1 ((in_TL D.s1 _).mpr (D.mq x hx).1) x.2 (mem_mvs hx) r hr) ih
  have hup : ∀ k n, n ∈ nodesL ss → TR.rank (TL ss ms es) m n < k → TR.Le (turns ms (p0 ss es) k n) (TR.val m n) := by
    intro k
    induction k with
    | zero => intro n _ h; omega
    | succ k ih =>
      intro n hn hr
      intro v hv
      cases he : (TL ss ms es).en n with
      | true =>
        have hz : ∀ j, TR.Le (turns ms (p0 ss es) j n) (some 0) := by
          intro j
          induction j with
          | zero =>
            show TR.Le (p0 ss es n) _
            unfold p0
            rw [if_pos hn, if_pos (show memT n es = true from he)]
            exact TR.Le.refl _
          | succ j ih => exact (lxs_le ms _ n).trans ih
        rw [P.ends n ((in_TL D.s1 n).mpr hn) he] at hv
        exact hz (k + 1) v hv
      | false =>
        obtain ⟨x, h1, r, h2, h3⟩ := TR.exact P ((in_TL D.s1 n).mpr hn) hv he
        have hlt := TR.rank_lt (trOkL D) P ((in_TL D.s1 n).mpr hn) h1 h2 (by rw [hv, h3])
        have hx : (n, x) ∈ ms := mvs_mem h1
        have hi := ih x.2.2 (D.mq _ hx).2.1 (by omega)
        rw [h2] at hi
        have := lxs_mv ms (turns ms (p0 ss es) k) (n, x) r hx hi
        rw [h3]
        exact this _ rfl
  intro n hn
  refine TR.Le.anti (hup _ n hn ?_) (hlo _ n)
  unfold TR.rank
  have hk : n ∈ m.map (·.1) := (P.keys n).mpr ((in_TL D.s1 n).mpr hn)
  have h1 : TR.below (TL ss ms es) m n n = false := by simp [TR.below]
  have h2 : ((m.map (·.1)).filter (TR.below (TL ss ms es) m n)).length < (m.map (·.1)).length := by
    have := TR.filter_lt (l := m.map (·.1)) (q := TR.below (TL ss ms es) m n) (r := fun _ => true) (fun _ _ _ => rfl) ⟨n, hk, rfl, h1⟩
    rwa [List.filter_eq_self.mpr (fun _ _ => rfl)] at this
  rwa [List.length_map] at h2
def lstep (s11_ : Pd) (x12_ : Mx) : Option Pd :=
  ((getT s11_ x12_.2.2.2)).bind fun (rest : (Option Int)) =>
  ((if (Option.isSome rest) = true then (((getT s11_ x12_.1).bind fun v13_ => some (Option.isNone v13_)).bind fun v14_ => (if v14_ = true then some true else ((rest.bind fun v15_ => some (x12_.2.1 + v15_)).bind fun v16_ => ((getT s11_ x12_.1).bind fun x => x).bind fun v17_ => some (decide (v16_ < v17_))))) else some false).bind fun v18_ => ((if v18_ = true then
  ((rest.bind fun v19_ => some (x12_.2.1 + v19_)).bind fun v20_ => some (some v20_)).bind fun u21_ => ((some x12_.1)).bind fun i22_ => (putC s11_ i22_ u21_).bind fun y23_ =>
  some y23_
  else
  some s11_ : Option Pd)).bind fun (s24_ : Pd) =>
  some s24_)
theorem lstep_ok {s : Pd} {x : Mx} (h1 : x.1 ∈ s.map (·.1)) (h2 : x.2.2.2 ∈ s.map (·.1)) (hl : s.length < LIM) : ∃ s', lstep s x = some s' ∧ s'.map (·.1) = s.map (·.1) ∧ TR.val s' = lx (TR.val s) x := by
  unfold lstep lx
  rw [TR.getT_val h2, TR.getT_val h1, Option.bind_some]
  cases hr : TR.val s x.2.2.2 with
  | none =>
    refine ⟨s, rfl, rfl, ?_⟩
    rw [show TR.relax (TR.val s x.1) x.2.1 none = TR.val s x.1 from rfl, TR.up_same]
  | some r =>
    cases ha : TR.val s x.1 with
    | none =>
      obtain ⟨s', e1, e2, e3⟩ := TR.put_old (v := some (x.2.1 + r)) h1 hl
      exact ⟨s', by simp [e1], e2, e3⟩
    | some a =>
      by_cases q : x.2.1 + r < a
      · obtain ⟨s', e1, e2, e3⟩ := TR.put_old (v := some (x.2.1 + r)) h1 hl
        exact ⟨s', by simp [e1, q], e2, by rw [e3]; simp [TR.relax, q]⟩
      · refine ⟨s, by simp [q], rfl, ?_⟩
        rw [show TR.relax (some a) x.2.1 (some r) = some a by simp [TR.relax, q], ← ha, TR.up_same]
theorem least_ok (D : DrawOk ss ms es) {m : Pd} (P : TR.Priced (TL ss ms es) m) (hml : m.length = (nodesL ss).length) : ∃ due, t_lw_least (nodesL ss) ms es = some due ∧ due.map (·.1) = nodesL ss ∧ ∀ n, TR.val due n = TR.val m n := by
  have hnl := nodes_len D.s5 D.s3
  obtain ⟨s0, e0, k0, v0⟩ := TR.puts_ok (isEnd := fun n => some (memT n es)) (en := fun n => memT n es) (nodesL ss) [] (fun _ _ => rfl) (nodes_nodup ss) (fun n _ h => by simp at h) (by show 0 + _ < LIM; unfold LIM; omega)
  rw [List.map_nil, List.nil_append] at k0
  have v0' : TR.val s0 = p0 ss es := by
    funext n
    rw [v0 n]
    unfold p0
    split
    · rfl
    · rfl
  have turn : ∀ (xs : List Mx) (s : Pd), (∀ x ∈ xs, x ∈ ms) → s.map (·.1) = nodesL ss → ∃ s', foldT (fun s x => lstep s x) xs s = some s' ∧ s'.map (·.1) = nodesL ss ∧ TR.val s' = xs.foldl lx (TR.val s) := by
    intro xs
    induction xs with
    | nil => intro s _ h; exact ⟨s, rfl, h, rfl⟩
    | cons x xs ih =>
      intro s hx hk
      have hm := D.mq x (hx x List.mem_cons_self)
      have hsl : s.length = (nodesL ss).length := by rw [← hk, List.length_map]
      obtain ⟨s1, e1, k1, v1⟩ := lstep_ok (s := s) (x := x) (by rw [hk]; exact hm.1) (by rw [hk]; exact hm.2.1) (by unfold LIM; omega)
      obtain ⟨s', e2, k2, v2⟩ := ih s1 (fun y hy => hx y (List.mem_cons_of_mem _ hy)) (by rw [k1, hk])
      refine ⟨s', ?_, k2, ?_⟩
      · rw [foldT_cons, e1, Option.bind_some, e2]
      · rw [v2, v1]; rfl
  have rounds : ∀ (xs : List Int), ∃ s', foldT (fun (s : Pd) (_ : Int) => (foldT (fun s x => lstep s x) ms s).bind fun s => some s) xs s0 = some s' ∧ s'.map (·.1) = nodesL ss ∧ TR.val s' = turns ms (p0 ss es) xs.length := by
    have gen : ∀ (xs : List Int) (s : Pd) (k : Nat), s.map (·.1) = nodesL ss → TR.val s = turns ms (p0 ss es) k → ∃ s', foldT (fun (s : Pd) (_ : Int) => (foldT (fun s x => lstep s x) ms s).bind fun s => some s) xs s = some s' ∧ s'.map (·.1) = nodesL ss ∧ TR.val s' = turns ms (p0 ss es) (k + xs.length) := by
      intro xs
      induction xs with
      | nil => intro s k h1 h2; exact ⟨s, rfl, h1, h2⟩
      | cons x xs ih =>
        intro s k h1 h2
        obtain ⟨s1, e1, k1, v1⟩ := turn ms s (fun _ h => h) h1
        obtain ⟨s', e2, k2, v2⟩ := ih s1 (k + 1) k1 (by rw [v1, h2]; rfl)
        refine ⟨s', ?_, k2, ?_⟩
        · rw [foldT_cons, e1, Option.bind_some, Option.bind_some, e2]
        · rw [v2, List.length_cons]; congr 1; omega
    intro xs
    obtain ⟨s', e, k, v⟩ := gen xs s0 0 k0 v0'
    exact ⟨s', e, k, by rw [v, Nat.zero_add]⟩
  obtain ⟨due, e, k, v⟩ := rounds ((List.range (nodesL ss).length).map fun (k : Nat) => (k : Int))
  refine ⟨due, ?_, k, fun n => ?_⟩
  · unfold t_lw_least
    dsimp only
    refine (congrArg (Option.bind · _) e0).trans ?_
    rw [Option.bind_some, rngT_ok (by omega) (by omega), Option.bind_some, Int.toNat_natCast]
    exact (congrArg (Option.bind · _) e).trans rfl
  · rw [v, List.length_map, List.length_range, ← hml]
    by_cases hn : n ∈ nodesL ss
    · exact turns_eq D P n hn
    · have hd : TR.val due n = none := TR.val_out (by rw [k]; exact hn)
      rw [v, List.length_map, List.length_range, ← hml] at hd
      rw [hd, TR.val_out (fun h => hn ((in_TL D.s1 n).mp ((P.keys n).mp h)))]
end
end OW

namespace LW
open PySem L2 LI OW
def t_lw_way (trail : OListed) (moves_here : (List ((Int × Int) × Int × Ts × (Int × Int)))) (ends_here : (List (Int × Int))) (due : (List ((Int × Int) × (Option Int)))) : Option Bool :=
  ((t_way_of_c trail)).bind fun (found : (Option ((Option Int) × (List Ts)))) =>
  (((getT due ((0 : Int), (0 : Int))).bind fun v1_ => some (Option.isNone v1_)).bind fun v2_ => if v2_ = true then
  some (Option.isNone found)
  else
  ((if (!(Option.isSome found && true)) = true then some true else (((found.bind fun v3_ => some (2 : Int)).bind fun v4_ => some (!decide (v4_ = (2 : Int)))).bind fun v5_ => (if v5_ = true then some true else ((((found.bind fun v6_ => some v6_.1).bind fun v7_ => (t_lw_whole_c v7_)).bind fun v8_ => some (!v8_)).bind fun v9_ => (if v9_ = true then some true else (((found.bind fun v10_ => some v10_.2).bind fun v11_ => some true).bind fun v12_ => some (!v12_))))))).bind fun v13_ => if v13_ = true then
  some false
  else
  ((((found.bind fun v14_ => some v14_.1).bind fun v15_ => (getT due ((0 : Int), (0 : Int))).bind fun v16_ => some (!decide (v15_ = v16_))).bind fun v17_ => (if v17_ = true then some true else (((found.bind fun v18_ => some v18_.2).bind fun v19_ => (t_lw_walked moves_here ends_here v19_)).bind fun v20_ => (found.bind fun v21_ => some v21_.1).bind fun v22_ => some (!decide (v20_ = v22_))))).bind fun v23_ => if v23_ = true then
  some false
  else
  ((((found.bind fun v24_ => some v24_.2).bind fun v25_ => (t_walked trail v25_)).bind fun v26_ => (found.bind fun v27_ => some v27_.1).bind fun v28_ => some (!decide (v26_ = v28_))).bind fun v29_ => if v29_ = true then
  some false
  else
  (found).bind fun (y30_ : ((Option Int) × (List Ts))) =>
  ((appT y30_.2 (['z'] : Ts))).bind fun (u31_ : (List Ts)) =>
  some true))))
def t_law (script : (List Int)) : Option Bool :=
  (((t_lw_cell script (0 : Int)).bind fun v1_ => (t_lw_sizes v1_))).bind fun (sizes_here : (List Int)) =>
  ((t_lw_nodes sizes_here)).bind fun (nodes_here : (List (Int × Int))) =>
  ((t_lw_moves script nodes_here)).bind fun (moves_here : (List ((Int × Int) × Int × Ts × (Int × Int)))) =>
  (((t_lw_cell script (1 : Int)).bind fun v2_ => (t_lw_ends v2_ nodes_here))).bind fun (ends_here : (List (Int × Int))) =>
  ((t_lw_least nodes_here moves_here ends_here)).bind fun (due : (List ((Int × Int) × (Option Int)))) =>
  (((some sizes_here).bind fun (r3_ : (List Int)) => (some moves_here).bind fun (r4_ : (List ((Int × Int) × Int × Ts × (Int × Int)))) => (some ends_here).bind fun (r5_ : (List (Int × Int))) => some ((r3_, r4_, r5_), r3_, r4_, r5_, ()))).bind fun (u6_ : (((List Int) × (List ((Int × Int) × Int × Ts × (Int × Int))) × (List (Int × Int))) × (List Int) × (List ((Int × Int) × Int × Ts × (Int × Int))) × (List (Int × Int)) × Unit)) =>
  ((t_Listed_init u6_.1.1 u6_.1.2.1 u6_.1.2.2)).bind fun (trail : OListed) =>
  ((t_priced_d trail)).bind fun (found : (List ((Int × Int) × (Option Int)))) =>
  ((if (!true) = true then some true else (((t_lw_alike_d found due).bind fun v7_ => some (!v7_)).bind fun v8_ => (if v8_ = true then some true else ((t_fair trail found).bind fun v9_ => some (!decide (v9_ = true)))))).bind fun v10_ => if v10_ = true then
  some false
  else
  (some (some (-5 : Int))).bind fun u11_ => ((some ((0 : Int), (0 : Int)))).bind fun i12_ => (putC found i12_ u11_).bind fun y13_ =>
  if List.isEmpty y13_ = false then
  ((((t_lw_way trail moves_here ends_here due).bind fun v14_ => some (!v14_)).bind fun v15_ => (if v15_ = true then some true else ((t_lw_way trail moves_here ends_here due).bind fun v16_ => some (!v16_)))).bind fun v17_ => if v17_ = true then
  some false
  else
  ((t_priced_d trail).bind fun v18_ => (t_lw_alike_d v18_ due)))
  else none)
end LW

namespace LW
open PySem L2 PyProof.Rows LI
def m_Listed_init : SM := (seqM (fldM 1 "sizes" (vL 0) (upF (mA listD (consM (vM 1) nilM))))
  (seqM (fldM 1 "steps" (vL 0) (upF newN))
  (seqM (forM (tupT (consT (nameT 4) (consT (nameT 5) (consT (nameT 6) (consT (nameT 7) nilT))))) (seqM (exprM (sdaM (fldL 1 "steps" (vL 0)) (vM 4) (tupM (consM (vM 5) (consM (vM 6) (consM (vM 7) nilM))))))
  skipM) [4, 5, 6, 7] (itM (vM 2)))
  (seqM (fldM 1 "shut" (vL 0) (upF (mA listD (consM (vM 3) nilM))))
  skipM))))
def F_Listed_init : FM := runM 8 [true, true, true, true] m_Listed_init
def m_Listed_first_node : SM := (seqM (retM (upF (tupM (consM (kM (.int 0)) (consM (kM (.int 0)) nilM))))) skipM)
def F_Listed_first_node : FM := runM 1 [true] m_Listed_first_node
def m_Listed_last_at : SM := (seqM (retM (upF (m2 subD (mA lenD (consM (fldL 1 "sizes" (vL 0)).get nilM)) (kM (.int 1))))) skipM)
def F_Listed_last_at : FM := runM 1 [true] m_Listed_last_at
def m_Listed_nodes_at : SM := (seqM (retM (upF (compM [2] (nameT 2) yesB (tupM (consM (vM 1) (consM (vM 2) nilM))) (rng1M (m2 ixD (fldL 1 "sizes" (vL 0)).get (vM 1)))))) skipM)
def F_Listed_nodes_at : FM := runM 3 [true, true] m_Listed_nodes_at
def m_Listed_moves_from : SM := (seqM (retM (upF (viewsM [0] (mA listD (consM (getN2M (fldL 1 "steps" (vL 0)).get (vM 1) (coldM (lstM nilM))) nilM))))) skipM)
def F_Listed_moves_from : FM := runM 2 [true, true] m_Listed_moves_from
def m_Listed_is_end : SM := (seqM (retM (upF (m2 inLD (vM 1) (fldL 1 "shut" (vL 0)).get))) skipM)
def F_Listed_is_end : FM := runM 2 [true, true] m_Listed_is_end
def m_cheapest : SM := (seqM (asgM (nameT 3) (upR (m2 ixN_ (vM 1) (vM 2))))
  (seqM (forM (tupT (consT (nameT 4) (consT (nameT 5) (consT (nameT 6) nilT)))) (seqM (asgM (nameT 7) (upR (m2 ixN_ (vM 1) (vM 6))))
  (seqM (ifM (andB (bM (m2 nisD (vM 7) (kM .non))) (orB (bM (m2 isD (vM 3) (kM .non))) (bM (m2 ltD (m2 addD (vM 4) (vM 7)) (vM 3))))) (seqM (asgM (nameT 3) (upF (m2 addD (vM 4) (vM 7))))
  skipM) skipM)
  (killM [] skipM))) [4, 5, 6, 7] (itM (coldM (lookM 1 "moves_from" (vL 0).get F_Listed_moves_from (consM (vM 2) nilM)))))
  (seqM (retM (upR (vM 3))) skipM)))
def F_cheapest : FM := runM 8 [true, true, true] m_cheapest
def m_settle : SM := (seqM (asgM (nameT 3) (upF (kM (.bl true))))
  (seqM (whileM 5000 (truM (vM 3)) (seqM (asgM (nameT 3) (upF (kM (.bl false))))
  (seqM (forM (nameT 4) (seqM (asgM (nameT 5) (upF (callM F_cheapest (consM (vM 0) (consM (vM 1) (consM (vM 4) nilM))))))
  (seqM (ifM (bM (m2 neD (vM 5) (m2 ixN_ (vM 1) (vM 4)))) (seqM (dputN (vL 1) (vM 4) (upR (vM 5)))
  (seqM (asgM (nameT 3) (upF (kM (.bl true))))
  skipM)) skipM)
  (killM [] skipM))) [4, 5] (itM (vM 2)))
  skipM)) [4, 5])
  skipM))
def F_settle : FM := runM 6 [true, true, true] m_settle
def m_priced : SM := (seqM (asgM (nameT 1) (upF newN))
  (seqM (forM (nameT 2) (seqM (asgM (nameT 3) (upF (coldM (lookM 1 "nodes_at" (vL 0).get F_Listed_nodes_at (consM (m2 subD (lookM 1 "last_at" (vL 0).get F_Listed_last_at nilM) (vM 2)) nilM)))))
  (seqM (forM (nameT 4) (seqM (dputN (vL 1) (vM 4) (upF (kM .non)))
  (seqM (ifM (truM (lookM 1 "is_end" (vL 0).get F_Listed_is_end (consM (vM 4) nilM))) (seqM (dputN (vL 1) (vM 4) (upF (kM (.int 0))))
  skipM) skipM)
  (killM [] skipM))) [4] (itM (vM 3)))
  (seqM (exprM (lendM F_settle (consM (vM 0) nilM) (vL 1) (consM (vM 3) nilM)))
  skipM))) [2, 3, 4] (rng1M (m2 addD (lookM 1 "last_at" (vL 0).get F_Listed_last_at nilM) (kM (.int 1)))))
  (seqM (retM (mvM (vL 1))) skipM)))
def F_priced : FM := runM 5 [true] m_priced
def m_first_least : SM := (seqM (forM (tupT (consT (nameT 3) (consT (nameT 4) (consT (nameT 5) nilT)))) (seqM (ifM (andB (bM (m2 nisD (m2 ixN_ (vM 1) (vM 5)) (kM .non))) (bM (m2 eqD (m2 addD (vM 3) (m2 ixN_ (vM 1) (vM 5))) (m2 ixN_ (vM 1) (vM 2))))) (seqM (retM (upF (tupM (consM (vM 4) (consM (vM 5) nilM))))) skipM) skipM)
  skipM) [3, 4, 5] (itM (coldM (lookM 1 "moves_from" (vL 0).get F_Listed_moves_from (consM (vM 2) nilM)))))
  (seqM (retM (upF (kM .non))) skipM))
def F_first_least : FM := runM 6 [true, true, true] m_first_least
def m_way_of : SM := (seqM (asgM (nameT 1) (upF (coldM (callM F_priced (consM (vM 0) nilM)))))
  (seqM (asgM (nameT 2) (upF (lookM 1 "first_node" (vL 0).get F_Listed_first_node nilM)))
  (seqM (ifM (bM (m2 isD (m2 ixN_ (vM 1) (vM 2)) (kM .non))) (seqM (retM (upF (kM .non))) skipM) skipM)
  (seqM (asgM (nameT 3) (upF (lstM nilM)))
  (seqM (whileM 5000 (orB (notB (truM (lookM 1 "is_end" (vL 0).get F_Listed_is_end (consM (vM 2) nilM)))) (bM (m2 gtD (m2 ixN_ (vM 1) (vM 2)) (kM (.int 0))))) (seqM (asgM (tupT (consT (nameT 4) (consT (nameT 2) nilT))) (upR (callM F_first_least (consM (vM 0) (consM (vM 1) (consM (vM 2) nilM))))))
  (seqM (exprM (appL (vL 3) (frM (vM 4))))
  skipM)) [4])
  (seqM (retM (tupO (consO (upR (m2 ixN_ (vM 1) (lookM 1 "first_node" (vL 0).get F_Listed_first_node nilM))) (consO (mvM (vL 3)) nilG)))) skipM))))))
def F_way_of : FM := runM 5 [true] m_way_of
def m_walked : SM := (seqM (asgM (nameT 2) (upF (kM (.int 0))))
  (seqM (asgM (nameT 3) (upF (lookM 1 "first_node" (vL 0).get F_Listed_first_node nilM)))
  (seqM (forM (nameT 4) (seqM (iceM 5 (asgM (nameT 5) (upF (compM [6] (nameT 6) (bM (m2 eqD (m2 ixD (vM 6) (kM (.int 1))) (vM 4))) (vM 6) (itV (coldM (lookM 1 "moves_from" (vL 0).get F_Listed_moves_from (consM (vM 3) nilM))))))))
  (seqM (ifM (bM (m2 eqD (vM 5) (lstM nilM))) (seqM (retM (upF (kM .non))) skipM) skipM)
  (seqM (asgM (nameT 2) (upF (m2 addD (vM 2) (m2 ixD (m2 ixD (vM 5) (kM (.int 0))) (kM (.int 0))))))
  (seqM (asgM (nameT 3) (upR (m2 ixD (m2 ixD (vM 5) (kM (.int 0))) (kM (.int 2)))))
  skipM)))) [4, 5] (itM (vM 1)))
  (seqM (ifM (notB (truM (lookM 1 "is_end" (vL 0).get F_Listed_is_end (consM (vM 3) nilM)))) (seqM (retM (upF (kM .non))) skipM) skipM)
  (seqM (retM (upR (vM 2))) skipM)))))
def F_walked : FM := runM 7 [true, true] m_walked
def m_all_nodes : SM := (seqM (asgM (nameT 1) (upF (lstM nilM)))
  (seqM (forM (nameT 2) (seqM (exprM (extS 1 (upF (lookM 1 "nodes_at" (vL 0).get F_Listed_nodes_at (consM (vM 2) nilM)))))
  skipM) [2] (rng1M (m2 addD (lookM 1 "last_at" (vL 0).get F_Listed_last_at nilM) (kM (.int 1)))))
  (seqM (retM (mvM (vL 1))) skipM)))
def F_all_nodes : FM := runM 3 [true] m_all_nodes
def m_is_price : SM := (seqM (ifM (bM (m2 isD (vM 0) (kM .non))) (seqM (retM (upF (kM (.bl true)))) skipM) skipM)
  (seqM (retM (upF (andM (isiM "int" (vM 0)) (notD (isiM "bool" (vM 0)))))) skipM))
def F_is_price : FM := runM 1 [true] m_is_price
def m_fair_at : SM := (seqM (asgM (nameT 3) (upR (m2 ixN_ (vM 1) (vM 2))))
  (seqM (ifM (andB (truM (lookM 1 "is_end" (vL 0).get F_Listed_is_end (consM (vM 2) nilM))) (orB (bM (m2 isD (vM 3) (kM .non))) (bM (m2 gtD (vM 3) (kM (.int 0)))))) (seqM (retM (upF (kM (.bl false)))) skipM) skipM)
  (seqM (forM (tupT (consT (nameT 4) (consT (nameT 5) (consT (nameT 6) nilT)))) (seqM (asgM (nameT 7) (upR (m2 ixN_ (vM 1) (vM 6))))
  (seqM (ifM (andB (bM (m2 nisD (vM 7) (kM .non))) (orB (bM (m2 isD (vM 3) (kM .non))) (bM (m2 gtD (vM 3) (m2 addD (vM 4) (vM 7)))))) (seqM (retM (upF (kM (.bl false)))) skipM) skipM)
  skipM)) [4, 5, 6, 7] (itM (coldM (lookM 1 "moves_from" (vL 0).get F_Listed_moves_from (consM (vM 2) nilM)))))
  (seqM (retM (upF (kM (.bl true)))) skipM))))
def F_fair_at : FM := runM 8 [true, true, true] m_fair_at
def m_fair : SM := (seqM (asgM (nameT 2) (upF (coldM (callM F_all_nodes (consM (vM 0) nilM)))))
  (seqM (ifM (orB (notB (truM (isiNM "dict" (vM 1)))) (bM (m2 neD (mA lenND (consM (vM 1) nilM)) (mA lenD (consM (vM 2) nilM))))) (seqM (retM (upF (kM (.bl false)))) skipM) skipM)
  (seqM (forM (nameT 3) (seqM (ifM (orB (bM (m2 ninND (vM 3) (vM 1))) (notB (truM (callM F_is_price (consM (m2 ixN_ (vM 1) (vM 3)) nilM))))) (seqM (retM (upF (kM (.bl false)))) skipM) skipM)
  skipM) [3] (itM (vM 2)))
  (seqM (forM (nameT 3) (seqM (ifM (notB (truM (callM F_fair_at (consM (vM 0) (consM (vM 1) (consM (vM 3) nilM)))))) (seqM (retM (upF (kM (.bl false)))) skipM) skipM)
  skipM) [3] (itM (vM 2)))
  (seqM (retM (upF (kM (.bl true)))) skipM)))))
def F_fair : FM := runM 4 [true, true] m_fair
def m_lw_cell_at : SM := (seqM (ifM (bM (m2 ltD (vM 1) (mA lenD (consM (vM 0) nilM)))) (seqM (retM (upR (m2 ixD (vM 0) (vM 1)))) skipM) skipM)
  (seqM (retM (upF (kM (.int 0)))) skipM))
def F_lw_cell_at : FM := runM 2 [true, true] m_lw_cell_at
def m_lw_mix : SM := (seqM (ifM (bM (m2 gtD (vM 0) (m2 powD (kM (.int 10)) (kM (.int 18))))) (seqM (asgM (nameT 2) (upR (vM 0)))
  (seqM (forM (nameT 3) (seqM (asgM (nameT 2) (upF (m2 fdivD (vM 2) (m2 powD (kM (.int 10)) (kM (.int 9))))))
  skipM) [3] (rng1M (vM 1)))
  (seqM (retM (upF (m2 modD (vM 2) (m2 powD (kM (.int 10)) (kM (.int 9)))))) skipM))) skipM)
  (seqM (asgM (nameT 4) (upF (m2 addD (m2 modD (vM 0) (kM (.int 2147483647))) (kM (.int 7919)))))
  (seqM (forM (nameT 3) (seqM (asgM (nameT 4) (upF (m2 modD (m2 addD (m2 mulD (vM 4) (kM (.int 48271))) (kM (.int 104729))) (kM (.int 2147483629)))))
  skipM) [3] (rng1M (m2 addD (vM 1) (kM (.int 2)))))
  (seqM (retM (upF (m2 fdivD (m2 modD (m2 mulD (vM 4) (vM 4)) (kM (.int 998244353))) (kM (.int 11))))) skipM))))
def F_lw_mix : FM := runM 5 [true, true] m_lw_mix
def m_lw_whole : SM := (seqM (retM (upF (andM (isiM "int" (vM 0)) (notD (isiM "bool" (vM 0)))))) skipM)
def F_lw_whole : FM := runM 1 [true] m_lw_whole
def m_lw_sizes : SM := (seqM (retM (upF (compM [1] (nameT 1) yesB (m2 addD (kM (.int 1)) (m2 modD (callM F_lw_mix (consM (vM 0) (consM (vM 1) nilM))) (kM (.int 3)))) (rng1M (m2 addD (kM (.int 1)) (m2 modD (callM F_lw_mix (consM (vM 0) (consM (kM (.int 8)) nilM))) (kM (.int 5)))))))) skipM)
def F_lw_sizes : FM := runM 2 [true] m_lw_sizes
def m_lw_nodes : SM := (seqM (asgM (nameT 1) (upF (lstM nilM)))
  (seqM (forM (nameT 2) (seqM (forM (nameT 3) (seqM (exprM (appL (vL 1) (tupM (consM (vM 2) (consM (vM 3) nilM)))))
  skipM) [3] (rng1M (m2 ixD (vM 0) (vM 2))))
  skipM) [2, 3] (rng1M (mA lenD (consM (vM 0) nilM))))
  (seqM (retM (mvM (vL 1))) skipM)))
def F_lw_nodes : FM := runM 4 [true] m_lw_nodes
def m_lw_moves : SM := (seqM (asgM (nameT 2) (upF (lstM nilM)))
  (seqM (asgM (nameT 3) (upF newN))
  (seqM (forM (nameT 4) (seqM (asgM (nameT 5) (upR (m2 ixD (vM 1) (m2 modD (callM F_lw_mix (consM (vM 4) (consM (kM (.int 1)) nilM))) (mA lenD (consM (vM 1) nilM))))))
  (seqM (iceM 6 (asgM (nameT 6) (upF (compM [9] (nameT 9) (bM (m2 geD (m2 ixD (vM 9) (kM (.int 0))) (m2 ixD (vM 5) (kM (.int 0))))) (vM 9) (itV (vM 1))))))
  (seqM (asgM (nameT 7) (upR (m2 ixD (vM 6) (m2 modD (callM F_lw_mix (consM (vM 4) (consM (kM (.int 6)) nilM))) (mA lenD (consM (vM 6) nilM))))))
  (seqM (asgM (nameT 8) (upF (m2 modD (callM F_lw_mix (consM (vM 4) (consM (kM (.int 9)) nilM))) (m2 ixD (lstM (consM (kM (.int 3)) (consM (kM (.int 40)) (consM (m2 powD (kM (.int 10)) (kM (.int 9))) nilM)))) (m2 modD (callM F_lw_mix (consM (vM 4) (consM (kM (.int 7)) nilM))) (kM (.int 3)))))))
  (seqM (ifM (andB (bM (m2 eqD (m2 ixD (vM 7) (kM (.int 0))) (m2 ixD (vM 5) (kM (.int 0))))) (bM (m2 eqD (vM 8) (kM (.int 0))))) (seqM (asgM (nameT 8) (upF (kM (.int 1))))
  skipM) skipM)
  (killM [] (seqM (asgM (nameT 8) (upF (m2 mulD (vM 8) (m2 ixD (lstM (consM (kM (.int 1)) (consM (kM (.int 1)) (consM (kM (.int 1)) (consM (m2 powD (kM (.int 10)) (kM (.int 40))) nilM))))) (m2 modD (callM F_lw_mix (consM (vM 4) (consM (kM (.int 10)) nilM))) (kM (.int 4)))))))
  (seqM (exprM (appL (vL 2) (tupM (consM (vM 5) (consM (vM 8) (consM (m2 mulD (m2 ixD (kM (.str [97, 98])) (m2 modD (vM 4) (kM (.int 2)))) (getN2M (vM 3) (vM 5) (kM (.int 0)))) (consM (vM 7) nilM)))))))
  (seqM (dputN (vL 3) (vM 5) (upF (m2 addD (getN2M (vM 3) (vM 5) (kM (.int 0))) (kM (.int 1)))))
  skipM))))))))) [4, 5, 6, 7, 8] (itM (coldM (slM (vM 0) (soM (kM (.int 3))) (soM (kM (.int 43)))))))
  (seqM (retM (mvM (vL 2))) skipM))))
def F_lw_moves : FM := runM 10 [true, true] m_lw_moves
def m_lw_ends : SM := (seqM (asgM (nameT 2) (upF (lstM nilM)))
  (seqM (forM (nameT 3) (seqM (ifM (bM (m2 eqD (m2 modD (callM F_lw_mix (consM (vM 0) (consM (m2 addD (kM (.int 11)) (vM 3)) nilM))) (kM (.int 3))) (kM (.int 0)))) (seqM (exprM (appL (vL 2) (frM (m2 ixD (vM 1) (vM 3)))))
  skipM) skipM)
  (killM [] skipM)) [3] (rng1M (mA lenD (consM (vM 1) nilM))))
  (seqM (ifM (andB (bM (m2 gtD (m2 modD (vM 0) (kM (.int 4))) (kM (.int 0)))) (bM (m2 ninLD (m2 ixD (vM 1) (m1 negD (kM (.int 1)))) (vM 2)))) (seqM (exprM (appL (vL 2) (frM (m2 ixD (vM 1) (m1 negD (kM (.int 1)))))))
  skipM) skipM)
  (killM [] (seqM (retM (mvM (vL 2))) skipM)))))
def F_lw_ends : FM := runM 4 [true, true] m_lw_ends
def m_lw_least : SM := (seqM (asgM (nameT 3) (upF newN))
  (seqM (forM (nameT 4) (seqM (dputN (vL 3) (vM 4) (upF (kM .non)))
  (seqM (ifM (bM (m2 inLD (vM 4) (vM 2))) (seqM (dputN (vL 3) (vM 4) (upF (kM (.int 0))))
  skipM) skipM)
  (killM [] skipM))) [4] (itM (vM 0)))
  (seqM (forM (nameT 5) (seqM (forM (tupT (consT (nameT 6) (consT (nameT 7) (consT (nameT 8) (consT (nameT 9) nilT))))) (seqM (asgM (nameT 10) (upR (m2 ixN_ (vM 3) (vM 9))))
  (seqM (ifM (andB (bM (m2 nisD (vM 10) (kM .non))) (orB (bM (m2 isD (m2 ixN_ (vM 3) (vM 6)) (kM .non))) (bM (m2 ltD (m2 addD (vM 7) (vM 10)) (m2 ixN_ (vM 3) (vM 6)))))) (seqM (dputN (vL 3) (vM 6) (upF (m2 addD (vM 7) (vM 10))))
  skipM) skipM)
  (killM [] skipM))) [6, 7, 8, 9, 10] (itM (vM 1)))
  skipM) [5, 6, 7, 8, 9, 10] (rng1M (mA lenD (consM (vM 0) nilM))))
  (seqM (retM (mvM (vL 3))) skipM))))
def F_lw_least : FM := runM 11 [true, true, true] m_lw_least
def m_lw_walked : SM := (seqM (asgM (nameT 3) (upF (tupM (consM (kM (.int 0)) (consM (kM (.int 0)) nilM)))))
  (seqM (asgM (nameT 4) (upF (kM (.int 0))))
  (seqM (forM (nameT 5) (seqM (iceM 6 (asgM (nameT 6) (upF (compM [7] (nameT 7) (andB (bM (m2 eqD (m2 ixD (vM 7) (kM (.int 0))) (vM 3))) (bM (m2 eqD (m2 ixD (vM 7) (kM (.int 2))) (vM 5)))) (vM 7) (itV (vM 0))))))
  (seqM (ifM (bM (m2 eqD (vM 6) (lstM nilM))) (seqM (retM (upF (kM .non))) skipM) skipM)
  (seqM (asgM (nameT 4) (upF (m2 addD (vM 4) (m2 ixD (m2 ixD (vM 6) (kM (.int 0))) (kM (.int 1))))))
  (seqM (asgM (nameT 3) (upR (m2 ixD (m2 ixD (vM 6) (kM (.int 0))) (kM (.int 3)))))
  skipM)))) [5, 6] (itM (vM 2)))
  (seqM (ifM (bM (m2 ninLD (vM 3) (vM 1))) (seqM (retM (upF (kM .non))) skipM) skipM)
  (seqM (retM (upR (vM 4))) skipM)))))
def F_lw_walked : FM := runM 8 [true, true, true] m_lw_walked
def m_lw_alike : SM := (seqM (ifM (orB (notB (truM (isiNM "dict" (vM 0)))) (bM (m2 neD (mA lenND (consM (vM 0) nilM)) (mA lenND (consM (vM 1) nilM))))) (seqM (retM (upF (kM (.bl false)))) skipM) skipM)
  (seqM (forM (nameT 2) (seqM (ifM (bM (m2 ninND (vM 2) (vM 0))) (seqM (retM (upF (kM (.bl false)))) skipM) skipM)
  (seqM (ifM (andB (bM (m2 isD (m2 ixN_ (vM 1) (vM 2)) (kM .non))) (bM (m2 nisD (m2 ixN_ (vM 0) (vM 2)) (kM .non)))) (seqM (retM (upF (kM (.bl false)))) skipM) skipM)
  (seqM (ifM (andB (bM (m2 nisD (m2 ixN_ (vM 1) (vM 2)) (kM .non))) (orB (notB (truM (callM F_lw_whole (consM (m2 ixN_ (vM 0) (vM 2)) nilM)))) (bM (m2 neD (m2 ixN_ (vM 0) (vM 2)) (m2 ixN_ (vM 1) (vM 2)))))) (seqM (retM (upF (kM (.bl false)))) skipM) skipM)
  skipM))) [2] (itN (vM 1)))
  (seqM (retM (upF (kM (.bl true)))) skipM)))
def F_lw_alike : FM := runM 3 [true, true] m_lw_alike
def m_lw_way : SM := (seqM (asgM (nameT 4) (upF (callM F_way_of (consM (vM 0) nilM))))
  (seqM (ifM (bM (m2 isD (m2 ixN_ (vM 3) (tupM (consM (kM (.int 0)) (consM (kM (.int 0)) nilM)))) (kM .non))) (seqM (retM (upF (m2 isD (vM 4) (kM .non)))) skipM) skipM)
  (seqM (ifM (orB (notB (truM (isiM "tuple" (vM 4)))) (orB (bM (m2 neD (mA lenD (consM (vM 4) nilM)) (kM (.int 2)))) (orB (notB (truM (callM F_lw_whole (consM (m2 ixD (vM 4) (kM (.int 0))) nilM)))) (notB (truM (isiM "list" (m2 ixD (vM 4) (kM (.int 1))))))))) (seqM (retM (upF (kM (.bl false)))) skipM) skipM)
  (seqM (ifM (orB (bM (m2 neD (m2 ixD (vM 4) (kM (.int 0))) (m2 ixN_ (vM 3) (tupM (consM (kM (.int 0)) (consM (kM (.int 0)) nilM)))))) (bM (m2 neD (callVM F_lw_walked (consM (vM 1) (consM (vM 2) (consM (m2 ixD (vM 4) (kM (.int 1))) nilM)))) (m2 ixD (vM 4) (kM (.int 0)))))) (seqM (retM (upF (kM (.bl false)))) skipM) skipM)
  (seqM (ifM (bM (m2 neD (callVM F_walked (consM (vM 0) (consM (coldM (mA listD (consM (m2 ixD (vM 4) (kM (.int 1))) nilM))) nilM))) (m2 ixD (vM 4) (kM (.int 0))))) (seqM (retM (upF (kM (.bl false)))) skipM) skipM)
  (seqM (exprM (appL (tupL 1 (vL 4)) (kM (.str [122]))))
  (seqM (retM (upF (kM (.bl true)))) skipM)))))))
def F_lw_way : FM := runM 5 [true, true, true, true] m_lw_way
def m_law : SM := (seqM (asgM (nameT 1) (upF (coldM (callM F_lw_sizes (consM (callM F_lw_cell_at (consM (vM 0) (consM (kM (.int 0)) nilM))) nilM)))))
  (seqM (asgM (nameT 2) (upF (coldM (callM F_lw_nodes (consM (vM 1) nilM)))))
  (seqM (asgM (nameT 3) (upF (coldM (callM F_lw_moves (consM (vM 0) (consM (vM 2) nilM))))))
  (seqM (asgM (nameT 4) (upF (coldM (callM F_lw_ends (consM (callM F_lw_cell_at (consM (vM 0) (consM (kM (.int 1)) nilM))) (consM (vM 2) nilM))))))
  (seqM (asgM (nameT 5) (upF (coldM (callM F_lw_least (consM (vM 2) (consM (vM 3) (consM (vM 4) nilM)))))))
  (seqM (asgM (nameT 6) (lstO (consO (upF (mA listD (consM (vM 1) nilM))) (consO (upF (mA listD (consM (vM 3) nilM))) (consO (upF (mA listD (consM (vM 4) nilM))) nilG)))))
  (seqM (asgM (nameT 7) (upF (coldM (viewsM [6] (mkM 1 F_Listed_init (consM (m2 ixD (vM 6) (kM (.int 0))) (consM (m2 ixD (vM 6) (kM (.int 1))) (consM (m2 ixD (vM 6) (kM (.int 2))) nilM))))))))
  (seqM (forCM 6 (nameT 8) (seqM (exprM (clearO (vL 8))) skipM) [8])
  (seqM (asgM (nameT 9) (upF (callM F_priced (consM (vM 7) nilM))))
  (seqM (ifM (orB (notB (truM (isiCM 1 true (vM 7)))) (orB (notB (truM (callM F_lw_alike (consM (vM 9) (consM (vM 5) nilM))))) (bM (m2 nisD (callM F_fair (consM (vM 7) (consM (vM 9) nilM))) (kM (.bl true)))))) (seqM (retM (upF (kM (.bl false)))) skipM) skipM)
  (seqM (dputN (vL 9) (tupM (consM (kM (.int 0)) (consM (kM (.int 0)) nilM))) (upF (m1 negD (kM (.int 5)))))
  (seqM (dputX (vL 9) (kM (.str [120])) (upF (kM (.int 7))))
  (seqM (ifM (orB (notB (truM (callM F_lw_way (consM (vM 7) (consM (vM 3) (consM (vM 4) (consM (vM 5) nilM))))))) (notB (truM (callM F_lw_way (consM (vM 7) (consM (vM 3) (consM (vM 4) (consM (vM 5) nilM)))))))) (seqM (retM (upF (kM (.bl false)))) skipM) skipM)
  (seqM (retM (upF (callM F_lw_alike (consM (coldM (callM F_priced (consM (vM 7) nilM))) (consM (vM 5) nilM))))) skipM))))))))))))))
def F_law : FM := runM 10 [true] m_law
end LW

namespace LW
open PySem L2 LI OW
def e_Listed (o : Bool) (x : OListed) : D := .obj o 1 ["sizes", "steps", "shut"] [(eL o eI) x.sizes, (eDN o (n2 nI nI) (eL o (e3 eI eS (e2 eI eI)))) x.steps, (eL o (e2 eI eI)) x.shut]
instance {o : Bool} : Ng (e_Listed o) := ⟨fun _ => rfl⟩
instance {o : Bool} : Ic (e_Listed o) (e_Listed false) := ⟨fun x => by simp [e_Listed, Ic.ic (e := (eL o eI)), Ic.ic (e := (eDN o (n2 nI nI) (eL o (e3 eI eS (e2 eI eI))))), Ic.ic (e := (eL o (e2 eI eI)))]⟩
instance : Fz (e_Listed false) := ⟨fun x => by simp [e_Listed, Fz.fz, fzL]⟩
instance : Nic (e_Listed true) := ⟨fun x => by simp [e_Listed, noIce, noIceL, Nic.ni]⟩
theorem L_Listed_init  (sizes : (List Int)) (moves : (List ((Int × Int) × Int × Ts × (Int × Int)))) (ends : (List (Int × Int))) {r : OListed} (h : t_Listed_init sizes moves ends = some r) : F_Listed_init [.obj true 1 [] [], (eL false eI) sizes, (eL false (e4 (e2 eI eI) eI eS (e2 eI eI))) moves, (eL false (e2 eI eI)) ends] = some ((fun _ => .non) r, (fun r : OListed => e_Listed true r :: [(eL false eI) sizes, (eL false (e4 (e2 eI eI) eI eS (e2 eI eI))) moves, (eL false (e2 eI eI)) ends]) r) := by
  have hb : Bk (Qf (fun _ => .non) [true, true, true, true] (fun r : OListed => e_Listed true r :: [(eL false eI) sizes, (eL false (e4 (e2 eI eI) eI eS (e2 eI eI))) moves, (eL false (e2 eI eI)) ends])) m_Listed_init [(fun p_ : Unit => .obj true 1 [] []) (), (eL false eI) sizes, (eL false (e4 (e2 eI eI) eI eS (e2 eI eI))) moves, (eL false (e2 eI eI)) ends, .gone, .gone, .gone, .gone] _ := (b_fld (fun (u1_ : (List Int)) => [(fun p_ : (List Int) => .obj true 1 ["sizes"] [(eL true eI) p_]) u1_, (eL false eI) sizes, (eL false (e4 (e2 eI eI) eI eS (e2 eI eI))) moves, (eL false (e2 eI eI)) ends, .gone, .gone, .gone, .gone]) (eg_f (x_a1 o1_listL (x_v (eL false eI) sizes rfl))) (fun _ => rfl) (fun (u1_ : (List Int)) => (b_fld (fun (u2_ : (List ((Int × Int) × (List (Int × Ts × (Int × Int)))))) => [(fun p_ : ((List Int) × (List ((Int × Int) × (List (Int × Ts × (Int × Int)))))) => .obj true 1 ["sizes", "steps"] [(eL true eI) p_.1, (eDN true (n2 nI nI) (eL true (e3 eI eS (e2 eI eI)))) p_.2]) (u1_, u2_), (eL false eI) sizes, (eL false (e4 (e2 eI eI) eI eS (e2 eI eI))) moves, (eL false (e2 eI eI)) ends, .gone, .gone, .gone, .gone]) (eg_f (x_newN (nk := (n2 nI nI)) (a := (eL true (e3 eI eS (e2 eI eI)))))) (fun _ => rfl) (fun (u2_ : (List ((Int × Int) × (List (Int × Ts × (Int × Int)))))) => (b_for (fun (s3_ : ((List Int) × (List ((Int × Int) × (List (Int × Ts × (Int × Int))))))) => [(fun p_ : ((List Int) × (List ((Int × Int) × (List (Int × Ts × (Int × Int)))))) => .obj true 1 ["sizes", "steps"] [(eL true eI) p_.1, (eDN true (n2 nI nI) (eL true (e3 eI eS (e2 eI eI)))) p_.2]) s3_, (eL false eI) sizes, (eL false (e4 (e2 eI eI) eI eS (e2 eI eI))) moves, (eL false (e2 eI eI)) ends, .gone, .gone, .gone, .gone]) (u1_, u2_) (fun (s3_ : ((List Int) × (List ((Int × Int) × (List (Int × Ts × (Int × Int))))))) (x4_ : ((Int × Int) × Int × Ts × (Int × Int))) => [(fun p_ : ((List Int) × (List ((Int × Int) × (List (Int × Ts × (Int × Int)))))) => .obj true 1 ["sizes", "steps"] [(eL true eI) p_.1, (eDN true (n2 nI nI) (eL true (e3 eI eS (e2 eI eI)))) p_.2]) s3_, (eL false eI) sizes, (eL false (e4 (e2 eI eI) eI eS (e2 eI eI))) moves, (eL false (e2 eI eI)) ends, (e2 eI eI) x4_.1, eI x4_.2.1, eS x4_.2.2.1, (e2 eI eI) x4_.2.2.2]) (ei_it (x_v (eL false (e4 (e2 eI eI) eI eS (e2 eI eI))) moves rfl)) rfl (fun _ _ => rfl) (fun (s3_ : ((List Int) × (List ((Int × Int) × (List (Int × Ts × (Int × Int))))))) (x4_ : ((Int × Int) × Int × Ts × (Int × Int))) => (b_expr (eg_sda (e := (e3 eI eS (e2 eI eI))) (m := s3_.2) (env := fun r_ => [(fun p_ : ((List Int) × (List ((Int × Int) × (List (Int × Ts × (Int × Int)))))) => .obj true 1 ["sizes", "steps"] [(eL true eI) p_.1, (eDN true (n2 nI nI) (eL true (e3 eI eS (e2 eI eI)))) p_.2]) (s3_.1, r_), (eL false eI) sizes, (eL false (e4 (e2 eI eI) eI eS (e2 eI eI))) moves, (eL false (e2 eI eI)) ends, (e2 eI eI) x4_.1, eI x4_.2.1, eS x4_.2.2.1, (e2 eI eI) x4_.2.2.2]) rfl (fun _ => rfl) (x_v (e2 eI eI) x4_.1 rfl) (x_tup (f := (e3 eI eS (e2 eI eI))) (fun t : Int × Ts × (Int × Int) × Unit => (t.1, t.2.1, t.2.2.1)) (ea_cons (x_v eI x4_.2.1 rfl) (ea_cons (x_v eS x4_.2.2.1 rfl) (ea_cons (x_v (e2 eI eI) x4_.2.2.2 rfl) ea_nil))) (fun _ => rfl) (fun _ => (by decide : 3 ≤ LIM)))) (fun (u5_ : (List ((Int × Int) × (List (Int × Ts × (Int × Int)))))) => (b_nil (t := (s3_.1, u5_)) ⟨rfl, rfl⟩)))) (fun (s3_ : ((List Int) × (List ((Int × Int) × (List (Int × Ts × (Int × Int))))))) => (b_fld (fun (u6_ : (List (Int × Int))) => [e_Listed true ({ sizes := s3_.1, steps := s3_.2, shut := u6_ : OListed }), (eL false eI) sizes, (eL false (e4 (e2 eI eI) eI eS (e2 eI eI))) moves, (eL false (e2 eI eI)) ends, .gone, .gone, .gone, .gone]) (eg_f (x_a1 o1_listL (x_v (eL false (e2 eI eI)) ends rfl))) (fun _ => rfl) (fun (u6_ : (List (Int × Int))) => (b_nil (t := ({ sizes := s3_.1, steps := s3_.2, shut := u6_ : OListed })) ⟨.inr ⟨rfl, rfl⟩, rfl⟩)))))))))
  refine run_T (n := 8) (kp := [true, true, true, true]) (m := m_Listed_init) (ds := [.obj true 1 [] [], (eL false eI) sizes, (eL false (e4 (e2 eI eI) eI eS (e2 eI eI))) moves, (eL false (e2 eI eI)) ends]) rfl hb ?_
  first
    | (simp -implicitDefEqProofs only [t_Listed_init, Option.bind_assoc, Option.bind_some, bind_same] at h ⊢; exact h)
    | (simp -implicitDefEqProofs only [t_Listed_init, Option.bind_assoc, Option.bind_some, bind_same] at h; exact h)
    | exact h
    | (simp [t_Listed_init] at h ⊢; exact h)
theorem T_Listed_init : Tn (τ := (List Int) × (List ((Int × Int) × Int × Ts × (Int × Int))) × (List (Int × Int)) × Unit) 1 (fun t => [(eL false eI) t.1, (eL false (e4 (e2 eI eI) eI eS (e2 eI eI))) t.2.1, (eL false (e2 eI eI)) t.2.2.1]) (e_Listed true) F_Listed_init (fun t => t_Listed_init t.1 t.2.1 t.2.2.1) := fun t r h => ⟨_, L_Listed_init t.1 t.2.1 t.2.2.1 h⟩
theorem L_Listed_first_node (o_ : Bool) (self : OListed) {r : (Int × Int)} (h : t_Listed_first_node self = some r) : F_Listed_first_node [(e_Listed o_) self] = some ((e2 eI eI) r, (fun _ => [(e_Listed o_) self]) r) := by
  have hb : Bk (Qf (e2 eI eI) [true] (fun _ => [(e_Listed o_) self])) m_Listed_first_node [(e_Listed o_) self] _ := (b_ret (k := fun (u1_ : (Int × Int)) => u1_) (eg_f (x_tup (f := (e2 eI eI)) (fun t : Int × Int × Unit => (t.1, t.2.1)) (ea_cons (x_k eI (0) rfl) (ea_cons (x_k eI (0) rfl) ea_nil)) (fun _ => rfl) (fun _ => (by decide : 2 ≤ LIM)))) (fun u1_ => ⟨.inl rfl, rfl⟩))
  refine run_T (n := 1) (kp := [true]) (m := m_Listed_first_node) (ds := [(e_Listed o_) self]) rfl hb ?_
  first
    | (simp -implicitDefEqProofs only [t_Listed_first_node, Option.bind_assoc, Option.bind_some, bind_same] at h ⊢; exact h)
    | (simp -implicitDefEqProofs only [t_Listed_first_node, Option.bind_assoc, Option.bind_some, bind_same] at h; exact h)
    | exact h
    | (simp [t_Listed_first_node] at h ⊢; exact h)
theorem T_Listed_first_node {o_ : Bool} : To (τ := Unit) (e_Listed o_) (fun t => []) (e2 eI eI) F_Listed_first_node (fun x t => t_Listed_first_node x ) := fun x t r h => ⟨_, L_Listed_first_node o_ x  h⟩
theorem L_Listed_last_at (o_ : Bool) (self : OListed) {r : Int} (h : t_Listed_last_at self = some r) : F_Listed_last_at [(e_Listed o_) self] = some (eI r, (fun _ => [(e_Listed o_) self]) r) := by
  have hb : Bk (Qf eI [true] (fun _ => [(e_Listed o_) self])) m_Listed_last_at [(e_Listed o_) self] _ := (b_ret (k := fun (u1_ : Int) => u1_) (eg_f (x_m2 o2_subI (x_a1 o1_lenL (ev_get (e := (eL o_ eI)) (x := self.sizes) rfl)) (x_k eI (1) rfl))) (fun u1_ => ⟨.inl rfl, rfl⟩))
  refine run_T (n := 1) (kp := [true]) (m := m_Listed_last_at) (ds := [(e_Listed o_) self]) rfl hb ?_
  first
    | (simp -implicitDefEqProofs only [t_Listed_last_at, Option.bind_assoc, Option.bind_some, bind_same] at h ⊢; exact h)
    | (simp -implicitDefEqProofs only [t_Listed_last_at, Option.bind_assoc, Option.bind_some, bind_same] at h; exact h)
    | exact h
    | (simp [t_Listed_last_at] at h ⊢; exact h)
theorem T_Listed_last_at {o_ : Bool} : To (τ := Unit) (e_Listed o_) (fun t => []) eI F_Listed_last_at (fun x t => t_Listed_last_at x ) := fun x t r h => ⟨_, L_Listed_last_at o_ x  h⟩
theorem L_Listed_nodes_at (o_ : Bool) (self : OListed) (at_ : Int) {r : (List (Int × Int))} (h : t_Listed_nodes_at self at_ = some r) : F_Listed_nodes_at [(e_Listed o_) self, eI at_] = some ((eL true (e2 eI eI)) r, (fun _ => [(e_Listed o_) self, eI at_]) r) := by
  have hb : Bk (Qf (eL true (e2 eI eI)) [true, true] (fun _ => [(e_Listed o_) self, eI at_])) m_Listed_nodes_at [(e_Listed o_) self, eI at_, .gone] _ := (b_retI (eg_f (x_comp (fun (state : Int) => [(e_Listed o_) self, eI at_, eI state]) (ei_rng1 (x_m2 o2_ixL (ev_get (e := (eL o_ eI)) (x := self.sizes) rfl) (x_v eI at_ rfl))) (fun _ => rfl) (fun (state : Int) => et_yes) (fun (state : Int) => (x_tup (f := (e2 eI eI)) (fun t : Int × Int × Unit => (t.1, t.2.1)) (ea_cons (x_v eI at_ rfl) (ea_cons (x_v eI state rfl) ea_nil)) (fun _ => rfl) (fun _ => (by decide : 2 ≤ LIM)))))) (fun u4_ => ⟨.inl rfl, rfl⟩))
  refine run_T (n := 3) (kp := [true, true]) (m := m_Listed_nodes_at) (ds := [(e_Listed o_) self, eI at_]) rfl hb ?_
  first
    | (simp -implicitDefEqProofs only [t_Listed_nodes_at, Option.bind_assoc, Option.bind_some, bind_same] at h ⊢; exact h)
    | (simp -implicitDefEqProofs only [t_Listed_nodes_at, Option.bind_assoc, Option.bind_some, bind_same] at h; exact h)
    | exact h
    | (simp [t_Listed_nodes_at] at h ⊢; exact h)
theorem T_Listed_nodes_at {o_ : Bool} : To (τ := Int × Unit) (e_Listed o_) (fun t => [eI t.1]) (eL true (e2 eI eI)) F_Listed_nodes_at (fun x t => t_Listed_nodes_at x t.1) := fun x t r h => ⟨_, L_Listed_nodes_at o_ x t.1 h⟩
theorem L_Listed_moves_from (o_ : Bool) (self : OListed) (node : (Int × Int)) {r : (List (Int × Ts × (Int × Int)))} (h : t_Listed_moves_from self node = some r) : F_Listed_moves_from [(e_Listed o_) self, (e2 eI eI) node] = some ((eL true (e3 eI eS (e2 eI eI))) r, (fun _ => [(e_Listed o_) self, (e2 eI eI) node]) r) := by
  have hb : Bk (Qf (eL true (e3 eI eS (e2 eI eI))) [true, true] (fun _ => [(e_Listed o_) self, (e2 eI eI) node])) m_Listed_moves_from [(e_Listed o_) self, (e2 eI eI) node] _ := (b_ret (k := fun (u1_ : (List (Int × Ts × (Int × Int)))) => u1_) (eg_f (x_view (e0 := (e_Listed o_)) (e' := (e_Listed false)) (x := self) rfl (x_a1 o1_listL (x_getN2 (ev_get (e := (eDN false (n2 nI nI) (eL false (e3 eI eS (e2 eI eI))))) (x := self.steps) rfl) (x_v (e2 eI eI) node rfl) (x_cold (x_lst (f := (eL true (e3 eI eS (e2 eI eI)))) (fun t : Unit => ([] : (List (Int × Ts × (Int × Int))))) ea_nil (fun _ => rfl) (fun _ => (by decide : 0 ≤ LIM)))))))) (fun u1_ => ⟨.inl rfl, rfl⟩))
  refine run_T (n := 2) (kp := [true, true]) (m := m_Listed_moves_from) (ds := [(e_Listed o_) self, (e2 eI eI) node]) rfl hb ?_
  first
    | (simp -implicitDefEqProofs only [t_Listed_moves_from, Option.bind_assoc, Option.bind_some, bind_same] at h ⊢; exact h)
    | (simp -implicitDefEqProofs only [t_Listed_moves_from, Option.bind_assoc, Option.bind_some, bind_same] at h; exact h)
    | exact h
    | (simp [t_Listed_moves_from] at h ⊢; exact h)
theorem T_Listed_moves_from {o_ : Bool} : To (τ := (Int × Int) × Unit) (e_Listed o_) (fun t => [(e2 eI eI) t.1]) (eL true (e3 eI eS (e2 eI eI))) F_Listed_moves_from (fun x t => t_Listed_moves_from x t.1) := fun x t r h => ⟨_, L_Listed_moves_from o_ x t.1 h⟩
theorem L_Listed_is_end (o_ : Bool) (self : OListed) (node : (Int × Int)) {r : Bool} (h : t_Listed_is_end self node = some r) : F_Listed_is_end [(e_Listed o_) self, (e2 eI eI) node] = some (eB r, (fun _ => [(e_Listed o_) self, (e2 eI eI) node]) r) := by
  have hb : Bk (Qf eB [true, true] (fun _ => [(e_Listed o_) self, (e2 eI eI) node])) m_Listed_is_end [(e_Listed o_) self, (e2 eI eI) node] _ := (b_ret (k := fun (u1_ : Bool) => u1_) (eg_f (x_m2 (o2_inL (e := (e2 eI eI)) (by decide)) (x_v (e2 eI eI) node rfl) (ev_get (e := (eL o_ (e2 eI eI))) (x := self.shut) rfl))) (fun u1_ => ⟨.inl rfl, rfl⟩))
  refine run_T (n := 2) (kp := [true, true]) (m := m_Listed_is_end) (ds := [(e_Listed o_) self, (e2 eI eI) node]) rfl hb ?_
  first
    | (simp -implicitDefEqProofs only [t_Listed_is_end, Option.bind_assoc, Option.bind_some, bind_same] at h ⊢; exact h)
    | (simp -implicitDefEqProofs only [t_Listed_is_end, Option.bind_assoc, Option.bind_some, bind_same] at h; exact h)
    | exact h
    | (simp [t_Listed_is_end] at h ⊢; exact h)
theorem T_Listed_is_end {o_ : Bool} : To (τ := (Int × Int) × Unit) (e_Listed o_) (fun t => [(e2 eI eI) t.1]) eB F_Listed_is_end (fun x t => t_Listed_is_end x t.1) := fun x t r h => ⟨_, L_Listed_is_end o_ x t.1 h⟩
theorem L_cheapest  (trail : OListed) (prices : (List ((Int × Int) × (Option Int)))) (node : (Int × Int)) {r : (Option Int)} (h : t_cheapest_d trail prices node = some r) : F_cheapest [(e_Listed false) trail, (eDN false (n2 nI nI) (eO eI)) prices, (e2 eI eI) node] = some ((eO eI) r, (fun _ => [(e_Listed false) trail, (eDN false (n2 nI nI) (eO eI)) prices, (e2 eI eI) node]) r) := by
  have hb : Bk (Qf (eO eI) [true, true, true] (fun _ => [(e_Listed false) trail, (eDN false (n2 nI nI) (eO eI)) prices, (e2 eI eI) node])) m_cheapest [(e_Listed false) trail, (eDN false (n2 nI nI) (eO eI)) prices, (e2 eI eI) node, .gone, .gone, .gone, .gone, .gone] _ := (b_asg (fun (found : (Option Int)) => [(e_Listed false) trail, (eDN false (n2 nI nI) (eO eI)) prices, (e2 eI eI) node, (eO eI) found, .gone, .gone, .gone, .gone]) (eg_r (x_m2 (o2_ixN (o := false) (ek := (e2 eI eI)) (nk := (n2 nI nI)) (e := (eO eI))) (x_v (eDN false (n2 nI nI) (eO eI)) prices rfl) (x_v (e2 eI eI) node rfl))) (fun _ => rfl) (fun (found : (Option Int)) => (b_for (fun (s2_ : (Option Int)) => [(e_Listed false) trail, (eDN false (n2 nI nI) (eO eI)) prices, (e2 eI eI) node, (eO eI) s2_, .gone, .gone, .gone, .gone]) found (fun (s2_ : (Option Int)) (x3_ : (Int × Ts × (Int × Int))) => [(e_Listed false) trail, (eDN false (n2 nI nI) (eO eI)) prices, (e2 eI eI) node, (eO eI) s2_, eI x3_.1, eS x3_.2.1, (e2 eI eI) x3_.2.2, .gone]) (ei_it (x_cold (x_look (fun x => rfl) T_Listed_moves_from (ev_get (e := (e_Listed false)) (x := trail) rfl) (ea_cons (x_v (e2 eI eI) node rfl) ea_nil)))) rfl (fun _ _ => rfl) (fun (s2_ : (Option Int)) (x3_ : (Int × Ts × (Int × Int))) => (b_asg (fun (rest : (Option Int)) => [(e_Listed false) trail, (eDN false (n2 nI nI) (eO eI)) prices, (e2 eI eI) node, (eO eI) s2_, eI x3_.1, eS x3_.2.1, (e2 eI eI) x3_.2.2, (eO eI) rest]) (eg_r (x_m2 (o2_ixN (o := false) (ek := (e2 eI eI)) (nk := (n2 nI nI)) (e := (eO eI))) (x_v (eDN false (n2 nI nI) (eO eI)) prices rfl) (x_v (e2 eI eI) x3_.2.2 rfl))) (fun _ => rfl) (fun (rest : (Option Int)) => (b_join (fun (s7_ : (Option Int)) => [(e_Listed false) trail, (eDN false (n2 nI nI) (eO eI)) prices, (e2 eI eI) node, (eO eI) s7_, eI x3_.1, eS x3_.2.1, (e2 eI eI) x3_.2.2, (eO eI) rest]) (et_and (et_b (x_m2 o2_nisN (x_v (eO eI) rest rfl) (x_k eU () rfl))) (et_or (et_b (x_m2 o2_isN (x_v (eO eI) s2_ rfl) (x_k eU () rfl))) (et_b (x_m2 o2_ltI (x_m2 o2_addI (x_v eI x3_.1 rfl) (x_un (x_v (eO eI) rest rfl))) (x_un (x_v (eO eI) s2_ rfl)))))) (b_asg (fun (found : (Option Int)) => [(e_Listed false) trail, (eDN false (n2 nI nI) (eO eI)) prices, (e2 eI eI) node, (eO eI) found, eI x3_.1, eS x3_.2.1, (e2 eI eI) x3_.2.2, (eO eI) rest]) (eg_f (x_map (e := eI) (f := (eO eI)) some (fun _ => rfl) (x_m2 o2_addI (x_v eI x3_.1 rfl) (x_un (x_v (eO eI) rest rfl))))) (fun _ => rfl) (fun (found : (Option Int)) => (b_nil (t := found) ⟨rfl, rfl⟩))) (b_nil (t := s2_) ⟨rfl, rfl⟩) (fun (s7_ : (Option Int)) => (b_nil (t := s7_) ⟨rfl, rfl⟩)))))) (fun (s2_ : (Option Int)) => (b_ret (k := fun (u11_ : (Option Int)) => u11_) (eg_r (x_v (eO eI) s2_ rfl)) (fun u11_ => ⟨.inl rfl, rfl⟩))))))
  refine run_T (n := 8) (kp := [true, true, true]) (m := m_cheapest) (ds := [(e_Listed false) trail, (eDN false (n2 nI nI) (eO eI)) prices, (e2 eI eI) node]) rfl hb ?_
  first
    | (simp -implicitDefEqProofs only [t_cheapest_d, Option.bind_assoc, Option.bind_some, bind_same] at h ⊢; exact h)
    | (simp -implicitDefEqProofs only [t_cheapest_d, Option.bind_assoc, Option.bind_some, bind_same] at h; exact h)
    | exact h
    | (simp [t_cheapest_d] at h ⊢; exact h)
theorem T_cheapest : Tf (τ := OListed × (List ((Int × Int) × (Option Int))) × (Int × Int) × Unit) (fun t => [(e_Listed false) t.1, (eDN false (n2 nI nI) (eO eI)) t.2.1, (e2 eI eI) t.2.2.1]) (eO eI) F_cheapest (fun t => t_cheapest_d t.1 t.2.1 t.2.2.1) := fun t r h => ⟨_, L_cheapest t.1 t.2.1 t.2.2.1 h⟩
theorem L_settle  (trail : OListed) (prices : (List ((Int × Int) × (Option Int)))) (here : (List (Int × Int))) {r : (List ((Int × Int) × (Option Int)))} (h : t_settle_d trail prices here = some r) : F_settle [(e_Listed false) trail, (eDN true (n2 nI nI) (eO eI)) prices, (eL false (e2 eI eI)) here] = some ((fun _ => .non) r, (fun r : (List ((Int × Int) × (Option Int))) => [(e_Listed false) trail, (eDN true (n2 nI nI) (eO eI)) r, (eL false (e2 eI eI)) here]) r) := by
  have hb : Bk (Qf (fun _ => .non) [true, true, true] (fun r : (List ((Int × Int) × (Option Int))) => [(e_Listed false) trail, (eDN true (n2 nI nI) (eO eI)) r, (eL false (e2 eI eI)) here])) m_settle [(e_Listed false) trail, (eDN true (n2 nI nI) (eO eI)) prices, (eL false (e2 eI eI)) here, .gone, .gone, .gone] _ := (b_asg (fun (falls : Bool) => [(e_Listed false) trail, (eDN true (n2 nI nI) (eO eI)) prices, (eL false (e2 eI eI)) here, eB falls, .gone, .gone]) (eg_f (x_k eB true rfl)) (fun _ => rfl) (fun (falls : Bool) => (b_while (fun (s1_ : ((List ((Int × Int) × (Option Int))) × Bool)) => [(e_Listed false) trail, (eDN true (n2 nI nI) (eO eI)) s1_.1, (eL false (e2 eI eI)) here, eB s1_.2, .gone, .gone]) (prices, falls) rfl (fun (s1_ : ((List ((Int × Int) × (Option Int))) × Bool)) => (et_tru (x_v eB s1_.2 rfl))) (fun (s1_ : ((List ((Int × Int) × (Option Int))) × Bool)) => (b_asg (fun (falls : Bool) => [(e_Listed false) trail, (eDN true (n2 nI nI) (eO eI)) s1_.1, (eL false (e2 eI eI)) here, eB falls, .gone, .gone]) (eg_f (x_k eB false rfl)) (fun _ => rfl) (fun (falls : Bool) => (b_for (fun (s2_ : ((List ((Int × Int) × (Option Int))) × Bool)) => [(e_Listed false) trail, (eDN true (n2 nI nI) (eO eI)) s2_.1, (eL false (e2 eI eI)) here, eB s2_.2, .gone, .gone]) (s1_.1, falls) (fun (s2_ : ((List ((Int × Int) × (Option Int))) × Bool)) (node : (Int × Int)) => [(e_Listed false) trail, (eDN true (n2 nI nI) (eO eI)) s2_.1, (eL false (e2 eI eI)) here, eB s2_.2, (e2 eI eI) node, .gone]) (ei_it (x_v (eL false (e2 eI eI)) here rfl)) rfl (fun _ _ => rfl) (fun (s2_ : ((List ((Int × Int) × (Option Int))) × Bool)) (node : (Int × Int)) => (b_asg (fun (found : (Option Int)) => [(e_Listed false) trail, (eDN true (n2 nI nI) (eO eI)) s2_.1, (eL false (e2 eI eI)) here, eB s2_.2, (e2 eI eI) node, (eO eI) found]) (eg_f (x_callF T_cheapest (ea_cons (x_v (e_Listed false) trail rfl) (ea_consW (x_v (eDN true (n2 nI nI) (eO eI)) s2_.1 rfl) (ea_cons (x_v (e2 eI eI) node rfl) ea_nil))))) (fun _ => rfl) (fun (found : (Option Int)) => (b_join (fun (s4_ : ((List ((Int × Int) × (Option Int))) × Bool)) => [(e_Listed false) trail, (eDN true (n2 nI nI) (eO eI)) s4_.1, (eL false (e2 eI eI)) here, eB s4_.2, (e2 eI eI) node, (eO eI) found]) (et_b (x_m2 (o2_ne (e' := (eO eI)) (by decide)) (x_v (eO eI) found rfl) (x_m2 (o2_ixN (o := true) (ek := (e2 eI eI)) (nk := (n2 nI nI)) (e := (eO eI))) (x_v (eDN true (n2 nI nI) (eO eI)) s2_.1 rfl) (x_v (e2 eI eI) node rfl)))) (b_dputN (av := (eO eI)) (v := fun u5_ => u5_) (xs := fun u5_ => s2_.1) (fun p7_ => [(e_Listed false) trail, (eDN true (n2 nI nI) (eO eI)) p7_.2, (eL false (e2 eI eI)) here, eB s2_.2, (e2 eI eI) node, (eO eI) found]) (eg_r (x_v (eO eI) found rfl)) (fun _ => rfl) (fun _ => rfl) (fun u5_ => (x_v (e2 eI eI) node rfl)) (fun _ => rfl) (fun p7_ => (b_asg (fun (falls : Bool) => [(e_Listed false) trail, (eDN true (n2 nI nI) (eO eI)) p7_.2, (eL false (e2 eI eI)) here, eB falls, (e2 eI eI) node, (eO eI) found]) (eg_f (x_k eB true rfl)) (fun _ => rfl) (fun (falls : Bool) => (b_nil (t := (p7_.2, falls)) ⟨rfl, rfl⟩))))) (b_nil (t := (s2_.1, s2_.2)) ⟨rfl, rfl⟩) (fun (s4_ : ((List ((Int × Int) × (Option Int))) × Bool)) => (b_nil (t := (s4_.1, s4_.2)) ⟨rfl, rfl⟩)))))) (fun (s2_ : ((List ((Int × Int) × (Option Int))) × Bool)) => (b_nil (t := (s2_.1, s2_.2)) ⟨rfl, rfl⟩)))))) (fun (s1_ : ((List ((Int × Int) × (Option Int))) × Bool)) => (b_nil (t := s1_.1) ⟨.inr ⟨rfl, rfl⟩, rfl⟩)))))
  refine run_T (n := 6) (kp := [true, true, true]) (m := m_settle) (ds := [(e_Listed false) trail, (eDN true (n2 nI nI) (eO eI)) prices, (eL false (e2 eI eI)) here]) rfl hb ?_
  first
    | (simp -implicitDefEqProofs only [t_settle_d, Option.bind_assoc, Option.bind_some, bind_same] at h ⊢; exact h)
    | (simp -implicitDefEqProofs only [t_settle_d, Option.bind_assoc, Option.bind_some, bind_same] at h; exact h)
    | exact h
    | (simp [t_settle_d] at h ⊢; exact h)
theorem T_settle : Tl (τ1 := OListed × Unit) (τ2 := (List (Int × Int)) × Unit) (fun t => [(e_Listed false) t.1]) (eDN true (n2 nI nI) (eO eI)) (fun t => [(eL false (e2 eI eI)) t.1]) (fun _ => .non) (fun r => r) F_settle (fun t x u => t_settle_d t.1 x u.1) := fun t x u r h => ⟨_, L_settle t.1 x u.1 h, rfl⟩
theorem L_priced  (trail : OListed) {r : (List ((Int × Int) × (Option Int)))} (h : t_priced_d trail = some r) : F_priced [(e_Listed false) trail] = some ((eDN true (n2 nI nI) (eO eI)) r, (fun _ => [(e_Listed false) trail]) r) := by
  have hb : Bk (Qf (eDN true (n2 nI nI) (eO eI)) [true] (fun _ => [(e_Listed false) trail])) m_priced [(e_Listed false) trail, .gone, .gone, .gone, .gone] _ := (b_asg (fun (prices : (List ((Int × Int) × (Option Int)))) => [(e_Listed false) trail, (eDN true (n2 nI nI) (eO eI)) prices, .gone, .gone, .gone]) (eg_f (x_newN (nk := (n2 nI nI)) (a := (eO eI)))) (fun _ => rfl) (fun (prices : (List ((Int × Int) × (Option Int)))) => (b_for (fun (s3_ : (List ((Int × Int) × (Option Int)))) => [(e_Listed false) trail, (eDN true (n2 nI nI) (eO eI)) s3_, .gone, .gone, .gone]) prices (fun (s3_ : (List ((Int × Int) × (Option Int)))) (back : Int) => [(e_Listed false) trail, (eDN true (n2 nI nI) (eO eI)) s3_, eI back, .gone, .gone]) (ei_rng1 (x_m2 o2_addI (x_lookF (fun x => rfl) T_Listed_last_at (ev_get (e := (e_Listed false)) (x := trail) rfl) ea_nil) (x_k eI (1) rfl))) rfl (fun _ _ => rfl) (fun (s3_ : (List ((Int × Int) × (Option Int)))) (back : Int) => (b_asg (fun (here : (List (Int × Int))) => [(e_Listed false) trail, (eDN true (n2 nI nI) (eO eI)) s3_, eI back, (eL false (e2 eI eI)) here, .gone]) (eg_f (x_cold (x_look (fun x => rfl) T_Listed_nodes_at (ev_get (e := (e_Listed false)) (x := trail) rfl) (ea_cons (x_m2 o2_subI (x_lookF (fun x => rfl) T_Listed_last_at (ev_get (e := (e_Listed false)) (x := trail) rfl) ea_nil) (x_v eI back rfl)) ea_nil)))) (fun _ => rfl) (fun (here : (List (Int × Int))) => (b_for (fun (s6_ : (List ((Int × Int) × (Option Int)))) => [(e_Listed false) trail, (eDN true (n2 nI nI) (eO eI)) s6_, eI back, (eL false (e2 eI eI)) here, .gone]) s3_ (fun (s6_ : (List ((Int × Int) × (Option Int)))) (node : (Int × Int)) => [(e_Listed false) trail, (eDN true (n2 nI nI) (eO eI)) s6_, eI back, (eL false (e2 eI eI)) here, (e2 eI eI) node]) (ei_it (x_v (eL false (e2 eI eI)) here rfl)) rfl (fun _ _ => rfl) (fun (s6_ : (List ((Int × Int) × (Option Int)))) (node : (Int × Int)) => (b_dputN (av := (eO eI)) (v := fun u7_ => u7_) (xs := fun u7_ => s6_) (fun p15_ => [(e_Listed false) trail, (eDN true (n2 nI nI) (eO eI)) p15_.2, eI back, (eL false (e2 eI eI)) here, (e2 eI eI) node]) (eg_f (x_map (e := eU) (f := (eO eI)) (fun _ => none) (fun _ => rfl) (x_k eU () rfl))) (fun _ => rfl) (fun _ => rfl) (fun u7_ => (x_v (e2 eI eI) node rfl)) (fun _ => rfl) (fun p15_ => (b_join (fun (s9_ : (List ((Int × Int) × (Option Int)))) => [(e_Listed false) trail, (eDN true (n2 nI nI) (eO eI)) s9_, eI back, (eL false (e2 eI eI)) here, (e2 eI eI) node]) (et_tru (x_lookF (fun x => rfl) T_Listed_is_end (ev_get (e := (e_Listed false)) (x := trail) rfl) (ea_cons (x_v (e2 eI eI) node rfl) ea_nil))) (b_dputN (av := (eO eI)) (v := fun u10_ => u10_) (xs := fun u10_ => p15_.2) (fun p12_ => [(e_Listed false) trail, (eDN true (n2 nI nI) (eO eI)) p12_.2, eI back, (eL false (e2 eI eI)) here, (e2 eI eI) node]) (eg_f (x_map (e := eI) (f := (eO eI)) some (fun _ => rfl) (x_k eI (0) rfl))) (fun _ => rfl) (fun _ => rfl) (fun u10_ => (x_v (e2 eI eI) node rfl)) (fun _ => rfl) (fun p12_ => (b_nil (t := p12_.2) ⟨rfl, rfl⟩))) (b_nil (t := p15_.2) ⟨rfl, rfl⟩) (fun (s9_ : (List ((Int × Int) × (Option Int)))) => (b_nil (t := s9_) ⟨rfl, rfl⟩)))))) (fun (s6_ : (List ((Int × Int) × (Option Int)))) => (b_expr (eg_lend (x := s6_) (env := fun r17_ => [(e_Listed false) trail, (eDN true (n2 nI nI) (eO eI)) r17_, eI back, (eL false (e2 eI eI)) here, .gone]) T_settle rfl (ea_cons (x_v (e_Listed false) trail rfl) ea_nil) (ea_cons (x_v (eL false (e2 eI eI)) here rfl) ea_nil) (fun _ => rfl)) (fun (u18_ : (List ((Int × Int) × (Option Int)))) => (b_nil (t := u18_) ⟨rfl, rfl⟩)))))))) (fun (s3_ : (List ((Int × Int) × (Option Int)))) => (b_ret (k := fun (u19_ : (List ((Int × Int) × (Option Int)))) => u19_) (eg_mv (eDN true (n2 nI nI) (eO eI)) s3_ [(e_Listed false) trail, .gone, .gone, .gone, .gone] rfl rfl) (fun u19_ => ⟨.inl rfl, rfl⟩))))))
  refine run_T (n := 5) (kp := [true]) (m := m_priced) (ds := [(e_Listed false) trail]) rfl hb ?_
  first
    | (simp -implicitDefEqProofs only [t_priced_d, Option.bind_assoc, Option.bind_some, bind_same] at h ⊢; exact h)
    | (simp -implicitDefEqProofs only [t_priced_d, Option.bind_assoc, Option.bind_some, bind_same] at h; exact h)
    | exact h
    | (simp [t_priced_d] at h ⊢; exact h)
theorem T_priced : Tf (τ := OListed × Unit) (fun t => [(e_Listed false) t.1]) (eDN true (n2 nI nI) (eO eI)) F_priced (fun t => t_priced_d t.1) := fun t r h => ⟨_, L_priced t.1 h⟩
theorem L_first_least  (trail : OListed) (prices : (List ((Int × Int) × (Option Int)))) (node : (Int × Int)) {r : (Option (Ts × (Int × Int)))} (h : t_first_least_c trail prices node = some r) : F_first_least [(e_Listed false) trail, (eDN false (n2 nI nI) (eO eI)) prices, (e2 eI eI) node] = some ((eO (e2 eS (e2 eI eI))) r, (fun _ => [(e_Listed false) trail, (eDN false (n2 nI nI) (eO eI)) prices, (e2 eI eI) node]) r) := by
  have hb : Bk (Qf (eO (e2 eS (e2 eI eI))) [true, true, true] (fun _ => [(e_Listed false) trail, (eDN false (n2 nI nI) (eO eI)) prices, (e2 eI eI) node])) m_first_least [(e_Listed false) trail, (eDN false (n2 nI nI) (eO eI)) prices, (e2 eI eI) node, .gone, .gone, .gone] _ := (b_forR (fun (s2_ : Unit) => [(e_Listed false) trail, (eDN false (n2 nI nI) (eO eI)) prices, (e2 eI eI) node, .gone, .gone, .gone]) () (fun (s2_ : Unit) (x3_ : (Int × Ts × (Int × Int))) => [(e_Listed false) trail, (eDN false (n2 nI nI) (eO eI)) prices, (e2 eI eI) node, eI x3_.1, eS x3_.2.1, (e2 eI eI) x3_.2.2]) (ei_it (x_cold (x_look (fun x => rfl) T_Listed_moves_from (ev_get (e := (e_Listed false)) (x := trail) rfl) (ea_cons (x_v (e2 eI eI) node rfl) ea_nil)))) rfl (fun _ _ => rfl) (fun (s2_ : Unit) (x3_ : (Int × Ts × (Int × Int))) => (b_ifT (et_and (et_b (x_m2 o2_nisN (x_m2 (o2_ixN (o := false) (ek := (e2 eI eI)) (nk := (n2 nI nI)) (e := (eO eI))) (x_v (eDN false (n2 nI nI) (eO eI)) prices rfl) (x_v (e2 eI eI) x3_.2.2 rfl)) (x_k eU () rfl))) (et_b (x_m2 (o2_eq (e' := (eO eI)) (by decide)) (x_map (e := eI) (f := (eO eI)) some (fun _ => rfl) (x_m2 o2_addI (x_v eI x3_.1 rfl) (x_un (x_m2 (o2_ixN (o := false) (ek := (e2 eI eI)) (nk := (n2 nI nI)) (e := (eO eI))) (x_v (eDN false (n2 nI nI) (eO eI)) prices rfl) (x_v (e2 eI eI) x3_.2.2 rfl))))) (x_m2 (o2_ixN (o := false) (ek := (e2 eI eI)) (nk := (n2 nI nI)) (e := (eO eI))) (x_v (eDN false (n2 nI nI) (eO eI)) prices rfl) (x_v (e2 eI eI) node rfl))))) (b_ret (k := fun (u10_ : (Option (Ts × (Int × Int)))) => (.rt u10_ : (St Unit (Option (Ts × (Int × Int)))))) (eg_f (x_map (e := (e2 eS (e2 eI eI))) (f := (eO (e2 eS (e2 eI eI)))) some (fun _ => rfl) (x_tup (f := (e2 eS (e2 eI eI))) (fun t : Ts × (Int × Int) × Unit => (t.1, t.2.1)) (ea_cons (x_v eS x3_.2.1 rfl) (ea_cons (x_v (e2 eI eI) x3_.2.2 rfl) ea_nil)) (fun _ => rfl) (fun _ => (by decide : 2 ≤ LIM))))) (fun u10_ => ⟨rfl, ⟨rfl, ⟨.inl rfl, rfl⟩⟩⟩)) (b_nil (t := (.nx () : (St Unit (Option (Ts × (Int × Int)))))) ⟨rfl, rfl⟩))) (fun (s2_ : Unit) => (b_ret (k := fun (u12_ : (Option (Ts × (Int × Int)))) => u12_) (eg_f (x_map (e := eU) (f := (eO (e2 eS (e2 eI eI)))) (fun _ => none) (fun _ => rfl) (x_k eU () rfl))) (fun u12_ => ⟨.inl rfl, rfl⟩))))
  refine run_T (n := 6) (kp := [true, true, true]) (m := m_first_least) (ds := [(e_Listed false) trail, (eDN false (n2 nI nI) (eO eI)) prices, (e2 eI eI) node]) rfl hb ?_
  first
    | (simp -implicitDefEqProofs only [t_first_least_c, Option.bind_assoc, Option.bind_some, bind_same] at h ⊢; exact h)
    | (simp -implicitDefEqProofs only [t_first_least_c, Option.bind_assoc, Option.bind_some, bind_same] at h; exact h)
    | exact h
    | (simp [t_first_least_c] at h ⊢; exact h)
theorem T_first_least : Tf (τ := OListed × (List ((Int × Int) × (Option Int))) × (Int × Int) × Unit) (fun t => [(e_Listed false) t.1, (eDN false (n2 nI nI) (eO eI)) t.2.1, (e2 eI eI) t.2.2.1]) (eO (e2 eS (e2 eI eI))) F_first_least (fun t => t_first_least_c t.1 t.2.1 t.2.2.1) := fun t r h => ⟨_, L_first_least t.1 t.2.1 t.2.2.1 h⟩
theorem L_way_of  (trail : OListed) {r : (Option ((Option Int) × (List Ts)))} (h : t_way_of_c trail = some r) : F_way_of [(e_Listed false) trail] = some ((eO (e2 (eO eI) (eL true eS))) r, (fun _ => [(e_Listed false) trail]) r) := by
  have hb : Bk (Qf (eO (e2 (eO eI) (eL true eS))) [true] (fun _ => [(e_Listed false) trail])) m_way_of [(e_Listed false) trail, .gone, .gone, .gone, .gone] _ := (b_asg (fun (prices : (List ((Int × Int) × (Option Int)))) => [(e_Listed false) trail, (eDN false (n2 nI nI) (eO eI)) prices, .gone, .gone, .gone]) (eg_f (x_cold (x_call T_priced (ea_cons (x_v (e_Listed false) trail rfl) ea_nil)))) (fun _ => rfl) (fun (prices : (List ((Int × Int) × (Option Int)))) => (b_asg (fun (node : (Int × Int)) => [(e_Listed false) trail, (eDN false (n2 nI nI) (eO eI)) prices, (e2 eI eI) node, .gone, .gone]) (eg_f (x_look (fun x => rfl) T_Listed_first_node (ev_get (e := (e_Listed false)) (x := trail) rfl) ea_nil)) (fun _ => rfl) (fun (node : (Int × Int)) => (b_ifT (et_b (x_m2 o2_isN (x_m2 (o2_ixN (o := false) (ek := (e2 eI eI)) (nk := (n2 nI nI)) (e := (eO eI))) (x_v (eDN false (n2 nI nI) (eO eI)) prices rfl) (x_v (e2 eI eI) node rfl)) (x_k eU () rfl))) (b_ret (k := fun (u2_ : (Option ((Option Int) × (List Ts)))) => u2_) (eg_f (x_map (e := eU) (f := (eO (e2 (eO eI) (eL true eS)))) (fun _ => none) (fun _ => rfl) (x_k eU () rfl))) (fun u2_ => ⟨rfl, ⟨.inl rfl, rfl⟩⟩)) (b_asg (fun (names : (List Ts)) => [(e_Listed false) trail, (eDN false (n2 nI nI) (eO eI)) prices, (e2 eI eI) node, (eL true eS) names, .gone]) (eg_f (x_lst (f := (eL true eS)) (fun t : Unit => ([] : (List Ts))) ea_nil (fun _ => rfl) (fun _ => (by decide : 0 ≤ LIM)))) (fun _ => rfl) (fun (names : (List Ts)) => (b_while (fun (s3_ : ((Int × Int) × (List Ts))) => [(e_Listed false) trail, (eDN false (n2 nI nI) (eO eI)) prices, (e2 eI eI) s3_.1, (eL true eS) s3_.2, .gone]) (node, names) rfl (fun (s3_ : ((Int × Int) × (List Ts))) => (et_or (et_not (et_tru (x_lookF (fun x => rfl) T_Listed_is_end (ev_get (e := (e_Listed false)) (x := trail) rfl) (ea_cons (x_v (e2 eI eI) s3_.1 rfl) ea_nil)))) (et_b (x_m2 o2_gtI (x_un (x_m2 (o2_ixN (o := false) (ek := (e2 eI eI)) (nk := (n2 nI nI)) (e := (eO eI))) (x_v (eDN false (n2 nI nI) (eO eI)) prices rfl) (x_v (e2 eI eI) s3_.1 rfl))) (x_k eI (0) rfl))))) (fun (s3_ : ((Int × Int) × (List Ts))) => (b_asg (fun (u7_ : (Ts × (Int × Int))) => [(e_Listed false) trail, (eDN false (n2 nI nI) (eO eI)) prices, (e2 eI eI) u7_.2, (eL true eS) s3_.2, eS u7_.1]) (eg_r (x_un (x_call T_first_least (ea_cons (x_v (e_Listed false) trail rfl) (ea_cons (x_v (eDN false (n2 nI nI) (eO eI)) prices rfl) (ea_cons (x_v (e2 eI eI) s3_.1 rfl) ea_nil)))))) (fun _ => rfl) (fun (u7_ : (Ts × (Int × Int))) => (b_expr (eg_app (a := eS) (xs := s3_.2) (env := fun r_ => [(e_Listed false) trail, (eDN false (n2 nI nI) (eO eI)) prices, (e2 eI eI) u7_.2, (eL true eS) r_, eS u7_.1]) rfl (x_fr (x_v eS u7_.1 rfl)) (fun _ => rfl)) (fun (u8_ : (List Ts)) => (b_nil (t := (u7_.2, u8_)) ⟨rfl, rfl⟩)))))) (fun (s3_ : ((Int × Int) × (List Ts))) => (b_ret (k := fun (u13_ : (((Option Int) × (List Ts)) × (Option Int) × (List Ts) × Unit)) => (some u13_.1)) (eg_tupO (f := (e2 (eO eI) (eL true eS))) (fun (t12_ : (Option Int) × (List Ts) × Unit) => (t12_.1, t12_.2.1)) (eao_cons (eg_r (x_m2 (o2_ixN (o := false) (ek := (e2 eI eI)) (nk := (n2 nI nI)) (e := (eO eI))) (x_v (eDN false (n2 nI nI) (eO eI)) prices rfl) (x_look (fun x => rfl) T_Listed_first_node (ev_get (e := (e_Listed false)) (x := trail) rfl) ea_nil))) (fun (r10_ : (Option Int)) => (eao_cons (eg_mv (eL true eS) s3_.2 [(e_Listed false) trail, (eDN false (n2 nI nI) (eO eI)) prices, (e2 eI eI) s3_.1, .gone, .gone] rfl rfl) (fun (r11_ : (List Ts)) => eao_nil)))) (fun _ => rfl) (fun _ => (by decide : 2 ≤ LIM))) (fun u13_ => ⟨.inl rfl, rfl⟩)))))))))))
  refine run_T (n := 5) (kp := [true]) (m := m_way_of) (ds := [(e_Listed false) trail]) rfl hb ?_
  first
    | (simp -implicitDefEqProofs only [t_way_of_c, Option.bind_assoc, Option.bind_some, bind_same] at h ⊢; exact h)
    | (simp -implicitDefEqProofs only [t_way_of_c, Option.bind_assoc, Option.bind_some, bind_same] at h; exact h)
    | exact h
    | (simp [t_way_of_c] at h ⊢; exact h)
theorem T_way_of : Tf (τ := OListed × Unit) (fun t => [(e_Listed false) t.1]) (eO (e2 (eO eI) (eL true eS))) F_way_of (fun t => t_way_of_c t.1) := fun t r h => ⟨_, L_way_of t.1 h⟩
theorem L_walked  (trail : OListed) (names : (List Ts)) {r : (Option Int)} (h : t_walked trail names = some r) : F_walked [(e_Listed false) trail, (eL false eS) names] = some ((eO eI) r, (fun _ => [(e_Listed false) trail, (eL false eS) names]) r) := by
  have hb : Bk (Qf (eO eI) [true, true] (fun _ => [(e_Listed false) trail, (eL false eS) names])) m_walked [(e_Listed false) trail, (eL false eS) names, .gone, .gone, .gone, .gone, .gone] _ := (b_asg (fun (total : Int) => [(e_Listed false) trail, (eL false eS) names, eI total, .gone, .gone, .gone, .gone]) (eg_f (x_k eI (0) rfl)) (fun _ => rfl) (fun (total : Int) => (b_asg (fun (node : (Int × Int)) => [(e_Listed false) trail, (eL false eS) names, eI total, (e2 eI eI) node, .gone, .gone, .gone]) (eg_f (x_look (fun x => rfl) T_Listed_first_node (ev_get (e := (e_Listed false)) (x := trail) rfl) ea_nil)) (fun _ => rfl) (fun (node : (Int × Int)) => (b_forR (fun (s1_ : (Int × (Int × Int))) => [(e_Listed false) trail, (eL false eS) names, eI s1_.1, (e2 eI eI) s1_.2, .gone, .gone, .gone]) (total, node) (fun (s1_ : (Int × (Int × Int))) (name : Ts) => [(e_Listed false) trail, (eL false eS) names, eI s1_.1, (e2 eI eI) s1_.2, eS name, .gone, .gone]) (ei_it (x_v (eL false eS) names rfl)) rfl (fun _ _ => rfl) (fun (s1_ : (Int × (Int × Int))) (name : Ts) => (b_asgC (fun (found : (List (Int × Ts × (Int × Int)))) => [(e_Listed false) trail, (eL false eS) names, eI s1_.1, (e2 eI eI) s1_.2, eS name, (eL false (e3 eI eS (e2 eI eI))) found, .gone]) (eg_f (x_comp (fun (move : (Int × Ts × (Int × Int))) => [(e_Listed false) trail, (eL false eS) names, eI s1_.1, (e2 eI eI) s1_.2, eS name, .gone, (e3 eI eS (e2 eI eI)) move]) (ei_itV (x_cold (x_look (fun x => rfl) T_Listed_moves_from (ev_get (e := (e_Listed false)) (x := trail) rfl) (ea_cons (x_v (e2 eI eI) s1_.2 rfl) ea_nil)))) (fun _ => rfl) (fun (move : (Int × Ts × (Int × Int))) => (et_b (x_m2 (o2_eq (e' := eS) (by decide)) (x_pr (f := eS) 1 (fun t : (Int × Ts × (Int × Int)) => t.2.1) (fun _ => rfl) (x_v (e3 eI eS (e2 eI eI)) move rfl)) (x_v eS name rfl)))) (fun (move : (Int × Ts × (Int × Int))) => (x_v (e3 eI eS (e2 eI eI)) move rfl)))) (fun _ => rfl) (fun _ => rfl) (fun (found : (List (Int × Ts × (Int × Int)))) => (b_ifT (et_b (x_m2 (o2_eq (e' := (eL false (e3 eI eS (e2 eI eI)))) (by decide)) (x_v (eL false (e3 eI eS (e2 eI eI))) found rfl) (x_lst (f := (eL true (e3 eI eS (e2 eI eI)))) (fun t : Unit => ([] : (List (Int × Ts × (Int × Int))))) ea_nil (fun _ => rfl) (fun _ => (by decide : 0 ≤ LIM))))) (b_ret (k := fun (u5_ : (Option Int)) => (.rt u5_ : (St (Int × (Int × Int)) (Option Int)))) (eg_f (x_map (e := eU) (f := (eO eI)) (fun _ => none) (fun _ => rfl) (x_k eU () rfl))) (fun u5_ => ⟨rfl, ⟨rfl, ⟨.inl rfl, rfl⟩⟩⟩)) (b_asg (fun (total : Int) => [(e_Listed false) trail, (eL false eS) names, eI total, (e2 eI eI) s1_.2, eS name, (eL false (e3 eI eS (e2 eI eI))) found, .gone]) (eg_f (x_m2 o2_addI (x_v eI s1_.1 rfl) (x_pr (f := eI) 0 (fun t : (Int × Ts × (Int × Int)) => t.1) (fun _ => rfl) (x_m2 o2_ixL (x_v (eL false (e3 eI eS (e2 eI eI))) found rfl) (x_k eI (0) rfl))))) (fun _ => rfl) (fun (total : Int) => (b_asg (fun (node : (Int × Int)) => [(e_Listed false) trail, (eL false eS) names, eI total, (e2 eI eI) node, eS name, (eL false (e3 eI eS (e2 eI eI))) found, .gone]) (eg_r (x_pr (f := (e2 eI eI)) 2 (fun t : (Int × Ts × (Int × Int)) => t.2.2) (fun _ => rfl) (x_m2 o2_ixL (x_v (eL false (e3 eI eS (e2 eI eI))) found rfl) (x_k eI (0) rfl)))) (fun _ => rfl) (fun (node : (Int × Int)) => (b_nil (t := (.nx (total, node) : (St (Int × (Int × Int)) (Option Int)))) ⟨rfl, rfl⟩))))))))) (fun (s1_ : (Int × (Int × Int))) => (b_ifT (et_not (et_tru (x_lookF (fun x => rfl) T_Listed_is_end (ev_get (e := (e_Listed false)) (x := trail) rfl) (ea_cons (x_v (e2 eI eI) s1_.2 rfl) ea_nil)))) (b_ret (k := fun (u10_ : (Option Int)) => u10_) (eg_f (x_map (e := eU) (f := (eO eI)) (fun _ => none) (fun _ => rfl) (x_k eU () rfl))) (fun u10_ => ⟨rfl, ⟨.inl rfl, rfl⟩⟩)) (b_ret (k := fun (u11_ : (Option Int)) => u11_) (eg_r (x_map (e := eI) (f := (eO eI)) some (fun _ => rfl) (x_v eI s1_.1 rfl))) (fun u11_ => ⟨.inl rfl, rfl⟩)))))))))
  refine run_T (n := 7) (kp := [true, true]) (m := m_walked) (ds := [(e_Listed false) trail, (eL false eS) names]) rfl hb ?_
  first
    | (simp -implicitDefEqProofs only [t_walked, Option.bind_assoc, Option.bind_some, bind_same] at h ⊢; exact h)
    | (simp -implicitDefEqProofs only [t_walked, Option.bind_assoc, Option.bind_some, bind_same] at h; exact h)
    | exact h
    | (simp [t_walked] at h ⊢; exact h)
theorem T_walked : Tf (τ := OListed × (List Ts) × Unit) (fun t => [(e_Listed false) t.1, (eL false eS) t.2.1]) (eO eI) F_walked (fun t => t_walked t.1 t.2.1) := fun t r h => ⟨_, L_walked t.1 t.2.1 h⟩
theorem L_all_nodes  (trail : OListed) {r : (List (Int × Int))} (h : t_all_nodes trail = some r) : F_all_nodes [(e_Listed false) trail] = some ((eL true (e2 eI eI)) r, (fun _ => [(e_Listed false) trail]) r) := by
  have hb : Bk (Qf (eL true (e2 eI eI)) [true] (fun _ => [(e_Listed false) trail])) m_all_nodes [(e_Listed false) trail, .gone, .gone] _ := (b_asg (fun (found : (List (Int × Int))) => [(e_Listed false) trail, (eL true (e2 eI eI)) found, .gone]) (eg_f (x_lst (f := (eL true (e2 eI eI))) (fun t : Unit => ([] : (List (Int × Int)))) ea_nil (fun _ => rfl) (fun _ => (by decide : 0 ≤ LIM)))) (fun _ => rfl) (fun (found : (List (Int × Int))) => (b_for (fun (s3_ : (List (Int × Int))) => [(e_Listed false) trail, (eL true (e2 eI eI)) s3_, .gone]) found (fun (s3_ : (List (Int × Int))) (at_ : Int) => [(e_Listed false) trail, (eL true (e2 eI eI)) s3_, eI at_]) (ei_rng1 (x_m2 o2_addI (x_lookF (fun x => rfl) T_Listed_last_at (ev_get (e := (e_Listed false)) (x := trail) rfl) ea_nil) (x_k eI (1) rfl))) rfl (fun _ _ => rfl) (fun (s3_ : (List (Int × Int))) (at_ : Int) => (b_expr (eg_ext (a := (e2 eI eI)) (xs := fun r4_ => s3_) (ys := fun r4_ => r4_) (env := fun p_ => [(e_Listed false) trail, (eL true (e2 eI eI)) p_.2, eI at_]) rfl (eg_f (x_look (fun x => rfl) T_Listed_nodes_at (ev_get (e := (e_Listed false)) (x := trail) rfl) (ea_cons (x_v eI at_ rfl) ea_nil))) (fun _ => rfl) (fun _ => rfl) (fun _ => rfl)) (fun (u6_ : ((List (Int × Int)) × (List (Int × Int)))) => (b_nil (t := u6_.2) ⟨rfl, rfl⟩)))) (fun (s3_ : (List (Int × Int))) => (b_ret (k := fun (u7_ : (List (Int × Int))) => u7_) (eg_mv (eL true (e2 eI eI)) s3_ [(e_Listed false) trail, .gone, .gone] rfl rfl) (fun u7_ => ⟨.inl rfl, rfl⟩))))))
  refine run_T (n := 3) (kp := [true]) (m := m_all_nodes) (ds := [(e_Listed false) trail]) rfl hb ?_
  first
    | (simp -implicitDefEqProofs only [t_all_nodes, Option.bind_assoc, Option.bind_some, bind_same] at h ⊢; exact h)
    | (simp -implicitDefEqProofs only [t_all_nodes, Option.bind_assoc, Option.bind_some, bind_same] at h; exact h)
    | exact h
    | (simp [t_all_nodes] at h ⊢; exact h)
theorem T_all_nodes : Tf (τ := OListed × Unit) (fun t => [(e_Listed false) t.1]) (eL true (e2 eI eI)) F_all_nodes (fun t => t_all_nodes t.1) := fun t r h => ⟨_, L_all_nodes t.1 h⟩
theorem L_is_price  (thing : (Option Int)) {r : Bool} (h : t_is_price thing = some r) : F_is_price [(eO eI) thing] = some (eB r, (fun _ => [(eO eI) thing]) r) := by
  have hb : Bk (Qf eB [true] (fun _ => [(eO eI) thing])) m_is_price [(eO eI) thing] _ := (b_ifT (et_b (x_m2 o2_isN (x_v (eO eI) thing rfl) (x_k eU () rfl))) (b_ret (k := fun (u1_ : Bool) => u1_) (eg_f (x_k eB true rfl)) (fun u1_ => ⟨rfl, ⟨.inl rfl, rfl⟩⟩)) (b_ret (k := fun (u2_ : Bool) => u2_) (eg_f (x_andT (x_isO kit_int_int kit_NoneType_int (x_v (eO eI) thing rfl)) (x_not (x_isO kit_int_bool kit_NoneType_bool (x_v (eO eI) thing rfl))))) (fun u2_ => ⟨.inl rfl, rfl⟩)))
  refine run_T (n := 1) (kp := [true]) (m := m_is_price) (ds := [(eO eI) thing]) rfl hb ?_
  first
    | (simp -implicitDefEqProofs only [t_is_price, Option.bind_assoc, Option.bind_some, bind_same] at h ⊢; exact h)
    | (simp -implicitDefEqProofs only [t_is_price, Option.bind_assoc, Option.bind_some, bind_same] at h; exact h)
    | exact h
    | (simp [t_is_price] at h ⊢; exact h)
theorem T_is_price : Tf (τ := (Option Int) × Unit) (fun t => [(eO eI) t.1]) eB F_is_price (fun t => t_is_price t.1) := fun t r h => ⟨_, L_is_price t.1 h⟩
theorem L_fair_at  (trail : OListed) (prices : (List ((Int × Int) × (Option Int)))) (node : (Int × Int)) {r : Bool} (h : t_fair_at trail prices node = some r) : F_fair_at [(e_Listed false) trail, (eDN false (n2 nI nI) (eO eI)) prices, (e2 eI eI) node] = some (eB r, (fun _ => [(e_Listed false) trail, (eDN false (n2 nI nI) (eO eI)) prices, (e2 eI eI) node]) r) := by
  have hb : Bk (Qf eB [true, true, true] (fun _ => [(e_Listed false) trail, (eDN false (n2 nI nI) (eO eI)) prices, (e2 eI eI) node])) m_fair_at [(e_Listed false) trail, (eDN false (n2 nI nI) (eO eI)) prices, (e2 eI eI) node, .gone, .gone, .gone, .gone, .gone] _ := (b_asg (fun (price : (Option Int)) => [(e_Listed false) trail, (eDN false (n2 nI nI) (eO eI)) prices, (e2 eI eI) node, (eO eI) price, .gone, .gone, .gone, .gone]) (eg_r (x_m2 (o2_ixN (o := false) (ek := (e2 eI eI)) (nk := (n2 nI nI)) (e := (eO eI))) (x_v (eDN false (n2 nI nI) (eO eI)) prices rfl) (x_v (e2 eI eI) node rfl))) (fun _ => rfl) (fun (price : (Option Int)) => (b_ifT (et_and (et_tru (x_lookF (fun x => rfl) T_Listed_is_end (ev_get (e := (e_Listed false)) (x := trail) rfl) (ea_cons (x_v (e2 eI eI) node rfl) ea_nil))) (et_or (et_b (x_m2 o2_isN (x_v (eO eI) price rfl) (x_k eU () rfl))) (et_b (x_m2 o2_gtI (x_un (x_v (eO eI) price rfl)) (x_k eI (0) rfl))))) (b_ret (k := fun (u3_ : Bool) => u3_) (eg_f (x_k eB false rfl)) (fun u3_ => ⟨rfl, ⟨.inl rfl, rfl⟩⟩)) (b_forR (fun (s5_ : Unit) => [(e_Listed false) trail, (eDN false (n2 nI nI) (eO eI)) prices, (e2 eI eI) node, (eO eI) price, .gone, .gone, .gone, .gone]) () (fun (s5_ : Unit) (x6_ : (Int × Ts × (Int × Int))) => [(e_Listed false) trail, (eDN false (n2 nI nI) (eO eI)) prices, (e2 eI eI) node, (eO eI) price, eI x6_.1, eS x6_.2.1, (e2 eI eI) x6_.2.2, .gone]) (ei_it (x_cold (x_look (fun x => rfl) T_Listed_moves_from (ev_get (e := (e_Listed false)) (x := trail) rfl) (ea_cons (x_v (e2 eI eI) node rfl) ea_nil)))) rfl (fun _ _ => rfl) (fun (s5_ : Unit) (x6_ : (Int × Ts × (Int × Int))) => (b_asg (fun (rest : (Option Int)) => [(e_Listed false) trail, (eDN false (n2 nI nI) (eO eI)) prices, (e2 eI eI) node, (eO eI) price, eI x6_.1, eS x6_.2.1, (e2 eI eI) x6_.2.2, (eO eI) rest]) (eg_r (x_m2 (o2_ixN (o := false) (ek := (e2 eI eI)) (nk := (n2 nI nI)) (e := (eO eI))) (x_v (eDN false (n2 nI nI) (eO eI)) prices rfl) (x_v (e2 eI eI) x6_.2.2 rfl))) (fun _ => rfl) (fun (rest : (Option Int)) => (b_ifT (et_and (et_b (x_m2 o2_nisN (x_v (eO eI) rest rfl) (x_k eU () rfl))) (et_or (et_b (x_m2 o2_isN (x_v (eO eI) price rfl) (x_k eU () rfl))) (et_b (x_m2 o2_gtI (x_un (x_v (eO eI) price rfl)) (x_m2 o2_addI (x_v eI x6_.1 rfl) (x_un (x_v (eO eI) rest rfl))))))) (b_ret (k := fun (u10_ : Bool) => (.rt u10_ : (St Unit Bool))) (eg_f (x_k eB false rfl)) (fun u10_ => ⟨rfl, ⟨rfl, ⟨.inl rfl, rfl⟩⟩⟩)) (b_nil (t := (.nx () : (St Unit Bool))) ⟨rfl, rfl⟩))))) (fun (s5_ : Unit) => (b_ret (k := fun (u12_ : Bool) => u12_) (eg_f (x_k eB true rfl)) (fun u12_ => ⟨.inl rfl, rfl⟩)))))))
  refine run_T (n := 8) (kp := [true, true, true]) (m := m_fair_at) (ds := [(e_Listed false) trail, (eDN false (n2 nI nI) (eO eI)) prices, (e2 eI eI) node]) rfl hb ?_
  first
    | (simp -implicitDefEqProofs only [t_fair_at, Option.bind_assoc, Option.bind_some, bind_same] at h ⊢; exact h)
    | (simp -implicitDefEqProofs only [t_fair_at, Option.bind_assoc, Option.bind_some, bind_same] at h; exact h)
    | exact h
    | (simp [t_fair_at] at h ⊢; exact h)
theorem T_fair_at : Tf (τ := OListed × (List ((Int × Int) × (Option Int))) × (Int × Int) × Unit) (fun t => [(e_Listed false) t.1, (eDN false (n2 nI nI) (eO eI)) t.2.1, (e2 eI eI) t.2.2.1]) eB F_fair_at (fun t => t_fair_at t.1 t.2.1 t.2.2.1) := fun t r h => ⟨_, L_fair_at t.1 t.2.1 t.2.2.1 h⟩
theorem L_fair  (trail : OListed) (prices : (List ((Int × Int) × (Option Int)))) {r : Bool} (h : t_fair trail prices = some r) : F_fair [(e_Listed false) trail, (eDN false (n2 nI nI) (eO eI)) prices] = some (eB r, (fun _ => [(e_Listed false) trail, (eDN false (n2 nI nI) (eO eI)) prices]) r) := by
  have hb : Bk (Qf eB [true, true] (fun _ => [(e_Listed false) trail, (eDN false (n2 nI nI) (eO eI)) prices])) m_fair [(e_Listed false) trail, (eDN false (n2 nI nI) (eO eI)) prices, .gone, .gone] _ := (b_asg (fun (nodes : (List (Int × Int))) => [(e_Listed false) trail, (eDN false (n2 nI nI) (eO eI)) prices, (eL false (e2 eI eI)) nodes, .gone]) (eg_f (x_cold (x_call T_all_nodes (ea_cons (x_v (e_Listed false) trail rfl) ea_nil)))) (fun _ => rfl) (fun (nodes : (List (Int × Int))) => (b_ifT (et_orT (et_not (et_tru (x_isiN (k := true) (by decide +kernel) (x_v (eDN false (n2 nI nI) (eO eI)) prices rfl)))) (et_b (x_m2 (o2_ne (e' := eI) (by decide)) (x_a1 o1_lenN (x_v (eDN false (n2 nI nI) (eO eI)) prices rfl)) (x_a1 o1_lenL (x_v (eL false (e2 eI eI)) nodes rfl))))) (b_ret (k := fun (u1_ : Bool) => u1_) (eg_f (x_k eB false rfl)) (fun u1_ => ⟨rfl, ⟨.inl rfl, rfl⟩⟩)) (b_forR (fun (s2_ : Unit) => [(e_Listed false) trail, (eDN false (n2 nI nI) (eO eI)) prices, (eL false (e2 eI eI)) nodes, .gone]) () (fun (s2_ : Unit) (node : (Int × Int)) => [(e_Listed false) trail, (eDN false (n2 nI nI) (eO eI)) prices, (eL false (e2 eI eI)) nodes, (e2 eI eI) node]) (ei_it (x_v (eL false (e2 eI eI)) nodes rfl)) rfl (fun _ _ => rfl) (fun (s2_ : Unit) (node : (Int × Int)) => (b_ifT (et_or (et_b (x_m2 o2_ninN (x_v (e2 eI eI) node rfl) (x_v (eDN false (n2 nI nI) (eO eI)) prices rfl))) (et_not (et_tru (x_call T_is_price (ea_cons (x_m2 (o2_ixN (o := false) (ek := (e2 eI eI)) (nk := (n2 nI nI)) (e := (eO eI))) (x_v (eDN false (n2 nI nI) (eO eI)) prices rfl) (x_v (e2 eI eI) node rfl)) ea_nil))))) (b_ret (k := fun (u5_ : Bool) => (.rt u5_ : (St Unit Bool))) (eg_f (x_k eB false rfl)) (fun u5_ => ⟨rfl, ⟨rfl, ⟨.inl rfl, rfl⟩⟩⟩)) (b_nil (t := (.nx () : (St Unit Bool))) ⟨rfl, rfl⟩))) (fun (s2_ : Unit) => (b_forR (fun (s7_ : Unit) => [(e_Listed false) trail, (eDN false (n2 nI nI) (eO eI)) prices, (eL false (e2 eI eI)) nodes, .gone]) () (fun (s7_ : Unit) (node : (Int × Int)) => [(e_Listed false) trail, (eDN false (n2 nI nI) (eO eI)) prices, (eL false (e2 eI eI)) nodes, (e2 eI eI) node]) (ei_it (x_v (eL false (e2 eI eI)) nodes rfl)) rfl (fun _ _ => rfl) (fun (s7_ : Unit) (node : (Int × Int)) => (b_ifT (et_not (et_tru (x_call T_fair_at (ea_cons (x_v (e_Listed false) trail rfl) (ea_cons (x_v (eDN false (n2 nI nI) (eO eI)) prices rfl) (ea_cons (x_v (e2 eI eI) node rfl) ea_nil)))))) (b_ret (k := fun (u9_ : Bool) => (.rt u9_ : (St Unit Bool))) (eg_f (x_k eB false rfl)) (fun u9_ => ⟨rfl, ⟨rfl, ⟨.inl rfl, rfl⟩⟩⟩)) (b_nil (t := (.nx () : (St Unit Bool))) ⟨rfl, rfl⟩))) (fun (s7_ : Unit) => (b_ret (k := fun (u11_ : Bool) => u11_) (eg_f (x_k eB true rfl)) (fun u11_ => ⟨.inl rfl, rfl⟩)))))))))
  refine run_T (n := 4) (kp := [true, true]) (m := m_fair) (ds := [(e_Listed false) trail, (eDN false (n2 nI nI) (eO eI)) prices]) rfl hb ?_
  first
    | (simp -implicitDefEqProofs only [t_fair, Option.bind_assoc, Option.bind_some, bind_same] at h ⊢; exact h)
    | (simp -implicitDefEqProofs only [t_fair, Option.bind_assoc, Option.bind_some, bind_same] at h; exact h)
    | exact h
    | (simp [t_fair] at h ⊢; exact h)
theorem T_fair : Tf (τ := OListed × (List ((Int × Int) × (Option Int))) × Unit) (fun t => [(e_Listed false) t.1, (eDN false (n2 nI nI) (eO eI)) t.2.1]) eB F_fair (fun t => t_fair t.1 t.2.1) := fun t r h => ⟨_, L_fair t.1 t.2.1 h⟩
theorem L_lw_cell_at  (script : (List Int)) (k : Int) {r : Int} (h : t_lw_cell script k = some r) : F_lw_cell_at [eC script, eI k] = some (eI r, (fun _ => [eC script, eI k]) r) := by
  have hb : Bk (Qf eI [true, true] (fun _ => [eC script, eI k])) m_lw_cell_at [eC script, eI k] _ := (b_ifT (et_b (x_m2 o2_ltI (x_v eI k rfl) (x_a1 o1_lenC (x_v eC script rfl)))) (b_retI (eg_r (x_m2 o2_ixC (x_v eC script rfl) (x_v eI k rfl))) (fun u1_ => ⟨rfl, ⟨.inl rfl, rfl⟩⟩)) (b_ret (k := fun (u2_ : Int) => u2_) (eg_f (x_k eI (0) rfl)) (fun u2_ => ⟨.inl rfl, rfl⟩)))
  refine run_T (n := 2) (kp := [true, true]) (m := m_lw_cell_at) (ds := [eC script, eI k]) rfl hb ?_
  first
    | (simp -implicitDefEqProofs only [t_lw_cell, Option.bind_assoc, Option.bind_some, bind_same] at h ⊢; exact h)
    | (simp -implicitDefEqProofs only [t_lw_cell, Option.bind_assoc, Option.bind_some, bind_same] at h; exact h)
    | exact h
    | (simp [t_lw_cell] at h ⊢; exact h)
theorem T_lw_cell_at : Tf (τ := (List Int) × Int × Unit) (fun t => [eC t.1, eI t.2.1]) eI F_lw_cell_at (fun t => t_lw_cell t.1 t.2.1) := fun t r h => ⟨_, L_lw_cell_at t.1 t.2.1 h⟩
theorem L_lw_mix  (cell : Int) (k : Int) {r : Int} (h : t_lw_mix_b cell k = some r) : F_lw_mix [eI cell, eI k] = some (eI r, (fun _ => [eI cell, eI k]) r) := by
  have hb : Bk (Qf eI [true, true] (fun _ => [eI cell, eI k])) m_lw_mix [eI cell, eI k, .gone, .gone, .gone] _ := (b_ifT (et_b (x_m2 o2_gtI (x_v eI cell rfl) (x_pow 10 18 1000000000000000000 (by decide)))) (b_asg (fun (rest : Int) => [eI cell, eI k, eI rest, .gone, .gone]) (eg_r (x_v eI cell rfl)) (fun _ => rfl) (fun (rest : Int) => (b_for (fun (s1_ : Int) => [eI cell, eI k, eI s1_, .gone, .gone]) rest (fun (s1_ : Int) (turn : Int) => [eI cell, eI k, eI s1_, eI turn, .gone]) (ei_rng1 (x_v eI k rfl)) rfl (fun _ _ => rfl) (fun (s1_ : Int) (turn : Int) => (b_asg (fun (rest : Int) => [eI cell, eI k, eI rest, eI turn, .gone]) (eg_f (x_fdivP 1000000000 (by decide) (x_v eI s1_ rfl) (x_pow 10 9 1000000000 (by decide)))) (fun _ => rfl) (fun (rest : Int) => (b_nil (t := rest) ⟨rfl, rfl⟩)))) (fun (s1_ : Int) => (b_ret (k := fun (u2_ : Int) => u2_) (eg_f (x_modP 1000000000 (by decide) (x_v eI s1_ rfl) (x_pow 10 9 1000000000 (by decide)))) (fun u2_ => ⟨rfl, ⟨.inl rfl, rfl⟩⟩)))))) (b_asg (fun (number : Int) => [eI cell, eI k, .gone, .gone, eI number]) (eg_f (x_m2 o2_addI (x_modP 2147483647 (by decide) (x_v eI cell rfl) (x_k eI (2147483647) rfl)) (x_k eI (7919) rfl))) (fun _ => rfl) (fun (number : Int) => (b_for (fun (s4_ : Int) => [eI cell, eI k, .gone, .gone, eI s4_]) number (fun (s4_ : Int) (turn : Int) => [eI cell, eI k, .gone, eI turn, eI s4_]) (ei_rng1 (x_m2 o2_addI (x_v eI k rfl) (x_k eI (2) rfl))) rfl (fun _ _ => rfl) (fun (s4_ : Int) (turn : Int) => (b_asg (fun (number : Int) => [eI cell, eI k, .gone, eI turn, eI number]) (eg_f (x_modP 2147483629 (by decide) (x_m2 o2_addI (x_mulR 48271 (by decide) (x_v eI s4_ rfl)) (x_k eI (104729) rfl)) (x_k eI (2147483629) rfl))) (fun _ => rfl) (fun (number : Int) => (b_nil (t := number) ⟨rfl, rfl⟩)))) (fun (s4_ : Int) => (b_retI (eg_f (x_fdivP 11 (by decide) (x_modP 998244353 (by decide) (x_m2 o2_mul (x_v eI s4_ rfl) (x_v eI s4_ rfl)) (x_k eI (998244353) rfl)) (x_k eI (11) rfl))) (fun u7_ => ⟨.inl rfl, rfl⟩)))))))
  refine run_T (n := 5) (kp := [true, true]) (m := m_lw_mix) (ds := [eI cell, eI k]) rfl hb ?_
  first
    | (simp -implicitDefEqProofs only [t_lw_mix_b, Option.bind_assoc, Option.bind_some, bind_same] at h ⊢; exact h)
    | (simp -implicitDefEqProofs only [t_lw_mix_b, Option.bind_assoc, Option.bind_some, bind_same] at h; exact h)
    | exact h
    | (simp [t_lw_mix_b] at h ⊢; exact h)
theorem T_lw_mix : Tf (τ := Int × Int × Unit) (fun t => [eI t.1, eI t.2.1]) eI F_lw_mix (fun t => t_lw_mix_b t.1 t.2.1) := fun t r h => ⟨_, L_lw_mix t.1 t.2.1 h⟩
theorem L_lw_whole  (thing : (Option Int)) {r : Bool} (h : t_lw_whole_c thing = some r) : F_lw_whole [(eO eI) thing] = some (eB r, (fun _ => [(eO eI) thing]) r) := by
  have hb : Bk (Qf eB [true] (fun _ => [(eO eI) thing])) m_lw_whole [(eO eI) thing] _ := (b_ret (k := fun (u1_ : Bool) => u1_) (eg_f (x_andT (x_isO kit_int_int kit_NoneType_int (x_v (eO eI) thing rfl)) (x_not (x_isO kit_int_bool kit_NoneType_bool (x_v (eO eI) thing rfl))))) (fun u1_ => ⟨.inl rfl, rfl⟩))
  refine run_T (n := 1) (kp := [true]) (m := m_lw_whole) (ds := [(eO eI) thing]) rfl hb ?_
  first
    | (simp -implicitDefEqProofs only [t_lw_whole_c, Option.bind_assoc, Option.bind_some, bind_same] at h ⊢; exact h)
    | (simp -implicitDefEqProofs only [t_lw_whole_c, Option.bind_assoc, Option.bind_some, bind_same] at h; exact h)
    | exact h
    | (simp [t_lw_whole_c] at h ⊢; exact h)
theorem T_lw_whole : Tf (τ := (Option Int) × Unit) (fun t => [(eO eI) t.1]) eB F_lw_whole (fun t => t_lw_whole_c t.1) := fun t r h => ⟨_, L_lw_whole t.1 h⟩
theorem L_lw_sizes  (cell : Int) {r : (List Int)} (h : t_lw_sizes cell = some r) : F_lw_sizes [eI cell] = some ((eL true eI) r, (fun _ => [eI cell]) r) := by
  have hb : Bk (Qf (eL true eI) [true] (fun _ => [eI cell])) m_lw_sizes [eI cell, .gone] _ := (b_retI (eg_f (x_comp (fun (k : Int) => [eI cell, eI k]) (ei_rng1 (x_m2 o2_addI (x_k eI (1) rfl) (x_modP 5 (by decide) (x_call T_lw_mix (ea_cons (x_v eI cell rfl) (ea_cons (x_k eI (8) rfl) ea_nil))) (x_k eI (5) rfl)))) (fun _ => rfl) (fun (k : Int) => et_yes) (fun (k : Int) => (x_m2 o2_addI (x_k eI (1) rfl) (x_modP 3 (by decide) (x_call T_lw_mix (ea_cons (x_v eI cell rfl) (ea_cons (x_v eI k rfl) ea_nil))) (x_k eI (3) rfl)))))) (fun u8_ => ⟨.inl rfl, rfl⟩))
  refine run_T (n := 2) (kp := [true]) (m := m_lw_sizes) (ds := [eI cell]) rfl hb ?_
  first
    | (simp -implicitDefEqProofs only [t_lw_sizes, Option.bind_assoc, Option.bind_some, bind_same] at h ⊢; exact h)
    | (simp -implicitDefEqProofs only [t_lw_sizes, Option.bind_assoc, Option.bind_some, bind_same] at h; exact h)
    | exact h
    | (simp [t_lw_sizes] at h ⊢; exact h)
theorem T_lw_sizes : Tf (τ := Int × Unit) (fun t => [eI t.1]) (eL true eI) F_lw_sizes (fun t => t_lw_sizes t.1) := fun t r h => ⟨_, L_lw_sizes t.1 h⟩
theorem L_lw_nodes  (sizes_here : (List Int)) {r : (List (Int × Int))} (h : t_lw_nodes sizes_here = some r) : F_lw_nodes [(eL false eI) sizes_here] = some ((eL true (e2 eI eI)) r, (fun _ => [(eL false eI) sizes_here]) r) := by
  have hb : Bk (Qf (eL true (e2 eI eI)) [true] (fun _ => [(eL false eI) sizes_here])) m_lw_nodes [(eL false eI) sizes_here, .gone, .gone, .gone] _ := (b_asg (fun (nodes_here : (List (Int × Int))) => [(eL false eI) sizes_here, (eL true (e2 eI eI)) nodes_here, .gone, .gone]) (eg_f (x_lst (f := (eL true (e2 eI eI))) (fun t : Unit => ([] : (List (Int × Int)))) ea_nil (fun _ => rfl) (fun _ => (by decide : 0 ≤ LIM)))) (fun _ => rfl) (fun (nodes_here : (List (Int × Int))) => (b_for (fun (s1_ : (List (Int × Int))) => [(eL false eI) sizes_here, (eL true (e2 eI eI)) s1_, .gone, .gone]) nodes_here (fun (s1_ : (List (Int × Int))) (at_ : Int) => [(eL false eI) sizes_here, (eL true (e2 eI eI)) s1_, eI at_, .gone]) (ei_rng1 (x_a1 o1_lenL (x_v (eL false eI) sizes_here rfl))) rfl (fun _ _ => rfl) (fun (s1_ : (List (Int × Int))) (at_ : Int) => (b_for (fun (s3_ : (List (Int × Int))) => [(eL false eI) sizes_here, (eL true (e2 eI eI)) s3_, eI at_, .gone]) s1_ (fun (s3_ : (List (Int × Int))) (state : Int) => [(eL false eI) sizes_here, (eL true (e2 eI eI)) s3_, eI at_, eI state]) (ei_rng1 (x_m2 o2_ixL (x_v (eL false eI) sizes_here rfl) (x_v eI at_ rfl))) rfl (fun _ _ => rfl) (fun (s3_ : (List (Int × Int))) (state : Int) => (b_expr (eg_app (a := (e2 eI eI)) (xs := s3_) (env := fun r_ => [(eL false eI) sizes_here, (eL true (e2 eI eI)) r_, eI at_, eI state]) rfl (x_tup (f := (e2 eI eI)) (fun t : Int × Int × Unit => (t.1, t.2.1)) (ea_cons (x_v eI at_ rfl) (ea_cons (x_v eI state rfl) ea_nil)) (fun _ => rfl) (fun _ => (by decide : 2 ≤ LIM))) (fun _ => rfl)) (fun (u4_ : (List (Int × Int))) => (b_nil (t := u4_) ⟨rfl, rfl⟩)))) (fun (s3_ : (List (Int × Int))) => (b_nil (t := s3_) ⟨rfl, rfl⟩)))) (fun (s1_ : (List (Int × Int))) => (b_ret (k := fun (u6_ : (List (Int × Int))) => u6_) (eg_mv (eL true (e2 eI eI)) s1_ [(eL false eI) sizes_here, .gone, .gone, .gone] rfl rfl) (fun u6_ => ⟨.inl rfl, rfl⟩))))))
  refine run_T (n := 4) (kp := [true]) (m := m_lw_nodes) (ds := [(eL false eI) sizes_here]) rfl hb ?_
  first
    | (simp -implicitDefEqProofs only [t_lw_nodes, Option.bind_assoc, Option.bind_some, bind_same] at h ⊢; exact h)
    | (simp -implicitDefEqProofs only [t_lw_nodes, Option.bind_assoc, Option.bind_some, bind_same] at h; exact h)
    | exact h
    | (simp [t_lw_nodes] at h ⊢; exact h)
theorem T_lw_nodes : Tf (τ := (List Int) × Unit) (fun t => [(eL false eI) t.1]) (eL true (e2 eI eI)) F_lw_nodes (fun t => t_lw_nodes t.1) := fun t r h => ⟨_, L_lw_nodes t.1 h⟩
theorem L_lw_moves  (script : (List Int)) (nodes_here : (List (Int × Int))) {r : (List ((Int × Int) × Int × Ts × (Int × Int)))} (h : t_lw_moves script nodes_here = some r) : F_lw_moves [eC script, (eL false (e2 eI eI)) nodes_here] = some ((eL true (e4 (e2 eI eI) eI eS (e2 eI eI))) r, (fun _ => [eC script, (eL false (e2 eI eI)) nodes_here]) r) := by
  have hb : Bk (Qf (eL true (e4 (e2 eI eI) eI eS (e2 eI eI))) [true, true] (fun _ => [eC script, (eL false (e2 eI eI)) nodes_here])) m_lw_moves [eC script, (eL false (e2 eI eI)) nodes_here, .gone, .gone, .gone, .gone, .gone, .gone, .gone, .gone] _ := (b_asg (fun (moves_here : (List ((Int × Int) × Int × Ts × (Int × Int)))) => [eC script, (eL false (e2 eI eI)) nodes_here, (eL true (e4 (e2 eI eI) eI eS (e2 eI eI))) moves_here, .gone, .gone, .gone, .gone, .gone, .gone, .gone]) (eg_f (x_lst (f := (eL true (e4 (e2 eI eI) eI eS (e2 eI eI)))) (fun t : Unit => ([] : (List ((Int × Int) × Int × Ts × (Int × Int))))) ea_nil (fun _ => rfl) (fun _ => (by decide : 0 ≤ LIM)))) (fun _ => rfl) (fun (moves_here : (List ((Int × Int) × Int × Ts × (Int × Int)))) => (b_asg (fun (many : (List ((Int × Int) × Int))) => [eC script, (eL false (e2 eI eI)) nodes_here, (eL true (e4 (e2 eI eI) eI eS (e2 eI eI))) moves_here, (eDN true (n2 nI nI) eI) many, .gone, .gone, .gone, .gone, .gone, .gone]) (eg_f (x_newN (nk := (n2 nI nI)) (a := eI))) (fun _ => rfl) (fun (many : (List ((Int × Int) × Int))) => (b_for (fun (s1_ : ((List ((Int × Int) × Int × Ts × (Int × Int))) × (List ((Int × Int) × Int)))) => [eC script, (eL false (e2 eI eI)) nodes_here, (eL true (e4 (e2 eI eI) eI eS (e2 eI eI))) s1_.1, (eDN true (n2 nI nI) eI) s1_.2, .gone, .gone, .gone, .gone, .gone, .gone]) (moves_here, many) (fun (s1_ : ((List ((Int × Int) × Int × Ts × (Int × Int))) × (List ((Int × Int) × Int)))) (cell : Int) => [eC script, (eL false (e2 eI eI)) nodes_here, (eL true (e4 (e2 eI eI) eI eS (e2 eI eI))) s1_.1, (eDN true (n2 nI nI) eI) s1_.2, eI cell, .gone, .gone, .gone, .gone, .gone]) (ei_it (x_cold (x_sl (x_v eC script rfl) (eo_so (x_k eI (3) rfl)) (eo_so (x_k eI (43) rfl))))) rfl (fun _ _ => rfl) (fun (s1_ : ((List ((Int × Int) × Int × Ts × (Int × Int))) × (List ((Int × Int) × Int)))) (cell : Int) => (b_asg (fun (one : (Int × Int)) => [eC script, (eL false (e2 eI eI)) nodes_here, (eL true (e4 (e2 eI eI) eI eS (e2 eI eI))) s1_.1, (eDN true (n2 nI nI) eI) s1_.2, eI cell, (e2 eI eI) one, .gone, .gone, .gone, .gone]) (eg_r (x_m2 o2_ixL (x_v (eL false (e2 eI eI)) nodes_here rfl) (x_m2 o2_mod (x_call T_lw_mix (ea_cons (x_v eI cell rfl) (ea_cons (x_k eI (1) rfl) ea_nil))) (x_a1 o1_lenL (x_v (eL false (e2 eI eI)) nodes_here rfl))))) (fun _ => rfl) (fun (one : (Int × Int)) => (b_asgC (fun (beyond : (List (Int × Int))) => [eC script, (eL false (e2 eI eI)) nodes_here, (eL true (e4 (e2 eI eI) eI eS (e2 eI eI))) s1_.1, (eDN true (n2 nI nI) eI) s1_.2, eI cell, (e2 eI eI) one, (eL false (e2 eI eI)) beyond, .gone, .gone, .gone]) (eg_f (x_comp (fun (node : (Int × Int)) => [eC script, (eL false (e2 eI eI)) nodes_here, (eL true (e4 (e2 eI eI) eI eS (e2 eI eI))) s1_.1, (eDN true (n2 nI nI) eI) s1_.2, eI cell, (e2 eI eI) one, .gone, .gone, .gone, (e2 eI eI) node]) (ei_itV (x_v (eL false (e2 eI eI)) nodes_here rfl)) (fun _ => rfl) (fun (node : (Int × Int)) => (et_b (x_m2 o2_geI (x_pr (f := eI) 0 (fun t : (Int × Int) => t.1) (fun _ => rfl) (x_v (e2 eI eI) node rfl)) (x_pr (f := eI) 0 (fun t : (Int × Int) => t.1) (fun _ => rfl) (x_v (e2 eI eI) one rfl))))) (fun (node : (Int × Int)) => (x_v (e2 eI eI) node rfl)))) (fun _ => rfl) (fun _ => rfl) (fun (beyond : (List (Int × Int))) => (b_asg (fun (other : (Int × Int)) => [eC script, (eL false (e2 eI eI)) nodes_here, (eL true (e4 (e2 eI eI) eI eS (e2 eI eI))) s1_.1, (eDN true (n2 nI nI) eI) s1_.2, eI cell, (e2 eI eI) one, (eL false (e2 eI eI)) beyond, (e2 eI eI) other, .gone, .gone]) (eg_r (x_m2 o2_ixL (x_v (eL false (e2 eI eI)) beyond rfl) (x_m2 o2_mod (x_call T_lw_mix (ea_cons (x_v eI cell rfl) (ea_cons (x_k eI (6) rfl) ea_nil))) (x_a1 o1_lenL (x_v (eL false (e2 eI eI)) beyond rfl))))) (fun _ => rfl) (fun (other : (Int × Int)) => (b_asg (fun (cost : Int) => [eC script, (eL false (e2 eI eI)) nodes_here, (eL true (e4 (e2 eI eI) eI eS (e2 eI eI))) s1_.1, (eDN true (n2 nI nI) eI) s1_.2, eI cell, (e2 eI eI) one, (eL false (e2 eI eI)) beyond, (e2 eI eI) other, eI cost, .gone]) (eg_f (x_m2 o2_mod (x_call T_lw_mix (ea_cons (x_v eI cell rfl) (ea_cons (x_k eI (9) rfl) ea_nil))) (x_m2 o2_ixL (x_lst (f := (eL true eI)) (fun t : Int × Int × Int × Unit => ([t.1, t.2.1, t.2.2.1] : (List Int))) (ea_cons (x_k eI (3) rfl) (ea_cons (x_k eI (40) rfl) (ea_cons (x_pow 10 9 1000000000 (by decide)) ea_nil))) (fun _ => rfl) (fun _ => (by decide : 3 ≤ LIM))) (x_modP 3 (by decide) (x_call T_lw_mix (ea_cons (x_v eI cell rfl) (ea_cons (x_k eI (7) rfl) ea_nil))) (x_k eI (3) rfl))))) (fun _ => rfl) (fun (cost : Int) => (b_join (fun (s11_ : Int) => [eC script, (eL false (e2 eI eI)) nodes_here, (eL true (e4 (e2 eI eI) eI eS (e2 eI eI))) s1_.1, (eDN true (n2 nI nI) eI) s1_.2, eI cell, (e2 eI eI) one, (eL false (e2 eI eI)) beyond, (e2 eI eI) other, eI s11_, .gone]) (et_andT (et_b (x_m2 (o2_eq (e' := eI) (by decide)) (x_pr (f := eI) 0 (fun t : (Int × Int) => t.1) (fun _ => rfl) (x_v (e2 eI eI) other rfl)) (x_pr (f := eI) 0 (fun t : (Int × Int) => t.1) (fun _ => rfl) (x_v (e2 eI eI) one rfl)))) (et_b (x_m2 (o2_eq (e' := eI) (by decide)) (x_v eI cost rfl) (x_k eI (0) rfl)))) (b_asg (fun (cost_2 : Int) => [eC script, (eL false (e2 eI eI)) nodes_here, (eL true (e4 (e2 eI eI) eI eS (e2 eI eI))) s1_.1, (eDN true (n2 nI nI) eI) s1_.2, eI cell, (e2 eI eI) one, (eL false (e2 eI eI)) beyond, (e2 eI eI) other, eI cost_2, .gone]) (eg_f (x_k eI (1) rfl)) (fun _ => rfl) (fun (cost_2 : Int) => (b_nil (t := cost_2) ⟨rfl, rfl⟩))) (b_nil (t := cost) ⟨rfl, rfl⟩) (fun (s11_ : Int) => (b_asg (fun (cost : Int) => [eC script, (eL false (e2 eI eI)) nodes_here, (eL true (e4 (e2 eI eI) eI eS (e2 eI eI))) s1_.1, (eDN true (n2 nI nI) eI) s1_.2, eI cell, (e2 eI eI) one, (eL false (e2 eI eI)) beyond, (e2 eI eI) other, eI cost, .gone]) (eg_f (x_m2 o2_mul (x_v eI s11_ rfl) (x_m2 o2_ixL (x_lst (f := (eL true eI)) (fun t : Int × Int × Int × Int × Unit => ([t.1, t.2.1, t.2.2.1, t.2.2.2.1] : (List Int))) (ea_cons (x_k eI (1) rfl) (ea_cons (x_k eI (1) rfl) (ea_cons (x_k eI (1) rfl) (ea_cons (x_pow 10 40 10000000000000000000000000000000000000000 (by decide)) ea_nil)))) (fun _ => rfl) (fun _ => (by decide : 4 ≤ LIM))) (x_modP 4 (by decide) (x_call T_lw_mix (ea_cons (x_v eI cell rfl) (ea_cons (x_k eI (10) rfl) ea_nil))) (x_k eI (4) rfl))))) (fun _ => rfl) (fun (cost : Int) => (b_expr (eg_app (a := (e4 (e2 eI eI) eI eS (e2 eI eI))) (xs := s1_.1) (env := fun r_ => [eC script, (eL false (e2 eI eI)) nodes_here, (eL true (e4 (e2 eI eI) eI eS (e2 eI eI))) r_, (eDN true (n2 nI nI) eI) s1_.2, eI cell, (e2 eI eI) one, (eL false (e2 eI eI)) beyond, (e2 eI eI) other, eI cost, .gone]) rfl (x_tup (f := (e4 (e2 eI eI) eI eS (e2 eI eI))) (fun t : (Int × Int) × Int × Ts × (Int × Int) × Unit => (t.1, t.2.1, t.2.2.1, t.2.2.2.1)) (ea_cons (x_v (e2 eI eI) one rfl) (ea_cons (x_v eI cost rfl) (ea_cons (x_m2 o2_repS (x_m2 o2_ixS (x_k eS ['a', 'b'] rfl) (x_modP 2 (by decide) (x_v eI cell rfl) (x_k eI (2) rfl))) (x_getN2 (x_v (eDN true (n2 nI nI) eI) s1_.2 rfl) (x_v (e2 eI eI) one rfl) (x_k eI (0) rfl))) (ea_cons (x_v (e2 eI eI) other rfl) ea_nil)))) (fun _ => rfl) (fun _ => (by decide : 4 ≤ LIM))) (fun _ => rfl)) (fun (u20_ : (List ((Int × Int) × Int × Ts × (Int × Int)))) => (b_dputN (av := eI) (v := fun u21_ => u21_) (xs := fun u21_ => s1_.2) (fun p23_ => [eC script, (eL false (e2 eI eI)) nodes_here, (eL true (e4 (e2 eI eI) eI eS (e2 eI eI))) u20_, (eDN true (n2 nI nI) eI) p23_.2, eI cell, (e2 eI eI) one, (eL false (e2 eI eI)) beyond, (e2 eI eI) other, eI cost, .gone]) (eg_f (x_m2 o2_addI (x_getN2 (x_v (eDN true (n2 nI nI) eI) s1_.2 rfl) (x_v (e2 eI eI) one rfl) (x_k eI (0) rfl)) (x_k eI (1) rfl))) (fun _ => rfl) (fun _ => rfl) (fun u21_ => (x_v (e2 eI eI) one rfl)) (fun _ => rfl) (fun p23_ => (b_nil (t := (u20_, p23_.2)) ⟨rfl, rfl⟩)))))))))))))))))) (fun (s1_ : ((List ((Int × Int) × Int × Ts × (Int × Int))) × (List ((Int × Int) × Int)))) => (b_ret (k := fun (u25_ : (List ((Int × Int) × Int × Ts × (Int × Int)))) => u25_) (eg_mv (eL true (e4 (e2 eI eI) eI eS (e2 eI eI))) s1_.1 [eC script, (eL false (e2 eI eI)) nodes_here, .gone, (eDN true (n2 nI nI) eI) s1_.2, .gone, .gone, .gone, .gone, .gone, .gone] rfl rfl) (fun u25_ => ⟨.inl rfl, rfl⟩))))))))
  refine run_T (n := 10) (kp := [true, true]) (m := m_lw_moves) (ds := [eC script, (eL false (e2 eI eI)) nodes_here]) rfl hb ?_
  first
    | (simp -implicitDefEqProofs only [t_lw_moves, Option.bind_assoc, Option.bind_some, bind_same] at h ⊢; exact h)
    | (simp -implicitDefEqProofs only [t_lw_moves, Option.bind_assoc, Option.bind_some, bind_same] at h; exact h)
    | exact h
    | (simp [t_lw_moves] at h ⊢; exact h)
theorem T_lw_moves : Tf (τ := (List Int) × (List (Int × Int)) × Unit) (fun t => [eC t.1, (eL false (e2 eI eI)) t.2.1]) (eL true (e4 (e2 eI eI) eI eS (e2 eI eI))) F_lw_moves (fun t => t_lw_moves t.1 t.2.1) := fun t r h => ⟨_, L_lw_moves t.1 t.2.1 h⟩
theorem L_lw_ends  (cell : Int) (nodes_here : (List (Int × Int))) {r : (List (Int × Int))} (h : t_lw_ends cell nodes_here = some r) : F_lw_ends [eI cell, (eL false (e2 eI eI)) nodes_here] = some ((eL true (e2 eI eI)) r, (fun _ => [eI cell, (eL false (e2 eI eI)) nodes_here]) r) := by
  have hb : Bk (Qf (eL true (e2 eI eI)) [true, true] (fun _ => [eI cell, (eL false (e2 eI eI)) nodes_here])) m_lw_ends [eI cell, (eL false (e2 eI eI)) nodes_here, .gone, .gone] _ := (b_asg (fun (ends_here : (List (Int × Int))) => [eI cell, (eL false (e2 eI eI)) nodes_here, (eL true (e2 eI eI)) ends_here, .gone]) (eg_f (x_lst (f := (eL true (e2 eI eI))) (fun t : Unit => ([] : (List (Int × Int)))) ea_nil (fun _ => rfl) (fun _ => (by decide : 0 ≤ LIM)))) (fun _ => rfl) (fun (ends_here : (List (Int × Int))) => (b_for (fun (s1_ : (List (Int × Int))) => [eI cell, (eL false (e2 eI eI)) nodes_here, (eL true (e2 eI eI)) s1_, .gone]) ends_here (fun (s1_ : (List (Int × Int))) (k : Int) => [eI cell, (eL false (e2 eI eI)) nodes_here, (eL true (e2 eI eI)) s1_, eI k]) (ei_rng1 (x_a1 o1_lenL (x_v (eL false (e2 eI eI)) nodes_here rfl))) rfl (fun _ _ => rfl) (fun (s1_ : (List (Int × Int))) (k : Int) => (b_join (fun (s4_ : (List (Int × Int))) => [eI cell, (eL false (e2 eI eI)) nodes_here, (eL true (e2 eI eI)) s4_, eI k]) (et_b (x_m2 (o2_eq (e' := eI) (by decide)) (x_modP 3 (by decide) (x_call T_lw_mix (ea_cons (x_v eI cell rfl) (ea_cons (x_m2 o2_addI (x_k eI (11) rfl) (x_v eI k rfl)) ea_nil))) (x_k eI (3) rfl)) (x_k eI (0) rfl))) (b_expr (eg_app (a := (e2 eI eI)) (xs := s1_) (env := fun r_ => [eI cell, (eL false (e2 eI eI)) nodes_here, (eL true (e2 eI eI)) r_, eI k]) rfl (x_fr (x_m2 o2_ixL (x_v (eL false (e2 eI eI)) nodes_here rfl) (x_v eI k rfl))) (fun _ => rfl)) (fun (u6_ : (List (Int × Int))) => (b_nil (t := u6_) ⟨rfl, rfl⟩))) (b_nil (t := s1_) ⟨rfl, rfl⟩) (fun (s4_ : (List (Int × Int))) => (b_nil (t := s4_) ⟨rfl, rfl⟩)))) (fun (s1_ : (List (Int × Int))) => (b_join (fun (s9_ : (List (Int × Int))) => [eI cell, (eL false (e2 eI eI)) nodes_here, (eL true (e2 eI eI)) s9_, .gone]) (et_and (et_b (x_m2 o2_gtI (x_modP 4 (by decide) (x_v eI cell rfl) (x_k eI (4) rfl)) (x_k eI (0) rfl))) (et_b (x_m2 (o2_ninL (e := (e2 eI eI)) (by decide)) (x_m2 o2_ixL (x_v (eL false (e2 eI eI)) nodes_here rfl) (x_m1 o1_neg (x_k eI (1) rfl))) (x_v (eL true (e2 eI eI)) s1_ rfl)))) (b_expr (eg_app (a := (e2 eI eI)) (xs := s1_) (env := fun r_ => [eI cell, (eL false (e2 eI eI)) nodes_here, (eL true (e2 eI eI)) r_, .gone]) rfl (x_fr (x_m2 o2_ixL (x_v (eL false (e2 eI eI)) nodes_here rfl) (x_m1 o1_neg (x_k eI (1) rfl)))) (fun _ => rfl)) (fun (u11_ : (List (Int × Int))) => (b_nil (t := u11_) ⟨rfl, rfl⟩))) (b_nil (t := s1_) ⟨rfl, rfl⟩) (fun (s9_ : (List (Int × Int))) => (b_ret (k := fun (u12_ : (List (Int × Int))) => u12_) (eg_mv (eL true (e2 eI eI)) s9_ [eI cell, (eL false (e2 eI eI)) nodes_here, .gone, .gone] rfl rfl) (fun u12_ => ⟨.inl rfl, rfl⟩))))))))
  refine run_T (n := 4) (kp := [true, true]) (m := m_lw_ends) (ds := [eI cell, (eL false (e2 eI eI)) nodes_here]) rfl hb ?_
  first
    | (simp -implicitDefEqProofs only [t_lw_ends, Option.bind_assoc, Option.bind_some, bind_same] at h ⊢; exact h)
    | (simp -implicitDefEqProofs only [t_lw_ends, Option.bind_assoc, Option.bind_some, bind_same] at h; exact h)
    | exact h
    | (simp [t_lw_ends] at h ⊢; exact h)
theorem T_lw_ends : Tf (τ := Int × (List (Int × Int)) × Unit) (fun t => [eI t.1, (eL false (e2 eI eI)) t.2.1]) (eL true (e2 eI eI)) F_lw_ends (fun t => t_lw_ends t.1 t.2.1) := fun t r h => ⟨_, L_lw_ends t.1 t.2.1 h⟩
theorem L_lw_least  (nodes_here : (List (Int × Int))) (moves_here : (List ((Int × Int) × Int × Ts × (Int × Int)))) (ends_here : (List (Int × Int))) {r : (List ((Int × Int) × (Option Int)))} (h : t_lw_least nodes_here moves_here ends_here = some r) : F_lw_least [(eL false (e2 eI eI)) nodes_here, (eL false (e4 (e2 eI eI) eI eS (e2 eI eI))) moves_here, (eL false (e2 eI eI)) ends_here] = some ((eDN true (n2 nI nI) (eO eI)) r, (fun _ => [(eL false (e2 eI eI)) nodes_here, (eL false (e4 (e2 eI eI) eI eS (e2 eI eI))) moves_here, (eL false (e2 eI eI)) ends_here]) r) := by
  have hb : Bk (Qf (eDN true (n2 nI nI) (eO eI)) [true, true, true] (fun _ => [(eL false (e2 eI eI)) nodes_here, (eL false (e4 (e2 eI eI) eI eS (e2 eI eI))) moves_here, (eL false (e2 eI eI)) ends_here])) m_lw_least [(eL false (e2 eI eI)) nodes_here, (eL false (e4 (e2 eI eI) eI eS (e2 eI eI))) moves_here, (eL false (e2 eI eI)) ends_here, .gone, .gone, .gone, .gone, .gone, .gone, .gone, .gone] _ := (b_asg (fun (prices : (List ((Int × Int) × (Option Int)))) => [(eL false (e2 eI eI)) nodes_here, (eL false (e4 (e2 eI eI) eI eS (e2 eI eI))) moves_here, (eL false (e2 eI eI)) ends_here, (eDN true (n2 nI nI) (eO eI)) prices, .gone, .gone, .gone, .gone, .gone, .gone, .gone]) (eg_f (x_newN (nk := (n2 nI nI)) (a := (eO eI)))) (fun _ => rfl) (fun (prices : (List ((Int × Int) × (Option Int)))) => (b_for (fun (s1_ : (List ((Int × Int) × (Option Int)))) => [(eL false (e2 eI eI)) nodes_here, (eL false (e4 (e2 eI eI) eI eS (e2 eI eI))) moves_here, (eL false (e2 eI eI)) ends_here, (eDN true (n2 nI nI) (eO eI)) s1_, .gone, .gone, .gone, .gone, .gone, .gone, .gone]) prices (fun (s1_ : (List ((Int × Int) × (Option Int)))) (node : (Int × Int)) => [(eL false (e2 eI eI)) nodes_here, (eL false (e4 (e2 eI eI) eI eS (e2 eI eI))) moves_here, (eL false (e2 eI eI)) ends_here, (eDN true (n2 nI nI) (eO eI)) s1_, (e2 eI eI) node, .gone, .gone, .gone, .gone, .gone, .gone]) (ei_it (x_v (eL false (e2 eI eI)) nodes_here rfl)) rfl (fun _ _ => rfl) (fun (s1_ : (List ((Int × Int) × (Option Int)))) (node : (Int × Int)) => (b_dputN (av := (eO eI)) (v := fun u2_ => u2_) (xs := fun u2_ => s1_) (fun p9_ => [(eL false (e2 eI eI)) nodes_here, (eL false (e4 (e2 eI eI) eI eS (e2 eI eI))) moves_here, (eL false (e2 eI eI)) ends_here, (eDN true (n2 nI nI) (eO eI)) p9_.2, (e2 eI eI) node, .gone, .gone, .gone, .gone, .gone, .gone]) (eg_f (x_map (e := eU) (f := (eO eI)) (fun _ => none) (fun _ => rfl) (x_k eU () rfl))) (fun _ => rfl) (fun _ => rfl) (fun u2_ => (x_v (e2 eI eI) node rfl)) (fun _ => rfl) (fun p9_ => (b_join (fun (s4_ : (List ((Int × Int) × (Option Int)))) => [(eL false (e2 eI eI)) nodes_here, (eL false (e4 (e2 eI eI) eI eS (e2 eI eI))) moves_here, (eL false (e2 eI eI)) ends_here, (eDN true (n2 nI nI) (eO eI)) s4_, (e2 eI eI) node, .gone, .gone, .gone, .gone, .gone, .gone]) (et_b (x_m2 (o2_inL (e := (e2 eI eI)) (by decide)) (x_v (e2 eI eI) node rfl) (x_v (eL false (e2 eI eI)) ends_here rfl))) (b_dputN (av := (eO eI)) (v := fun u5_ => u5_) (xs := fun u5_ => p9_.2) (fun p7_ => [(eL false (e2 eI eI)) nodes_here, (eL false (e4 (e2 eI eI) eI eS (e2 eI eI))) moves_here, (eL false (e2 eI eI)) ends_here, (eDN true (n2 nI nI) (eO eI)) p7_.2, (e2 eI eI) node, .gone, .gone, .gone, .gone, .gone, .gone]) (eg_f (x_map (e := eI) (f := (eO eI)) some (fun _ => rfl) (x_k eI (0) rfl))) (fun _ => rfl) (fun _ => rfl) (fun u5_ => (x_v (e2 eI eI) node rfl)) (fun _ => rfl) (fun p7_ => (b_nil (t := p7_.2) ⟨rfl, rfl⟩))) (b_nil (t := p9_.2) ⟨rfl, rfl⟩) (fun (s4_ : (List ((Int × Int) × (Option Int)))) => (b_nil (t := s4_) ⟨rfl, rfl⟩)))))) (fun (s1_ : (List ((Int × Int) × (Option Int)))) => (b_for (fun (s11_ : (List ((Int × Int) × (Option Int)))) => [(eL false (e2 eI eI)) nodes_here, (eL false (e4 (e2 eI eI) eI eS (e2 eI eI))) moves_here, (eL false (e2 eI eI)) ends_here, (eDN true (n2 nI nI) (eO eI)) s11_, .gone, .gone, .gone, .gone, .gone, .gone, .gone]) s1_ (fun (s11_ : (List ((Int × Int) × (Option Int)))) (turn : Int) => [(eL false (e2 eI eI)) nodes_here, (eL false (e4 (e2 eI eI) eI eS (e2 eI eI))) moves_here, (eL false (e2 eI eI)) ends_here, (eDN true (n2 nI nI) (eO eI)) s11_, .gone, eI turn, .gone, .gone, .gone, .gone, .gone]) (ei_rng1 (x_a1 o1_lenL (x_v (eL false (e2 eI eI)) nodes_here rfl))) rfl (fun _ _ => rfl) (fun (s11_ : (List ((Int × Int) × (Option Int)))) (turn : Int) => (b_for (fun (s12_ : (List ((Int × Int) × (Option Int)))) => [(eL false (e2 eI eI)) nodes_here, (eL false (e4 (e2 eI eI) eI eS (e2 eI eI))) moves_here, (eL false (e2 eI eI)) ends_here, (eDN true (n2 nI nI) (eO eI)) s12_, .gone, eI turn, .gone, .gone, .gone, .gone, .gone]) s11_ (fun (s12_ : (List ((Int × Int) × (Option Int)))) (x13_ : ((Int × Int) × Int × Ts × (Int × Int))) => [(eL false (e2 eI eI)) nodes_here, (eL false (e4 (e2 eI eI) eI eS (e2 eI eI))) moves_here, (eL false (e2 eI eI)) ends_here, (eDN true (n2 nI nI) (eO eI)) s12_, .gone, eI turn, (e2 eI eI) x13_.1, eI x13_.2.1, eS x13_.2.2.1, (e2 eI eI) x13_.2.2.2, .gone]) (ei_it (x_v (eL false (e4 (e2 eI eI) eI eS (e2 eI eI))) moves_here rfl)) rfl (fun _ _ => rfl) (fun (s12_ : (List ((Int × Int) × (Option Int)))) (x13_ : ((Int × Int) × Int × Ts × (Int × Int))) => (b_asg (fun (rest : (Option Int)) => [(eL false (e2 eI eI)) nodes_here, (eL false (e4 (e2 eI eI) eI eS (e2 eI eI))) moves_here, (eL false (e2 eI eI)) ends_here, (eDN true (n2 nI nI) (eO eI)) s12_, .gone, eI turn, (e2 eI eI) x13_.1, eI x13_.2.1, eS x13_.2.2.1, (e2 eI eI) x13_.2.2.2, (eO eI) rest]) (eg_r (x_m2 (o2_ixN (o := true) (ek := (e2 eI eI)) (nk := (n2 nI nI)) (e := (eO eI))) (x_v (eDN true (n2 nI nI) (eO eI)) s12_ rfl) (x_v (e2 eI eI) x13_.2.2.2 rfl))) (fun _ => rfl) (fun (rest : (Option Int)) => (b_join (fun (s19_ : (List ((Int × Int) × (Option Int)))) => [(eL false (e2 eI eI)) nodes_here, (eL false (e4 (e2 eI eI) eI eS (e2 eI eI))) moves_here, (eL false (e2 eI eI)) ends_here, (eDN true (n2 nI nI) (eO eI)) s19_, .gone, eI turn, (e2 eI eI) x13_.1, eI x13_.2.1, eS x13_.2.2.1, (e2 eI eI) x13_.2.2.2, (eO eI) rest]) (et_and (et_b (x_m2 o2_nisN (x_v (eO eI) rest rfl) (x_k eU () rfl))) (et_or (et_b (x_m2 o2_isN (x_m2 (o2_ixN (o := true) (ek := (e2 eI eI)) (nk := (n2 nI nI)) (e := (eO eI))) (x_v (eDN true (n2 nI nI) (eO eI)) s12_ rfl) (x_v (e2 eI eI) x13_.1 rfl)) (x_k eU () rfl))) (et_b (x_m2 o2_ltI (x_m2 o2_addI (x_v eI x13_.2.1 rfl) (x_un (x_v (eO eI) rest rfl))) (x_un (x_m2 (o2_ixN (o := true) (ek := (e2 eI eI)) (nk := (n2 nI nI)) (e := (eO eI))) (x_v (eDN true (n2 nI nI) (eO eI)) s12_ rfl) (x_v (e2 eI eI) x13_.1 rfl))))))) (b_dputN (av := (eO eI)) (v := fun u22_ => u22_) (xs := fun u22_ => s12_) (fun p24_ => [(eL false (e2 eI eI)) nodes_here, (eL false (e4 (e2 eI eI) eI eS (e2 eI eI))) moves_here, (eL false (e2 eI eI)) ends_here, (eDN true (n2 nI nI) (eO eI)) p24_.2, .gone, eI turn, (e2 eI eI) x13_.1, eI x13_.2.1, eS x13_.2.2.1, (e2 eI eI) x13_.2.2.2, (eO eI) rest]) (eg_f (x_map (e := eI) (f := (eO eI)) some (fun _ => rfl) (x_m2 o2_addI (x_v eI x13_.2.1 rfl) (x_un (x_v (eO eI) rest rfl))))) (fun _ => rfl) (fun _ => rfl) (fun u22_ => (x_v (e2 eI eI) x13_.1 rfl)) (fun _ => rfl) (fun p24_ => (b_nil (t := p24_.2) ⟨rfl, rfl⟩))) (b_nil (t := s12_) ⟨rfl, rfl⟩) (fun (s19_ : (List ((Int × Int) × (Option Int)))) => (b_nil (t := s19_) ⟨rfl, rfl⟩)))))) (fun (s12_ : (List ((Int × Int) × (Option Int)))) => (b_nil (t := s12_) ⟨rfl, rfl⟩)))) (fun (s11_ : (List ((Int × Int) × (Option Int)))) => (b_ret (k := fun (u27_ : (List ((Int × Int) × (Option Int)))) => u27_) (eg_mv (eDN true (n2 nI nI) (eO eI)) s11_ [(eL false (e2 eI eI)) nodes_here, (eL false (e4 (e2 eI eI) eI eS (e2 eI eI))) moves_here, (eL false (e2 eI eI)) ends_here, .gone, .gone, .gone, .gone, .gone, .gone, .gone, .gone] rfl rfl) (fun u27_ => ⟨.inl rfl, rfl⟩))))))))
  refine run_T (n := 11) (kp := [true, true, true]) (m := m_lw_least) (ds := [(eL false (e2 eI eI)) nodes_here, (eL false (e4 (e2 eI eI) eI eS (e2 eI eI))) moves_here, (eL false (e2 eI eI)) ends_here]) rfl hb ?_
  first
    | (simp -implicitDefEqProofs only [t_lw_least, Option.bind_assoc, Option.bind_some, bind_same] at h ⊢; exact h)
    | (simp -implicitDefEqProofs only [t_lw_least, Option.bind_assoc, Option.bind_some, bind_same] at h; exact h)
    | exact h
    | (simp [t_lw_least] at h ⊢; exact h)
theorem T_lw_least : Tf (τ := (List (Int × Int)) × (List ((Int × Int) × Int × Ts × (Int × Int))) × (List (Int × Int)) × Unit) (fun t => [(eL false (e2 eI eI)) t.1, (eL false (e4 (e2 eI eI) eI eS (e2 eI eI))) t.2.1, (eL false (e2 eI eI)) t.2.2.1]) (eDN true (n2 nI nI) (eO eI)) F_lw_least (fun t => t_lw_least t.1 t.2.1 t.2.2.1) := fun t r h => ⟨_, L_lw_least t.1 t.2.1 t.2.2.1 h⟩
theorem L_lw_walked  (moves_here : (List ((Int × Int) × Int × Ts × (Int × Int)))) (ends_here : (List (Int × Int))) (names : (List Ts)) {r : (Option Int)} (h : t_lw_walked moves_here ends_here names = some r) : F_lw_walked [(eL false (e4 (e2 eI eI) eI eS (e2 eI eI))) moves_here, (eL false (e2 eI eI)) ends_here, (eL false eS) names] = some ((eO eI) r, (fun _ => [(eL false (e4 (e2 eI eI) eI eS (e2 eI eI))) moves_here, (eL false (e2 eI eI)) ends_here, (eL false eS) names]) r) := by
  have hb : Bk (Qf (eO eI) [true, true, true] (fun _ => [(eL false (e4 (e2 eI eI) eI eS (e2 eI eI))) moves_here, (eL false (e2 eI eI)) ends_here, (eL false eS) names])) m_lw_walked [(eL false (e4 (e2 eI eI) eI eS (e2 eI eI))) moves_here, (eL false (e2 eI eI)) ends_here, (eL false eS) names, .gone, .gone, .gone, .gone, .gone] _ := (b_asg (fun (node : (Int × Int)) => [(eL false (e4 (e2 eI eI) eI eS (e2 eI eI))) moves_here, (eL false (e2 eI eI)) ends_here, (eL false eS) names, (e2 eI eI) node, .gone, .gone, .gone, .gone]) (eg_f (x_tup (f := (e2 eI eI)) (fun t : Int × Int × Unit => (t.1, t.2.1)) (ea_cons (x_k eI (0) rfl) (ea_cons (x_k eI (0) rfl) ea_nil)) (fun _ => rfl) (fun _ => (by decide : 2 ≤ LIM)))) (fun _ => rfl) (fun (node : (Int × Int)) => (b_asg (fun (total : Int) => [(eL false (e4 (e2 eI eI) eI eS (e2 eI eI))) moves_here, (eL false (e2 eI eI)) ends_here, (eL false eS) names, (e2 eI eI) node, eI total, .gone, .gone, .gone]) (eg_f (x_k eI (0) rfl)) (fun _ => rfl) (fun (total : Int) => (b_forR (fun (s1_ : ((Int × Int) × Int)) => [(eL false (e4 (e2 eI eI) eI eS (e2 eI eI))) moves_here, (eL false (e2 eI eI)) ends_here, (eL false eS) names, (e2 eI eI) s1_.1, eI s1_.2, .gone, .gone, .gone]) (node, total) (fun (s1_ : ((Int × Int) × Int)) (name : Ts) => [(eL false (e4 (e2 eI eI) eI eS (e2 eI eI))) moves_here, (eL false (e2 eI eI)) ends_here, (eL false eS) names, (e2 eI eI) s1_.1, eI s1_.2, eS name, .gone, .gone]) (ei_it (x_v (eL false eS) names rfl)) rfl (fun _ _ => rfl) (fun (s1_ : ((Int × Int) × Int)) (name : Ts) => (b_asgC (fun (here : (List ((Int × Int) × Int × Ts × (Int × Int)))) => [(eL false (e4 (e2 eI eI) eI eS (e2 eI eI))) moves_here, (eL false (e2 eI eI)) ends_here, (eL false eS) names, (e2 eI eI) s1_.1, eI s1_.2, eS name, (eL false (e4 (e2 eI eI) eI eS (e2 eI eI))) here, .gone]) (eg_f (x_comp (fun (move : ((Int × Int) × Int × Ts × (Int × Int))) => [(eL false (e4 (e2 eI eI) eI eS (e2 eI eI))) moves_here, (eL false (e2 eI eI)) ends_here, (eL false eS) names, (e2 eI eI) s1_.1, eI s1_.2, eS name, .gone, (e4 (e2 eI eI) eI eS (e2 eI eI)) move]) (ei_itV (x_v (eL false (e4 (e2 eI eI) eI eS (e2 eI eI))) moves_here rfl)) (fun _ => rfl) (fun (move : ((Int × Int) × Int × Ts × (Int × Int))) => (et_andT (et_b (x_m2 (o2_eq (e' := (e2 eI eI)) (by decide)) (x_pr (f := (e2 eI eI)) 0 (fun t : ((Int × Int) × Int × Ts × (Int × Int)) => t.1) (fun _ => rfl) (x_v (e4 (e2 eI eI) eI eS (e2 eI eI)) move rfl)) (x_v (e2 eI eI) s1_.1 rfl))) (et_b (x_m2 (o2_eq (e' := eS) (by decide)) (x_pr (f := eS) 2 (fun t : ((Int × Int) × Int × Ts × (Int × Int)) => t.2.2.1) (fun _ => rfl) (x_v (e4 (e2 eI eI) eI eS (e2 eI eI)) move rfl)) (x_v eS name rfl))))) (fun (move : ((Int × Int) × Int × Ts × (Int × Int))) => (x_v (e4 (e2 eI eI) eI eS (e2 eI eI)) move rfl)))) (fun _ => rfl) (fun _ => rfl) (fun (here : (List ((Int × Int) × Int × Ts × (Int × Int)))) => (b_ifT (et_b (x_m2 (o2_eq (e' := (eL false (e4 (e2 eI eI) eI eS (e2 eI eI)))) (by decide)) (x_v (eL false (e4 (e2 eI eI) eI eS (e2 eI eI))) here rfl) (x_lst (f := (eL true (e4 (e2 eI eI) eI eS (e2 eI eI)))) (fun t : Unit => ([] : (List ((Int × Int) × Int × Ts × (Int × Int))))) ea_nil (fun _ => rfl) (fun _ => (by decide : 0 ≤ LIM))))) (b_ret (k := fun (u3_ : (Option Int)) => (.rt u3_ : (St ((Int × Int) × Int) (Option Int)))) (eg_f (x_map (e := eU) (f := (eO eI)) (fun _ => none) (fun _ => rfl) (x_k eU () rfl))) (fun u3_ => ⟨rfl, ⟨rfl, ⟨.inl rfl, rfl⟩⟩⟩)) (b_asg (fun (total : Int) => [(eL false (e4 (e2 eI eI) eI eS (e2 eI eI))) moves_here, (eL false (e2 eI eI)) ends_here, (eL false eS) names, (e2 eI eI) s1_.1, eI total, eS name, (eL false (e4 (e2 eI eI) eI eS (e2 eI eI))) here, .gone]) (eg_f (x_m2 o2_addI (x_v eI s1_.2 rfl) (x_pr (f := eI) 1 (fun t : ((Int × Int) × Int × Ts × (Int × Int)) => t.2.1) (fun _ => rfl) (x_m2 o2_ixL (x_v (eL false (e4 (e2 eI eI) eI eS (e2 eI eI))) here rfl) (x_k eI (0) rfl))))) (fun _ => rfl) (fun (total : Int) => (b_asg (fun (node : (Int × Int)) => [(eL false (e4 (e2 eI eI) eI eS (e2 eI eI))) moves_here, (eL false (e2 eI eI)) ends_here, (eL false eS) names, (e2 eI eI) node, eI total, eS name, (eL false (e4 (e2 eI eI) eI eS (e2 eI eI))) here, .gone]) (eg_r (x_pr (f := (e2 eI eI)) 3 (fun t : ((Int × Int) × Int × Ts × (Int × Int)) => t.2.2.2) (fun _ => rfl) (x_m2 o2_ixL (x_v (eL false (e4 (e2 eI eI) eI eS (e2 eI eI))) here rfl) (x_k eI (0) rfl)))) (fun _ => rfl) (fun (node : (Int × Int)) => (b_nil (t := (.nx (node, total) : (St ((Int × Int) × Int) (Option Int)))) ⟨rfl, rfl⟩))))))))) (fun (s1_ : ((Int × Int) × Int)) => (b_ifT (et_b (x_m2 (o2_ninL (e := (e2 eI eI)) (by decide)) (x_v (e2 eI eI) s1_.1 rfl) (x_v (eL false (e2 eI eI)) ends_here rfl))) (b_ret (k := fun (u7_ : (Option Int)) => u7_) (eg_f (x_map (e := eU) (f := (eO eI)) (fun _ => none) (fun _ => rfl) (x_k eU () rfl))) (fun u7_ => ⟨rfl, ⟨.inl rfl, rfl⟩⟩)) (b_ret (k := fun (u8_ : (Option Int)) => u8_) (eg_r (x_map (e := eI) (f := (eO eI)) some (fun _ => rfl) (x_v eI s1_.2 rfl))) (fun u8_ => ⟨.inl rfl, rfl⟩)))))))))
  refine run_T (n := 8) (kp := [true, true, true]) (m := m_lw_walked) (ds := [(eL false (e4 (e2 eI eI) eI eS (e2 eI eI))) moves_here, (eL false (e2 eI eI)) ends_here, (eL false eS) names]) rfl hb ?_
  first
    | (simp -implicitDefEqProofs only [t_lw_walked, Option.bind_assoc, Option.bind_some, bind_same] at h ⊢; exact h)
    | (simp -implicitDefEqProofs only [t_lw_walked, Option.bind_assoc, Option.bind_some, bind_same] at h; exact h)
    | exact h
    | (simp [t_lw_walked] at h ⊢; exact h)
theorem T_lw_walked : Tf (τ := (List ((Int × Int) × Int × Ts × (Int × Int))) × (List (Int × Int)) × (List Ts) × Unit) (fun t => [(eL false (e4 (e2 eI eI) eI eS (e2 eI eI))) t.1, (eL false (e2 eI eI)) t.2.1, (eL false eS) t.2.2.1]) (eO eI) F_lw_walked (fun t => t_lw_walked t.1 t.2.1 t.2.2.1) := fun t r h => ⟨_, L_lw_walked t.1 t.2.1 t.2.2.1 h⟩
theorem L_lw_alike  (found : (List ((Int × Int) × (Option Int)))) (due : (List ((Int × Int) × (Option Int)))) {r : Bool} (h : t_lw_alike_d found due = some r) : F_lw_alike [(eDN false (n2 nI nI) (eO eI)) found, (eDN false (n2 nI nI) (eO eI)) due] = some (eB r, (fun _ => [(eDN false (n2 nI nI) (eO eI)) found, (eDN false (n2 nI nI) (eO eI)) due]) r) := by
  have hb : Bk (Qf eB [true, true] (fun _ => [(eDN false (n2 nI nI) (eO eI)) found, (eDN false (n2 nI nI) (eO eI)) due])) m_lw_alike [(eDN false (n2 nI nI) (eO eI)) found, (eDN false (n2 nI nI) (eO eI)) due, .gone] _ := (b_ifT (et_orT (et_not (et_tru (x_isiN (k := true) (by decide +kernel) (x_v (eDN false (n2 nI nI) (eO eI)) found rfl)))) (et_b (x_m2 (o2_ne (e' := eI) (by decide)) (x_a1 o1_lenN (x_v (eDN false (n2 nI nI) (eO eI)) found rfl)) (x_a1 o1_lenN (x_v (eDN false (n2 nI nI) (eO eI)) due rfl))))) (b_ret (k := fun (u1_ : Bool) => u1_) (eg_f (x_k eB false rfl)) (fun u1_ => ⟨rfl, ⟨.inl rfl, rfl⟩⟩)) (b_forR (fun (s2_ : Unit) => [(eDN false (n2 nI nI) (eO eI)) found, (eDN false (n2 nI nI) (eO eI)) due, .gone]) () (fun (s2_ : Unit) (node : (Int × Int)) => [(eDN false (n2 nI nI) (eO eI)) found, (eDN false (n2 nI nI) (eO eI)) due, (e2 eI eI) node]) (ei_dN (ek := (e2 eI eI)) (x_v (eDN false (n2 nI nI) (eO eI)) due rfl)) rfl (fun _ _ => rfl) (fun (s2_ : Unit) (node : (Int × Int)) => (b_ifT (et_b (x_m2 o2_ninN (x_v (e2 eI eI) node rfl) (x_v (eDN false (n2 nI nI) (eO eI)) found rfl))) (b_ret (k := fun (u3_ : Bool) => (.rt u3_ : (St Unit Bool))) (eg_f (x_k eB false rfl)) (fun u3_ => ⟨rfl, ⟨rfl, ⟨.inl rfl, rfl⟩⟩⟩)) (b_ifT (et_and (et_b (x_m2 o2_isN (x_m2 (o2_ixN (o := false) (ek := (e2 eI eI)) (nk := (n2 nI nI)) (e := (eO eI))) (x_v (eDN false (n2 nI nI) (eO eI)) due rfl) (x_v (e2 eI eI) node rfl)) (x_k eU () rfl))) (et_b (x_m2 o2_nisN (x_m2 (o2_ixN (o := false) (ek := (e2 eI eI)) (nk := (n2 nI nI)) (e := (eO eI))) (x_v (eDN false (n2 nI nI) (eO eI)) found rfl) (x_v (e2 eI eI) node rfl)) (x_k eU () rfl)))) (b_ret (k := fun (u7_ : Bool) => (.rt u7_ : (St Unit Bool))) (eg_f (x_k eB false rfl)) (fun u7_ => ⟨rfl, ⟨rfl, ⟨.inl rfl, rfl⟩⟩⟩)) (b_ifT (et_and (et_b (x_m2 o2_nisN (x_m2 (o2_ixN (o := false) (ek := (e2 eI eI)) (nk := (n2 nI nI)) (e := (eO eI))) (x_v (eDN false (n2 nI nI) (eO eI)) due rfl) (x_v (e2 eI eI) node rfl)) (x_k eU () rfl))) (et_or (et_not (et_tru (x_call T_lw_whole (ea_cons (x_m2 (o2_ixN (o := false) (ek := (e2 eI eI)) (nk := (n2 nI nI)) (e := (eO eI))) (x_v (eDN false (n2 nI nI) (eO eI)) found rfl) (x_v (e2 eI eI) node rfl)) ea_nil)))) (et_b (x_m2 (o2_ne (e' := (eO eI)) (by decide)) (x_m2 (o2_ixN (o := false) (ek := (e2 eI eI)) (nk := (n2 nI nI)) (e := (eO eI))) (x_v (eDN false (n2 nI nI) (eO eI)) found rfl) (x_v (e2 eI eI) node rfl)) (x_m2 (o2_ixN (o := false) (ek := (e2 eI eI)) (nk := (n2 nI nI)) (e := (eO eI))) (x_v (eDN false (n2 nI nI) (eO eI)) due rfl) (x_v (e2 eI eI) node rfl)))))) (b_ret (k := fun (u15_ : Bool) => (.rt u15_ : (St Unit Bool))) (eg_f (x_k eB false rfl)) (fun u15_ => ⟨rfl, ⟨rfl, ⟨.inl rfl, rfl⟩⟩⟩)) (b_nil (t := (.nx () : (St Unit Bool))) ⟨rfl, rfl⟩))))) (fun (s2_ : Unit) => (b_ret (k := fun (u18_ : Bool) => u18_) (eg_f (x_k eB true rfl)) (fun u18_ => ⟨.inl rfl, rfl⟩)))))
  refine run_T (n := 3) (kp := [true, true]) (m := m_lw_alike) (ds := [(eDN false (n2 nI nI) (eO eI)) found, (eDN false (n2 nI nI) (eO eI)) due]) rfl hb ?_
  first
    | (simp -implicitDefEqProofs only [t_lw_alike_d, Option.bind_assoc, Option.bind_some, bind_same] at h ⊢; exact h)
    | (simp -implicitDefEqProofs only [t_lw_alike_d, Option.bind_assoc, Option.bind_some, bind_same] at h; exact h)
    | exact h
    | (simp [t_lw_alike_d] at h ⊢; exact h)
theorem T_lw_alike : Tf (τ := (List ((Int × Int) × (Option Int))) × (List ((Int × Int) × (Option Int))) × Unit) (fun t => [(eDN false (n2 nI nI) (eO eI)) t.1, (eDN false (n2 nI nI) (eO eI)) t.2.1]) eB F_lw_alike (fun t => t_lw_alike_d t.1 t.2.1) := fun t r h => ⟨_, L_lw_alike t.1 t.2.1 h⟩
theorem L_lw_way  (trail : OListed) (moves_here : (List ((Int × Int) × Int × Ts × (Int × Int)))) (ends_here : (List (Int × Int))) (due : (List ((Int × Int) × (Option Int)))) {r : Bool} (h : t_lw_way trail moves_here ends_here due = some r) : F_lw_way [(e_Listed false) trail, (eL false (e4 (e2 eI eI) eI eS (e2 eI eI))) moves_here, (eL false (e2 eI eI)) ends_here, (eDN false (n2 nI nI) (eO eI)) due] = some (eB r, (fun _ => [(e_Listed false) trail, (eL false (e4 (e2 eI eI) eI eS (e2 eI eI))) moves_here, (eL false (e2 eI eI)) ends_here, (eDN false (n2 nI nI) (eO eI)) due]) r) := by
  have hb : Bk (Qf eB [true, true, true, true] (fun _ => [(e_Listed false) trail, (eL false (e4 (e2 eI eI) eI eS (e2 eI eI))) moves_here, (eL false (e2 eI eI)) ends_here, (eDN false (n2 nI nI) (eO eI)) due])) m_lw_way [(e_Listed false) trail, (eL false (e4 (e2 eI eI) eI eS (e2 eI eI))) moves_here, (eL false (e2 eI eI)) ends_here, (eDN false (n2 nI nI) (eO eI)) due, .gone] _ := (b_asg (fun (found : (Option ((Option Int) × (List Ts)))) => [(e_Listed false) trail, (eL false (e4 (e2 eI eI) eI eS (e2 eI eI))) moves_here, (eL false (e2 eI eI)) ends_here, (eDN false (n2 nI nI) (eO eI)) due, (eO (e2 (eO eI) (eL true eS))) found]) (eg_f (x_call T_way_of (ea_cons (x_v (e_Listed false) trail rfl) ea_nil))) (fun _ => rfl) (fun (found : (Option ((Option Int) × (List Ts)))) => (b_ifT (et_b (x_m2 o2_isN (x_m2 (o2_ixN (o := false) (ek := (e2 eI eI)) (nk := (n2 nI nI)) (e := (eO eI))) (x_v (eDN false (n2 nI nI) (eO eI)) due rfl) (x_tup (f := (e2 eI eI)) (fun t : Int × Int × Unit => (t.1, t.2.1)) (ea_cons (x_k eI (0) rfl) (ea_cons (x_k eI (0) rfl) ea_nil)) (fun _ => rfl) (fun _ => (by decide : 2 ≤ LIM)))) (x_k eU () rfl))) (b_ret (k := fun (u2_ : Bool) => u2_) (eg_f (x_m2 o2_isN (x_v (eO (e2 (eO eI) (eL true eS))) found rfl) (x_k eU () rfl))) (fun u2_ => ⟨rfl, ⟨.inl rfl, rfl⟩⟩)) (b_ifT (et_or (et_not (et_tru (x_isO kit_tuple_tuple kit_NoneType_tuple (x_v (eO (e2 (eO eI) (eL true eS))) found rfl)))) (et_or (et_b (x_m2 (o2_ne (e' := eI) (by decide)) (x_a1 (o1_lenK (n := 2) (fun _ => rfl)) (x_un (x_v (eO (e2 (eO eI) (eL true eS))) found rfl))) (x_k eI (2) rfl))) (et_or (et_not (et_tru (x_call T_lw_whole (ea_cons (x_pr (f := (eO eI)) 0 (fun t : ((Option Int) × (List Ts)) => t.1) (fun _ => rfl) (x_un (x_v (eO (e2 (eO eI) (eL true eS))) found rfl))) ea_nil)))) (et_not (et_tru (x_isK kit_list_list (x_pr (f := (eL true eS)) 1 (fun t : ((Option Int) × (List Ts)) => t.2) (fun _ => rfl) (x_un (x_v (eO (e2 (eO eI) (eL true eS))) found rfl))))))))) (b_ret (k := fun (u13_ : Bool) => u13_) (eg_f (x_k eB false rfl)) (fun u13_ => ⟨rfl, ⟨.inl rfl, rfl⟩⟩)) (b_ifT (et_or (et_b (x_m2 (o2_ne (e' := (eO eI)) (by decide)) (x_pr (f := (eO eI)) 0 (fun t : ((Option Int) × (List Ts)) => t.1) (fun _ => rfl) (x_un (x_v (eO (e2 (eO eI) (eL true eS))) found rfl))) (x_m2 (o2_ixN (o := false) (ek := (e2 eI eI)) (nk := (n2 nI nI)) (e := (eO eI))) (x_v (eDN false (n2 nI nI) (eO eI)) due rfl) (x_tup (f := (e2 eI eI)) (fun t : Int × Int × Unit => (t.1, t.2.1)) (ea_cons (x_k eI (0) rfl) (ea_cons (x_k eI (0) rfl) ea_nil)) (fun _ => rfl) (fun _ => (by decide : 2 ≤ LIM)))))) (et_b (x_m2 (o2_ne (e' := (eO eI)) (by decide)) (x_callV T_lw_walked (ea_cons (x_v (eL false (e4 (e2 eI eI) eI eS (e2 eI eI))) moves_here rfl) (ea_cons (x_v (eL false (e2 eI eI)) ends_here rfl) (ea_consW (x_pr (f := (eL true eS)) 1 (fun t : ((Option Int) × (List Ts)) => t.2) (fun _ => rfl) (x_un (x_v (eO (e2 (eO eI) (eL true eS))) found rfl))) ea_nil)))) (x_pr (f := (eO eI)) 0 (fun t : ((Option Int) × (List Ts)) => t.1) (fun _ => rfl) (x_un (x_v (eO (e2 (eO eI) (eL true eS))) found rfl)))))) (b_ret (k := fun (u23_ : Bool) => u23_) (eg_f (x_k eB false rfl)) (fun u23_ => ⟨rfl, ⟨.inl rfl, rfl⟩⟩)) (b_ifT (et_b (x_m2 (o2_ne (e' := (eO eI)) (by decide)) (x_callV T_walked (ea_cons (x_v (e_Listed false) trail rfl) (ea_cons (x_cold (x_a1 o1_listL (x_pr (f := (eL true eS)) 1 (fun t : ((Option Int) × (List Ts)) => t.2) (fun _ => rfl) (x_un (x_v (eO (e2 (eO eI) (eL true eS))) found rfl))))) ea_nil))) (x_pr (f := (eO eI)) 0 (fun t : ((Option Int) × (List Ts)) => t.1) (fun _ => rfl) (x_un (x_v (eO (e2 (eO eI) (eL true eS))) found rfl))))) (b_ret (k := fun (u29_ : Bool) => u29_) (eg_f (x_k eB false rfl)) (fun u29_ => ⟨rfl, ⟨.inl rfl, rfl⟩⟩)) (b_unO (env := fun (y31_ : (Option ((Option Int) × (List Ts)))) => [(e_Listed false) trail, (eL false (e4 (e2 eI eI) eI eS (e2 eI eI))) moves_here, (eL false (e2 eI eI)) ends_here, (eDN false (n2 nI nI) (eO eI)) due, (eO (e2 (eO eI) (eL true eS))) y31_]) found (fun (y30_ : ((Option Int) × (List Ts))) => (show Bk _ _ [(e_Listed false) trail, (eL false (e4 (e2 eI eI) eI eS (e2 eI eI))) moves_here, (eL false (e2 eI eI)) ends_here, (eDN false (n2 nI nI) (eO eI)) due, (e2 (eO eI) (eL true eS)) y30_] _ from (b_expr (eg_app (a := eS) (xs := y30_.2) (env := fun r_ => [(e_Listed false) trail, (eL false (e4 (e2 eI eI) eI eS (e2 eI eI))) moves_here, (eL false (e2 eI eI)) ends_here, (eDN false (n2 nI nI) (eO eI)) due, (e2 (eO eI) (eL true eS)) (y30_.1, r_)]) rfl (x_k eS ['z'] rfl) (fun _ => rfl)) (fun (u32_ : (List Ts)) => (b_ret (k := fun (u33_ : Bool) => u33_) (eg_f (x_k eB true rfl)) (fun u33_ => ⟨.inl rfl, rfl⟩)))))))))))))
  refine run_T (n := 5) (kp := [true, true, true, true]) (m := m_lw_way) (ds := [(e_Listed false) trail, (eL false (e4 (e2 eI eI) eI eS (e2 eI eI))) moves_here, (eL false (e2 eI eI)) ends_here, (eDN false (n2 nI nI) (eO eI)) due]) rfl hb ?_
  first
    | (simp -implicitDefEqProofs only [t_lw_way, Option.bind_assoc, Option.bind_some, bind_same] at h ⊢; exact h)
    | (simp -implicitDefEqProofs only [t_lw_way, Option.bind_assoc, Option.bind_some, bind_same] at h; exact h)
    | exact h
    | (simp [t_lw_way] at h ⊢; exact h)
theorem T_lw_way : Tf (τ := OListed × (List ((Int × Int) × Int × Ts × (Int × Int))) × (List (Int × Int)) × (List ((Int × Int) × (Option Int))) × Unit) (fun t => [(e_Listed false) t.1, (eL false (e4 (e2 eI eI) eI eS (e2 eI eI))) t.2.1, (eL false (e2 eI eI)) t.2.2.1, (eDN false (n2 nI nI) (eO eI)) t.2.2.2.1]) eB F_lw_way (fun t => t_lw_way t.1 t.2.1 t.2.2.1 t.2.2.2.1) := fun t r h => ⟨_, L_lw_way t.1 t.2.1 t.2.2.1 t.2.2.2.1 h⟩
theorem L_law  (script : (List Int)) {r : Bool} (h : t_law script = some r) : F_law [eC script] = some (eB r, (fun _ => [eC script]) r) := by
  have hb : Bk (Qf eB [true] (fun _ => [eC script])) m_law [eC script, .gone, .gone, .gone, .gone, .gone, .gone, .gone, .gone, .gone] _ := (b_asg (fun (sizes_here : (List Int)) => [eC script, (eL false eI) sizes_here, .gone, .gone, .gone, .gone, .gone, .gone, .gone, .gone]) (eg_f (x_cold (x_call T_lw_sizes (ea_cons (x_call T_lw_cell_at (ea_cons (x_v eC script rfl) (ea_cons (x_k eI (0) rfl) ea_nil))) ea_nil)))) (fun _ => rfl) (fun (sizes_here : (List Int)) => (b_asg (fun (nodes_here : (List (Int × Int))) => [eC script, (eL false eI) sizes_here, (eL false (e2 eI eI)) nodes_here, .gone, .gone, .gone, .gone, .gone, .gone, .gone]) (eg_f (x_cold (x_call T_lw_nodes (ea_cons (x_v (eL false eI) sizes_here rfl) ea_nil)))) (fun _ => rfl) (fun (nodes_here : (List (Int × Int))) => (b_asg (fun (moves_here : (List ((Int × Int) × Int × Ts × (Int × Int)))) => [eC script, (eL false eI) sizes_here, (eL false (e2 eI eI)) nodes_here, (eL false (e4 (e2 eI eI) eI eS (e2 eI eI))) moves_here, .gone, .gone, .gone, .gone, .gone, .gone]) (eg_f (x_cold (x_call T_lw_moves (ea_cons (x_v eC script rfl) (ea_cons (x_v (eL false (e2 eI eI)) nodes_here rfl) ea_nil))))) (fun _ => rfl) (fun (moves_here : (List ((Int × Int) × Int × Ts × (Int × Int)))) => (b_asg (fun (ends_here : (List (Int × Int))) => [eC script, (eL false eI) sizes_here, (eL false (e2 eI eI)) nodes_here, (eL false (e4 (e2 eI eI) eI eS (e2 eI eI))) moves_here, (eL false (e2 eI eI)) ends_here, .gone, .gone, .gone, .gone, .gone]) (eg_f (x_cold (x_call T_lw_ends (ea_cons (x_call T_lw_cell_at (ea_cons (x_v eC script rfl) (ea_cons (x_k eI (1) rfl) ea_nil))) (ea_cons (x_v (eL false (e2 eI eI)) nodes_here rfl) ea_nil))))) (fun _ => rfl) (fun (ends_here : (List (Int × Int))) => (b_asg (fun (due : (List ((Int × Int) × (Option Int)))) => [eC script, (eL false eI) sizes_here, (eL false (e2 eI eI)) nodes_here, (eL false (e4 (e2 eI eI) eI eS (e2 eI eI))) moves_here, (eL false (e2 eI eI)) ends_here, (eDN false (n2 nI nI) (eO eI)) due, .gone, .gone, .gone, .gone]) (eg_f (x_cold (x_call T_lw_least (ea_cons (x_v (eL false (e2 eI eI)) nodes_here rfl) (ea_cons (x_v (eL false (e4 (e2 eI eI) eI eS (e2 eI eI))) moves_here rfl) (ea_cons (x_v (eL false (e2 eI eI)) ends_here rfl) ea_nil)))))) (fun _ => rfl) (fun (due : (List ((Int × Int) × (Option Int)))) => (b_asg (fun (u7_ : (((List Int) × (List ((Int × Int) × Int × Ts × (Int × Int))) × (List (Int × Int))) × (List Int) × (List ((Int × Int) × Int × Ts × (Int × Int))) × (List (Int × Int)) × Unit)) => [eC script, (eL false eI) sizes_here, (eL false (e2 eI eI)) nodes_here, (eL false (e4 (e2 eI eI) eI eS (e2 eI eI))) moves_here, (eL false (e2 eI eI)) ends_here, (eDN false (n2 nI nI) (eO eI)) due, (eH true (e3 (eL true eI) (eL true (e4 (e2 eI eI) eI eS (e2 eI eI))) (eL true (e2 eI eI)))) u7_.1, .gone, .gone, .gone]) (eg_lstO (f := (eH true (e3 (eL true eI) (eL true (e4 (e2 eI eI) eI eS (e2 eI eI))) (eL true (e2 eI eI))))) (fun (t6_ : (List Int) × (List ((Int × Int) × Int × Ts × (Int × Int))) × (List (Int × Int)) × Unit) => (t6_.1, t6_.2.1, t6_.2.2.1)) (eao_cons (eg_f (x_a1 o1_listL (x_v (eL false eI) sizes_here rfl))) (fun (r3_ : (List Int)) => (eao_cons (eg_f (x_a1 o1_listL (x_v (eL false (e4 (e2 eI eI) eI eS (e2 eI eI))) moves_here rfl))) (fun (r4_ : (List ((Int × Int) × Int × Ts × (Int × Int)))) => (eao_cons (eg_f (x_a1 o1_listL (x_v (eL false (e2 eI eI)) ends_here rfl))) (fun (r5_ : (List (Int × Int))) => eao_nil)))))) (fun _ => rfl) (fun _ => (by decide : 3 ≤ LIM))) (fun _ => rfl) (fun (u7_ : (((List Int) × (List ((Int × Int) × Int × Ts × (Int × Int))) × (List (Int × Int))) × (List Int) × (List ((Int × Int) × Int × Ts × (Int × Int))) × (List (Int × Int)) × Unit)) => (b_asg (fun (trail : OListed) => [eC script, (eL false eI) sizes_here, (eL false (e2 eI eI)) nodes_here, (eL false (e4 (e2 eI eI) eI eS (e2 eI eI))) moves_here, (eL false (e2 eI eI)) ends_here, (eDN false (n2 nI nI) (eO eI)) due, (eH true (e3 (eL true eI) (eL true (e4 (e2 eI eI) eI eS (e2 eI eI))) (eL true (e2 eI eI)))) u7_.1, (e_Listed false) trail, .gone, .gone]) (eg_f (x_cold (x_view (e0 := (eH true (e3 (eL true eI) (eL true (e4 (e2 eI eI) eI eS (e2 eI eI))) (eL true (e2 eI eI))))) (e' := (eH false (e3 (eL false eI) (eL false (e4 (e2 eI eI) eI eS (e2 eI eI))) (eL false (e2 eI eI))))) (x := u7_.1) rfl (x_mk T_Listed_init (ea_cons (x_pr (f := (eL false eI)) 0 (fun t : ((List Int) × (List ((Int × Int) × Int × Ts × (Int × Int))) × (List (Int × Int))) => t.1) (fun _ => rfl) (x_v (eH false (e3 (eL false eI) (eL false (e4 (e2 eI eI) eI eS (e2 eI eI))) (eL false (e2 eI eI)))) u7_.1 rfl)) (ea_cons (x_pr (f := (eL false (e4 (e2 eI eI) eI eS (e2 eI eI)))) 1 (fun t : ((List Int) × (List ((Int × Int) × Int × Ts × (Int × Int))) × (List (Int × Int))) => t.2.1) (fun _ => rfl) (x_v (eH false (e3 (eL false eI) (eL false (e4 (e2 eI eI) eI eS (e2 eI eI))) (eL false (e2 eI eI)))) u7_.1 rfl)) (ea_cons (x_pr (f := (eL false (e2 eI eI))) 2 (fun t : ((List Int) × (List ((Int × Int) × Int × Ts × (Int × Int))) × (List (Int × Int))) => t.2.2) (fun _ => rfl) (x_v (eH false (e3 (eL false eI) (eL false (e4 (e2 eI eI) eI eS (e2 eI eI))) (eL false (e2 eI eI)))) u7_.1 rfl)) ea_nil))))))) (fun _ => rfl) (fun (trail : OListed) => (b_clrH 6 8 [(u7_.1.1).map eI, (u7_.1.2.1).map (e4 (e2 eI eI) eI eS (e2 eI eI)), (u7_.1.2.2).map (e2 eI eI)] (by decide) rfl rfl rfl (b_asg (fun (found : (List ((Int × Int) × (Option Int)))) => [eC script, (eL false eI) sizes_here, (eL false (e2 eI eI)) nodes_here, (eL false (e4 (e2 eI eI) eI eS (e2 eI eI))) moves_here, (eL false (e2 eI eI)) ends_here, (eDN false (n2 nI nI) (eO eI)) due, (eL true eGn) (List.replicate 3 ()), (e_Listed false) trail, .gone, (eDN true (n2 nI nI) (eO eI)) found]) (eg_f (x_call T_priced (ea_cons (x_v (e_Listed false) trail rfl) ea_nil))) (fun _ => rfl) (fun (found : (List ((Int × Int) × (Option Int)))) => (b_ifT (et_or (et_not (et_tru (x_isC (fun _ => ⟨_, _, _, rfl⟩) (x_v (e_Listed false) trail rfl)))) (et_or (et_not (et_tru (x_callF T_lw_alike (ea_consW (x_v (eDN true (n2 nI nI) (eO eI)) found rfl) (ea_cons (x_v (eDN false (n2 nI nI) (eO eI)) due rfl) ea_nil))))) (et_b (x_m2 o2_nisB (x_callF T_fair (ea_cons (x_v (e_Listed false) trail rfl) (ea_consW (x_v (eDN true (n2 nI nI) (eO eI)) found rfl) ea_nil))) (x_k eB true rfl))))) (b_ret (k := fun (u11_ : Bool) => u11_) (eg_f (x_k eB false rfl)) (fun u11_ => ⟨rfl, ⟨.inl rfl, rfl⟩⟩)) (b_dputN (av := (eO eI)) (v := fun u12_ => u12_) (xs := fun u12_ => found) (fun p21_ => [eC script, (eL false eI) sizes_here, (eL false (e2 eI eI)) nodes_here, (eL false (e4 (e2 eI eI) eI eS (e2 eI eI))) moves_here, (eL false (e2 eI eI)) ends_here, (eDN false (n2 nI nI) (eO eI)) due, (eL true eGn) (List.replicate 3 ()), (e_Listed false) trail, .gone, (eDN true (n2 nI nI) (eO eI)) p21_.2]) (eg_f (x_map (e := eI) (f := (eO eI)) some (fun _ => rfl) (x_m1 o1_neg (x_k eI (5) rfl)))) (fun _ => rfl) (fun _ => rfl) (fun u12_ => (x_tup (f := (e2 eI eI)) (fun t : Int × Int × Unit => (t.1, t.2.1)) (ea_cons (x_k eI (0) rfl) (ea_cons (x_k eI (0) rfl) ea_nil)) (fun _ => rfl) (fun _ => (by decide : 2 ≤ LIM)))) (fun _ => rfl) (fun p21_ => (b_dputX (nk := (n2 nI nI)) (a := (eO eI)) 9 p21_.2 rfl rfl rfl rfl (b_ifT (et_or (et_not (et_tru (x_call T_lw_way (ea_cons (x_v (e_Listed false) trail rfl) (ea_cons (x_v (eL false (e4 (e2 eI eI) eI eS (e2 eI eI))) moves_here rfl) (ea_cons (x_v (eL false (e2 eI eI)) ends_here rfl) (ea_cons (x_v (eDN false (n2 nI nI) (eO eI)) due rfl) ea_nil))))))) (et_not (et_tru (x_call T_lw_way (ea_cons (x_v (e_Listed false) trail rfl) (ea_cons (x_v (eL false (e4 (e2 eI eI) eI eS (e2 eI eI))) moves_here rfl) (ea_cons (x_v (eL false (e2 eI eI)) ends_here rfl) (ea_cons (x_v (eDN false (n2 nI nI) (eO eI)) due rfl) ea_nil)))))))) (b_ret (k := fun (u17_ : Bool) => u17_) (eg_f (x_k eB false rfl)) (fun u17_ => ⟨rfl, ⟨.inl rfl, rfl⟩⟩)) (b_retI (eg_f (x_call T_lw_alike (ea_cons (x_cold (x_call T_priced (ea_cons (x_v (e_Listed false) trail rfl) ea_nil))) (ea_cons (x_v (eDN false (n2 nI nI) (eO eI)) due rfl) ea_nil)))) (fun u19_ => ⟨.inl rfl, rfl⟩))))))))))))))))))))))))
  refine run_T (n := 10) (kp := [true]) (m := m_law) (ds := [eC script]) rfl hb ?_
  first
    | (simp -implicitDefEqProofs only [t_law, Option.bind_assoc, Option.bind_some, bind_same] at h ⊢; exact h)
    | (simp -implicitDefEqProofs only [t_law, Option.bind_assoc, Option.bind_some, bind_same] at h; exact h)
    | exact h
    | (simp [t_law] at h ⊢; exact h)
end LW

namespace LW
open PySem L2 LI OW
theorem all_nodesL {ss : List Int} {ms : List Mx} {es : List Nd} {T : OListed} (D : DrawOk ss ms es) (L : Lsd ss ms es T) : t_all_nodes T = some (nodesL ss) := by
  unfold t_all_nodes
  dsimp only
  have hs5 := D.s5
  have hs1 := D.s1
  have hn := nodes_len D.s5 D.s3
  rw [show t_Listed_last_at T = some ((List.length T.sizes : Int) - 1) from rfl, L.sz, Option.bind_some, Option.bind_some, rngT_ok (by omega) (by omega), Option.bind_some, show ((ss.length : Int) - 1 + 1).toNat = ss.length by omega]
  have main : ∀ b, b ≤ ss.length → foldT (fun (s4_ : (List (Int × Int))) (at_ : Int) =>
  (((t_Listed_nodes_at T at_).bind fun r5_ => (catL s4_ r5_).bind fun z6_ => some (r5_, z6_))).bind fun (u7_ : ((List (Int × Int)) × (List (Int × Int)))) =>
  some u7_.2) ((List.range b).map fun (k : Nat) => (k : Int)) [] = some ((List.range b).flatMap fun a => ((List.range (ss.getD a 0).toNat).map fun (k : Nat) => ((a : Int), (k : Int)))) ∧ ((List.range b).flatMap fun a => ((List.range (ss.getD a 0).toNat).map fun (k : Nat) => ((a : Int), (k : Int)))).length ≤ 3 * b := by
    intro b
    induction b with
    | zero => intro _; exact ⟨rfl, Nat.le_refl _⟩
    | succ b ih =>
      intro hb
      obtain ⟨e1, e2⟩ := ih (by omega)
      have hs : ss.getD b 0 = ss[b] := by rw [List.getD_eq_getElem?_getD, List.getElem?_eq_getElem (by omega)]; rfl
      have hb3 := D.s3 _ (List.getElem_mem (show b < ss.length by omega))
      rw [← hs] at hb3
      refine ⟨?_, ?_⟩
      · rw [List.range_succ, List.map_append, foldT_app, e1, Option.bind_some, List.map_cons, List.map_nil, foldT_cons]
        rw [ndsL (ms := ms) (es := es) L D.s3 (by omega), Option.bind_some]
        rw [show (TL ss ms es).nds b = ((List.range (ss.getD b 0).toNat).map fun (k : Nat) => ((b : Int), (k : Int))) from rfl]
        rw [catL_ok (by rw [List.length_map, List.length_range]; unfold LIM; omega), Option.bind_some, Option.bind_some, Option.bind_some, foldT_nil, List.flatMap_append, List.flatMap_cons, List.flatMap_nil, List.append_nil]
      · rw [List.range_succ, List.flatMap_append, List.flatMap_cons, List.flatMap_nil, List.append_nil, List.length_append, List.length_map, List.length_range]
        omega
  exact (congrArg (Option.bind · _) (main ss.length (Nat.le_refl _)).1).trans rfl
section
variable {ss : List Int} {ms : List Mx} {es : List Nd} {T : OListed} {m : Pd}
theorem keyL (D : DrawOk ss ms es) (P : TR.Priced (TL ss ms es) m) {n : Nd} (h : n ∈ nodesL ss) : getT m n = some (TR.val m n) :=
  TR.getT_val ((P.keys n).mpr ((in_TL D.s1 n).mpr h))
theorem fair_atL (D : DrawOk ss ms es) (L : Lsd ss ms es T) (P : TR.Priced (TL ss ms es) m) {n : Nd} (h : n ∈ nodesL ss) : t_fair_at T m n = some true := by
  unfold t_fair_at
  have hn := (in_TL (ms := ms) (es := es) D.s1 n).mpr h
  rw [keyL D P h, Option.bind_some, L.en, Option.bind_some]
  have e1 : (if memT n es = true then (if (Option.isNone (TR.val m n)) = true then some true else ((TR.val m n).bind fun v2_ => some (decide ((0 : Int) < v2_)))) else some false) = some false := by
    by_cases z : memT n es = true
    · rw [if_pos z, P.ends n hn z]; rfl
    · rw [if_neg z]
  rw [e1, Option.bind_some, if_neg (by decide), L.mv, Option.bind_some, Option.bind_some]
  rw [forT_unit _ (fun x hx => by
    have hx2 := (D.mq _ (mvs_mem hx)).2.1
    rw [keyL D P hx2, Option.bind_some]
    cases z : TR.val m x.2.2 with
    | none => rfl
    | some r =>
      obtain ⟨v, e, q⟩ := P.fair n hn x hx r z _ rfl
      rw [e]
      simp; omega)]
  rfl
theorem fairL (D : DrawOk ss ms es) (L : Lsd ss ms es T) (P : TR.Priced (TL ss ms es) m) (hml : m.length = (nodesL ss).length) : t_fair T m = some true := by
  unfold t_fair
  rw [all_nodesL D L, Option.bind_some, if_neg (by rw [hml]; simp)]
  rw [forT_unit _ (fun n hn => by
    rw [keyL D P hn, if_neg (by simp), Option.bind_some]
    have : t_is_price (TR.val m n) = some true := by
      cases TR.val m n <;> rfl
    rw [this]; rfl), Option.bind_some, seqT_inl]
  rw [forT_unit _ (fun n hn => by rw [fair_atL D L P hn]; rfl)]
  rfl
theorem keysT_eq {κ α : Type} (m : List (κ × α)) : keysT m = m.map (·.1) := rfl
theorem alikeL (D : DrawOk ss ms es) (P : TR.Priced (TL ss ms es) m) (hml : m.length = (nodesL ss).length) {due : Pd} (hk : due.map (·.1) = nodesL ss) (hv : ∀ n, TR.val due n = TR.val m n) : t_lw_alike_d m due = some true := by
  unfold t_lw_alike_d
  have hdl : due.length = (nodesL ss).length := by rw [← hk, List.length_map]
  rw [if_neg (by rw [hml, hdl]; simp), keysT_eq, hk]
  rw [forT_unit _ (fun n hn => by
    have hd : getT due n = some (TR.val m n) := by rw [TR.getT_val (by rw [hk]; exact hn), hv]
    rw [keyL D P hn, hd]
    cases z : TR.val m n with
    | none => rfl
    | some v =>
      simp -implicitDefEqProofs only [Option.bind_some, Option.isSome_some, Bool.not_true, Bool.false_eq_true, if_false, Option.isNone_some, if_true]
      rw [show t_lw_whole_c (some v) = some true from rfl]
      simp)]
  rfl
theorem wk_path (D : DrawOk ss ms es) (P : TR.Priced (TL ss ms es) m) {n : Nd} {names : List Ts} (h : TR.Path (TL ss ms es) m n names) : ∀ t d, TR.val m n = some d → wk ms es names n t = some (t + d) := by
  induction h with
  | done n hn he =>
    intro t d hd
    rw [P.ends n hn he] at hd
    cases hd
    unfold wk
    rw [if_pos (show memT n es = true from he), Int.add_zero]
  | step n x names r hn he hx hr hd hp ih =>
    intro t d hd'
    rw [hd] at hd'
    cases hd'
    unfold wk
    have hx' : x ∈ mvs ms n := hx
    have hm := here_mvs ms n x.2.1
    cases hz : hereN ms n x.2.1 with
    | nil =>
      rw [hz, List.map_nil] at hm
      have : x ∈ (mvs ms n).filter fun s => decide (s.2.1 = x.2.1) := List.mem_filter.mpr ⟨hx', by simp⟩
      rw [hm] at this
      cases this
    | cons y rest =>
      rw [hz, List.map_cons] at hm
      have hy : y.2 ∈ (mvs ms n).filter fun s => decide (s.2.1 = x.2.1) := by rw [hm]; exact List.mem_cons_self
      obtain ⟨hy1, hy2⟩ := List.mem_filter.mp hy
      have hy2 : y.2.2.1 = x.2.1 := by simpa using hy2
      obtain ⟨i, hi⟩ := List.getElem?_of_mem hy1
      obtain ⟨j, hj⟩ := List.getElem?_of_mem hx'
      have e1 := D.nm n i y.2 hi
      have e2 := D.nm n j x hj
      rw [hy2, e2] at e1
      subst e1
      rw [hi] at hj
      cases hj
      dsimp only
      rw [ih (t + y.2.1) r hr]
      congr 1; omega
theorem path_len (D : DrawOk ss ms es) (P : TR.Priced (TL ss ms es) m) {n : Nd} {names : List Ts} (h : TR.Path (TL ss ms es) m n names) : names.length ≤ TR.rank (TL ss ms es) m n := by
  induction h with
  | done n hn he => exact Nat.zero_le _
  | step n x names r hn he hx hr hd hp ih =>
    have := TR.rank_lt (trOkL D) P hn hx hr hd
    rw [List.length_cons]; omega
theorem way_g (T : OListed) : t_way_of_c T = TR.gWay 5000 (t_Listed_moves_from T) (t_priced_d T) (t_Listed_is_end T) (t_Listed_first_node T) := by
  unfold t_way_of_c TR.gWay
  simp only [Option.bind_assoc, Option.bind_some]
  rfl
theorem rank_le (n : Nd) (T : TR.Tr Nd) : TR.rank T m n ≤ m.length := by
  unfold TR.rank
  have := List.length_filter_le (TR.below T m n) (m.map (·.1))
  rwa [List.length_map] at this
theorem wayL (D : DrawOk ss ms es) (L : Lsd ss ms es T) (P : TR.Priced (TL ss ms es) m) (hp : t_priced_d T = some m) (hml : m.length = (nodesL ss).length) (h0 : ((0 : Int), (0 : Int)) ∈ nodesL ss) : (TR.val m (0, 0) = none ∧ t_way_of_c T = some none) ∨ ∃ d names, TR.val m (0, 0) = some d ∧ t_way_of_c T = some (some (some d, names)) ∧ TR.Path (TL ss ms es) m (0, 0) names ∧ names.length ≤ 15 := by
  have hnl := nodes_len D.s5 D.s3
  rw [way_g, hp]
  rcases TR.way_ok (trOkL D) P (f2 := 5000) (mv := t_Listed_moves_from T) (isEnd := t_Listed_is_end T) (fun n _ => L.mv n) (fun n _ => L.en n) ((in_TL D.s1 _).mpr h0) (by omega) (by unfold LIM; omega) with ⟨a, b⟩ | ⟨d, names, a, b, c⟩
  · exact .inl ⟨a, b⟩
  · refine .inr ⟨d, names, a, b, c, ?_⟩
    have h1 := path_len D P c
    have h2 := rank_le (m := m) ((0 : Int), (0 : Int)) (TL ss ms es)
    omega
theorem lw_wayL (D : DrawOk ss ms es) (L : Lsd ss ms es T) (P : TR.Priced (TL ss ms es) m) (hp : t_priced_d T = some m) (hml : m.length = (nodesL ss).length) (h0 : ((0 : Int), (0 : Int)) ∈ nodesL ss) {due : Pd} (hk : due.map (·.1) = nodesL ss) (hv : ∀ n, TR.val due n = TR.val m n) : t_lw_way T ms es due = some true := by
  unfold t_lw_way
  have hd : getT due ((0 : Int), (0 : Int)) = some (TR.val m (0, 0)) := by rw [TR.getT_val (by rw [hk]; exact h0), hv]
  have hml' := D.ml
  rcases wayL D L P hp hml h0 with ⟨a, b⟩ | ⟨d, names, a, b, c, hn⟩
  · rw [b, Option.bind_some, hd, a]; rfl
  · rw [b, Option.bind_some, hd, a]
    simp -implicitDefEqProofs only [Option.bind_some, Option.isNone_some, Option.isSome_some, Bool.and_true, Bool.not_true, Bool.false_eq_true, if_false, decide_true]
    rw [show t_lw_whole_c (some d) = some true from rfl]
    simp -implicitDefEqProofs only [Option.bind_some, Bool.not_true, Bool.false_eq_true, if_false]
    have hw := wk_path D P c 0 d a
    rw [Int.zero_add] at hw
    rw [lw_walked_eq ms es (by omega), walked_eq L (by omega), hw]
    simp -implicitDefEqProofs only [Option.bind_some, Bool.not_true, Bool.false_eq_true, if_false, decide_true]
    rw [appT_ok (by unfold LIM; omega)]
    rfl
end
theorem first_in {ss : List Int} (h : 1 ≤ ss.length) (h3 : ∀ s ∈ ss, 1 ≤ s ∧ s ≤ 3) : ((0 : Int), (0 : Int)) ∈ nodesL ss := by
  have hs : ss.getD 0 0 = ss[0] := by rw [List.getD_eq_getElem?_getD, List.getElem?_eq_getElem h]; rfl
  have := h3 _ (List.getElem_mem h)
  unfold nodesL
  exact List.mem_flatMap.mpr ⟨0, List.mem_range.mpr (by omega), List.mem_map.mpr ⟨0, List.mem_range.mpr (by rw [hs]; omega), rfl⟩⟩
theorem law_t (ns : List Int) (hl : ns.length ≤ 63) (hb : ∀ z ∈ ns, Builtin.Int.intBits z ≤ 1048576) : t_law ns = some true := by
  unfold t_law
  rw [show t_lw_cell ns 0 = some (ns.getD 0 0) from cell_eq ns 0, Option.bind_some]
  obtain ⟨ss, e1, s1, s2, s3⟩ := sizes_ex (ns.getD 0 0)
  rw [e1, Option.bind_some, nodes_eqL s2 s3, Option.bind_some]
  have hne := nodes_ne s1 s3
  have hnl := nodes_len s2 s3
  obtain ⟨ms, e2, m1, m2, m3⟩ := moves_ex ns hl hne hnl
  rw [e2, Option.bind_some, show t_lw_cell ns 1 = some (ns.getD 1 0) from cell_eq ns 1, Option.bind_some]
  obtain ⟨es, e3, _, q3⟩ := ends_ex (ns.getD 1 0) hne hnl
  have D : DrawOk ss ms es := ⟨s1, s2, s3, m1, m2, m3, q3⟩
  obtain ⟨T, e4, L⟩ := lsd_ex ss ms es (by omega)
  obtain ⟨m, e5, P, hml⟩ := pricedL D L
  obtain ⟨due, e6, k6, v6⟩ := least_ok D P hml
  have h0 := first_in s1 s3
  rw [e3, Option.bind_some, e6, Option.bind_some]
  simp -implicitDefEqProofs only [Option.bind_some]
  rw [e4, Option.bind_some, e5, Option.bind_some, alikeL D P hml k6 v6, Option.bind_some, Option.bind_some, fairL D L P hml, Option.bind_some]
  simp -implicitDefEqProofs only [Bool.not_true, Bool.false_eq_true, if_false, Option.bind_some, decide_true]
  obtain ⟨m', f1, f2, _⟩ := TR.put_old (m := m) (n := ((0 : Int), (0 : Int))) (v := some (-5 : Int)) ((P.keys _).mpr ((in_TL D.s1 _).mpr h0)) (by unfold LIM; omega)
  have hm' : m'.length = m.length := by have := congrArg List.length f2; rwa [List.length_map, List.length_map] at this
  rw [f1, Option.bind_some, if_pos (by cases m' with | nil => (have := nodes_ne s1 s3; have := List.length_pos_iff.mpr this; simp at hm'; omega) | cons => rfl), lw_wayL D L P e5 hml h0 k6 v6]
  simp -implicitDefEqProofs only [Option.bind_some, Bool.not_true, Bool.false_eq_true, if_false]
  exact alikeL D P hml k6 v6
end LW

namespace LW
open PySem L2 PyProof.Rows LI
def topS (i : Nat) : Stmt := PySem.Challenge.pw_outweave_k31_prices_and_least_ways.main.body.getD i (.Pass ⟨0, 0, 0, 0⟩)
abbrev s_Listed_init : Stmt := L2.inClass (topS 2) 0
abbrev N_Listed_init : List Str := ["self", "sizes", "moves", "ends", "node", "cost", "name", "beyond"]
theorem sc_Listed_init : FnScope N_Listed_init ["self", "sizes", "moves", "ends"] (defScope s_Listed_init) := ⟨rfl, rfl, rfl, by decide +kernel, rfl, by decide +kernel, by decide +kernel⟩
abbrev s_Listed_first_node : Stmt := L2.inClass (topS 2) 1
abbrev N_Listed_first_node : List Str := ["self"]
theorem sc_Listed_first_node : FnScope N_Listed_first_node ["self"] (defScope s_Listed_first_node) := ⟨rfl, rfl, rfl, by decide +kernel, rfl, by decide +kernel, by decide +kernel⟩
abbrev s_Listed_last_at : Stmt := L2.inClass (topS 2) 2
abbrev N_Listed_last_at : List Str := ["self"]
theorem sc_Listed_last_at : FnScope N_Listed_last_at ["self"] (defScope s_Listed_last_at) := ⟨rfl, rfl, rfl, by decide +kernel, rfl, by decide +kernel, by decide +kernel⟩
abbrev s_Listed_nodes_at : Stmt := L2.inClass (topS 2) 3
abbrev N_Listed_nodes_at : List Str := ["self", "at", "state"]
theorem sc_Listed_nodes_at : FnScope N_Listed_nodes_at ["self", "at"] (defScope s_Listed_nodes_at) := ⟨rfl, rfl, rfl, by decide +kernel, rfl, by decide +kernel, by decide +kernel⟩
abbrev s_Listed_moves_from : Stmt := L2.inClass (topS 2) 4
abbrev N_Listed_moves_from : List Str := ["self", "node"]
theorem sc_Listed_moves_from : FnScope N_Listed_moves_from ["self", "node"] (defScope s_Listed_moves_from) := ⟨rfl, rfl, rfl, by decide +kernel, rfl, by decide +kernel, by decide +kernel⟩
abbrev s_Listed_is_end : Stmt := L2.inClass (topS 2) 5
abbrev N_Listed_is_end : List Str := ["self", "node"]
theorem sc_Listed_is_end : FnScope N_Listed_is_end ["self", "node"] (defScope s_Listed_is_end) := ⟨rfl, rfl, rfl, by decide +kernel, rfl, by decide +kernel, by decide +kernel⟩
abbrev s_cheapest : Stmt := topS 3
abbrev N_cheapest : List Str := ["trail", "prices", "node", "found", "cost", "name", "beyond", "rest"]
theorem sc_cheapest : FnScope N_cheapest ["trail", "prices", "node"] (defScope s_cheapest) := ⟨rfl, rfl, rfl, by decide +kernel, rfl, by decide +kernel, by decide +kernel⟩
abbrev s_settle : Stmt := topS 4
abbrev N_settle : List Str := ["trail", "prices", "here", "falls", "node", "found"]
theorem sc_settle : FnScope N_settle ["trail", "prices", "here"] (defScope s_settle) := ⟨rfl, rfl, rfl, by decide +kernel, rfl, by decide +kernel, by decide +kernel⟩
abbrev s_priced : Stmt := topS 5
abbrev N_priced : List Str := ["trail", "prices", "back", "here", "node"]
theorem sc_priced : FnScope N_priced ["trail"] (defScope s_priced) := ⟨rfl, rfl, rfl, by decide +kernel, rfl, by decide +kernel, by decide +kernel⟩
abbrev s_first_least : Stmt := topS 6
abbrev N_first_least : List Str := ["trail", "prices", "node", "cost", "name", "beyond"]
theorem sc_first_least : FnScope N_first_least ["trail", "prices", "node"] (defScope s_first_least) := ⟨rfl, rfl, rfl, by decide +kernel, rfl, by decide +kernel, by decide +kernel⟩
abbrev s_way_of : Stmt := topS 7
abbrev N_way_of : List Str := ["trail", "prices", "node", "names", "name"]
theorem sc_way_of : FnScope N_way_of ["trail"] (defScope s_way_of) := ⟨rfl, rfl, rfl, by decide +kernel, rfl, by decide +kernel, by decide +kernel⟩
abbrev s_walked : Stmt := topS 8
abbrev N_walked : List Str := ["trail", "names", "total", "node", "name", "found", "move"]
theorem sc_walked : FnScope N_walked ["trail", "names"] (defScope s_walked) := ⟨rfl, rfl, rfl, by decide +kernel, rfl, by decide +kernel, by decide +kernel⟩
abbrev s_all_nodes : Stmt := topS 9
abbrev N_all_nodes : List Str := ["trail", "found", "at"]
theorem sc_all_nodes : FnScope N_all_nodes ["trail"] (defScope s_all_nodes) := ⟨rfl, rfl, rfl, by decide +kernel, rfl, by decide +kernel, by decide +kernel⟩
abbrev s_is_price : Stmt := topS 10
abbrev N_is_price : List Str := ["thing"]
theorem sc_is_price : FnScope N_is_price ["thing"] (defScope s_is_price) := ⟨rfl, rfl, rfl, by decide +kernel, rfl, by decide +kernel, by decide +kernel⟩
abbrev s_fair_at : Stmt := topS 11
abbrev N_fair_at : List Str := ["trail", "prices", "node", "price", "cost", "name", "beyond", "rest"]
theorem sc_fair_at : FnScope N_fair_at ["trail", "prices", "node"] (defScope s_fair_at) := ⟨rfl, rfl, rfl, by decide +kernel, rfl, by decide +kernel, by decide +kernel⟩
abbrev s_fair : Stmt := topS 12
abbrev N_fair : List Str := ["trail", "prices", "nodes", "node"]
theorem sc_fair : FnScope N_fair ["trail", "prices"] (defScope s_fair) := ⟨rfl, rfl, rfl, by decide +kernel, rfl, by decide +kernel, by decide +kernel⟩
abbrev s_lw_cell_at : Stmt := topS 14
abbrev N_lw_cell_at : List Str := ["_law_script", "_law_k"]
theorem sc_lw_cell_at : FnScope N_lw_cell_at ["_law_script", "_law_k"] (defScope s_lw_cell_at) := ⟨rfl, rfl, rfl, by decide +kernel, rfl, by decide +kernel, by decide +kernel⟩
abbrev s_lw_mix : Stmt := topS 15
abbrev N_lw_mix : List Str := ["_law_cell", "_law_k", "_law_rest", "_law_turn", "_law_number"]
theorem sc_lw_mix : FnScope N_lw_mix ["_law_cell", "_law_k"] (defScope s_lw_mix) := ⟨rfl, rfl, rfl, by decide +kernel, rfl, by decide +kernel, by decide +kernel⟩
abbrev s_lw_whole : Stmt := topS 16
abbrev N_lw_whole : List Str := ["_law_thing"]
theorem sc_lw_whole : FnScope N_lw_whole ["_law_thing"] (defScope s_lw_whole) := ⟨rfl, rfl, rfl, by decide +kernel, rfl, by decide +kernel, by decide +kernel⟩
abbrev s_lw_sizes : Stmt := topS 17
abbrev N_lw_sizes : List Str := ["_law_cell", "_law_k"]
theorem sc_lw_sizes : FnScope N_lw_sizes ["_law_cell"] (defScope s_lw_sizes) := ⟨rfl, rfl, rfl, by decide +kernel, rfl, by decide +kernel, by decide +kernel⟩
abbrev s_lw_nodes : Stmt := topS 18
abbrev N_lw_nodes : List Str := ["_law_sizes_here", "_law_nodes_here", "_law_at", "_law_state"]
theorem sc_lw_nodes : FnScope N_lw_nodes ["_law_sizes_here"] (defScope s_lw_nodes) := ⟨rfl, rfl, rfl, by decide +kernel, rfl, by decide +kernel, by decide +kernel⟩
abbrev s_lw_moves : Stmt := topS 19
abbrev N_lw_moves : List Str := ["_law_script", "_law_nodes_here", "_law_moves_here", "_law_many", "_law_cell", "_law_one", "_law_beyond", "_law_other", "_law_cost", "_law_node"]
theorem sc_lw_moves : FnScope N_lw_moves ["_law_script", "_law_nodes_here"] (defScope s_lw_moves) := ⟨rfl, rfl, rfl, by decide +kernel, rfl, by decide +kernel, by decide +kernel⟩
abbrev s_lw_ends : Stmt := topS 20
abbrev N_lw_ends : List Str := ["_law_cell", "_law_nodes_here", "_law_ends_here", "_law_k"]
theorem sc_lw_ends : FnScope N_lw_ends ["_law_cell", "_law_nodes_here"] (defScope s_lw_ends) := ⟨rfl, rfl, rfl, by decide +kernel, rfl, by decide +kernel, by decide +kernel⟩
abbrev s_lw_least : Stmt := topS 21
abbrev N_lw_least : List Str := ["_law_nodes_here", "_law_moves_here", "_law_ends_here", "_law_prices", "_law_node", "_law_turn", "_law_one", "_law_cost", "_law_name", "_law_other", "_law_rest"]
theorem sc_lw_least : FnScope N_lw_least ["_law_nodes_here", "_law_moves_here", "_law_ends_here"] (defScope s_lw_least) := ⟨rfl, rfl, rfl, by decide +kernel, rfl, by decide +kernel, by decide +kernel⟩
abbrev s_lw_walked : Stmt := topS 22
abbrev N_lw_walked : List Str := ["_law_moves_here", "_law_ends_here", "_law_names", "_law_node", "_law_total", "_law_name", "_law_here", "_law_move"]
theorem sc_lw_walked : FnScope N_lw_walked ["_law_moves_here", "_law_ends_here", "_law_names"] (defScope s_lw_walked) := ⟨rfl, rfl, rfl, by decide +kernel, rfl, by decide +kernel, by decide +kernel⟩
abbrev s_lw_alike : Stmt := topS 23
abbrev N_lw_alike : List Str := ["_law_found", "_law_due", "_law_node"]
theorem sc_lw_alike : FnScope N_lw_alike ["_law_found", "_law_due"] (defScope s_lw_alike) := ⟨rfl, rfl, rfl, by decide +kernel, rfl, by decide +kernel, by decide +kernel⟩
abbrev s_lw_way : Stmt := topS 24
abbrev N_lw_way : List Str := ["_law_trail", "_law_moves_here", "_law_ends_here", "_law_due", "_law_found"]
theorem sc_lw_way : FnScope N_lw_way ["_law_trail", "_law_moves_here", "_law_ends_here", "_law_due"] (defScope s_lw_way) := ⟨rfl, rfl, rfl, by decide +kernel, rfl, by decide +kernel, by decide +kernel⟩
abbrev s_law : Stmt := topS 25
abbrev N_law : List Str := ["_law_script", "_law_sizes_here", "_law_nodes_here", "_law_moves_here", "_law_ends_here", "_law_due", "_law_handed", "_law_trail", "_law_thing", "_law_found"]
theorem sc_law : FnScope N_law ["_law_script"] (defScope s_law) := ⟨rfl, rfl, rfl, by decide +kernel, rfl, by decide +kernel, by decide +kernel⟩
structure Tx (K : PySem.W.Frag) (mg : Str → Option Value) (w : World) where
  cl : Nat → Addr
  a_Listed_init : Addr
  d_Listed_init : FuncData
  f_Listed_init : Fun K "__init__" "Listed.__init__" s_Listed_init a_Listed_init d_Listed_init
  b_Listed_init : Binds K d_Listed_init ["self", "sizes", "moves", "ends"] []
  a_Listed_first_node : Addr
  d_Listed_first_node : FuncData
  f_Listed_first_node : Fun K "first_node" "Listed.first_node" s_Listed_first_node a_Listed_first_node d_Listed_first_node
  b_Listed_first_node : Binds K d_Listed_first_node ["self"] []
  a_Listed_last_at : Addr
  d_Listed_last_at : FuncData
  f_Listed_last_at : Fun K "last_at" "Listed.last_at" s_Listed_last_at a_Listed_last_at d_Listed_last_at
  b_Listed_last_at : Binds K d_Listed_last_at ["self"] []
  a_Listed_nodes_at : Addr
  d_Listed_nodes_at : FuncData
  f_Listed_nodes_at : Fun K "nodes_at" "Listed.nodes_at" s_Listed_nodes_at a_Listed_nodes_at d_Listed_nodes_at
  b_Listed_nodes_at : Binds K d_Listed_nodes_at ["self", "at"] []
  a_Listed_moves_from : Addr
  d_Listed_moves_from : FuncData
  f_Listed_moves_from : Fun K "moves_from" "Listed.moves_from" s_Listed_moves_from a_Listed_moves_from d_Listed_moves_from
  b_Listed_moves_from : Binds K d_Listed_moves_from ["self", "node"] []
  a_Listed_is_end : Addr
  d_Listed_is_end : FuncData
  f_Listed_is_end : Fun K "is_end" "Listed.is_end" s_Listed_is_end a_Listed_is_end d_Listed_is_end
  b_Listed_is_end : Binds K d_Listed_is_end ["self", "node"] []
  a_cheapest : Addr
  d_cheapest : FuncData
  f_cheapest : Fun K "cheapest" "cheapest" s_cheapest a_cheapest d_cheapest
  b_cheapest : Binds K d_cheapest ["trail", "prices", "node"] []
  g_cheapest : mg "cheapest" = some (.ref a_cheapest)
  a_settle : Addr
  d_settle : FuncData
  f_settle : Fun K "settle" "settle" s_settle a_settle d_settle
  b_settle : Binds K d_settle ["trail", "prices", "here"] []
  g_settle : mg "settle" = some (.ref a_settle)
  a_priced : Addr
  d_priced : FuncData
  f_priced : Fun K "priced" "priced" s_priced a_priced d_priced
  b_priced : Binds K d_priced ["trail"] []
  g_priced : mg "priced" = some (.ref a_priced)
  a_first_least : Addr
  d_first_least : FuncData
  f_first_least : Fun K "first_least" "first_least" s_first_least a_first_least d_first_least
  b_first_least : Binds K d_first_least ["trail", "prices", "node"] []
  g_first_least : mg "first_least" = some (.ref a_first_least)
  a_way_of : Addr
  d_way_of : FuncData
  f_way_of : Fun K "way_of" "way_of" s_way_of a_way_of d_way_of
  b_way_of : Binds K d_way_of ["trail"] []
  g_way_of : mg "way_of" = some (.ref a_way_of)
  a_walked : Addr
  d_walked : FuncData
  f_walked : Fun K "walked" "walked" s_walked a_walked d_walked
  b_walked : Binds K d_walked ["trail", "names"] []
  g_walked : mg "walked" = some (.ref a_walked)
  a_all_nodes : Addr
  d_all_nodes : FuncData
  f_all_nodes : Fun K "all_nodes" "all_nodes" s_all_nodes a_all_nodes d_all_nodes
  b_all_nodes : Binds K d_all_nodes ["trail"] []
  g_all_nodes : mg "all_nodes" = some (.ref a_all_nodes)
  a_is_price : Addr
  d_is_price : FuncData
  f_is_price : Fun K "is_price" "is_price" s_is_price a_is_price d_is_price
  b_is_price : Binds K d_is_price ["thing"] []
  g_is_price : mg "is_price" = some (.ref a_is_price)
  a_fair_at : Addr
  d_fair_at : FuncData
  f_fair_at : Fun K "fair_at" "fair_at" s_fair_at a_fair_at d_fair_at
  b_fair_at : Binds K d_fair_at ["trail", "prices", "node"] []
  g_fair_at : mg "fair_at" = some (.ref a_fair_at)
  a_fair : Addr
  d_fair : FuncData
  f_fair : Fun K "fair" "fair" s_fair a_fair d_fair
  b_fair : Binds K d_fair ["trail", "prices"] []
  g_fair : mg "fair" = some (.ref a_fair)
  a_lw_cell_at : Addr
  d_lw_cell_at : FuncData
  f_lw_cell_at : Fun K "_law_cell_at" "_law_cell_at" s_lw_cell_at a_lw_cell_at d_lw_cell_at
  b_lw_cell_at : Binds K d_lw_cell_at ["_law_script", "_law_k"] []
  g_lw_cell_at : mg "_law_cell_at" = some (.ref a_lw_cell_at)
  a_lw_mix : Addr
  d_lw_mix : FuncData
  f_lw_mix : Fun K "_law_mix" "_law_mix" s_lw_mix a_lw_mix d_lw_mix
  b_lw_mix : Binds K d_lw_mix ["_law_cell", "_law_k"] []
  g_lw_mix : mg "_law_mix" = some (.ref a_lw_mix)
  a_lw_whole : Addr
  d_lw_whole : FuncData
  f_lw_whole : Fun K "_law_whole" "_law_whole" s_lw_whole a_lw_whole d_lw_whole
  b_lw_whole : Binds K d_lw_whole ["_law_thing"] []
  g_lw_whole : mg "_law_whole" = some (.ref a_lw_whole)
  a_lw_sizes : Addr
  d_lw_sizes : FuncData
  f_lw_sizes : Fun K "_law_sizes" "_law_sizes" s_lw_sizes a_lw_sizes d_lw_sizes
  b_lw_sizes : Binds K d_lw_sizes ["_law_cell"] []
  g_lw_sizes : mg "_law_sizes" = some (.ref a_lw_sizes)
  a_lw_nodes : Addr
  d_lw_nodes : FuncData
  f_lw_nodes : Fun K "_law_nodes" "_law_nodes" s_lw_nodes a_lw_nodes d_lw_nodes
  b_lw_nodes : Binds K d_lw_nodes ["_law_sizes_here"] []
  g_lw_nodes : mg "_law_nodes" = some (.ref a_lw_nodes)
  a_lw_moves : Addr
  d_lw_moves : FuncData
  f_lw_moves : Fun K "_law_moves" "_law_moves" s_lw_moves a_lw_moves d_lw_moves
  b_lw_moves : Binds K d_lw_moves ["_law_script", "_law_nodes_here"] []
  g_lw_moves : mg "_law_moves" = some (.ref a_lw_moves)
  a_lw_ends : Addr
  d_lw_ends : FuncData
  f_lw_ends : Fun K "_law_ends" "_law_ends" s_lw_ends a_lw_ends d_lw_ends
  b_lw_ends : Binds K d_lw_ends ["_law_cell", "_law_nodes_here"] []
  g_lw_ends : mg "_law_ends" = some (.ref a_lw_ends)
  a_lw_least : Addr
  d_lw_least : FuncData
  f_lw_least : Fun K "_law_least" "_law_least" s_lw_least a_lw_least d_lw_least
  b_lw_least : Binds K d_lw_least ["_law_nodes_here", "_law_moves_here", "_law_ends_here"] []
  g_lw_least : mg "_law_least" = some (.ref a_lw_least)
  a_lw_walked : Addr
  d_lw_walked : FuncData
  f_lw_walked : Fun K "_law_walked" "_law_walked" s_lw_walked a_lw_walked d_lw_walked
  b_lw_walked : Binds K d_lw_walked ["_law_moves_here", "_law_ends_here", "_law_names"] []
  g_lw_walked : mg "_law_walked" = some (.ref a_lw_walked)
  a_lw_alike : Addr
  d_lw_alike : FuncData
  f_lw_alike : Fun K "_law_alike" "_law_alike" s_lw_alike a_lw_alike d_lw_alike
  b_lw_alike : Binds K d_lw_alike ["_law_found", "_law_due"] []
  g_lw_alike : mg "_law_alike" = some (.ref a_lw_alike)
  a_lw_way : Addr
  d_lw_way : FuncData
  f_lw_way : Fun K "_law_way" "_law_way" s_lw_way a_lw_way d_lw_way
  b_lw_way : Binds K d_lw_way ["_law_trail", "_law_moves_here", "_law_ends_here", "_law_due"] []
  g_lw_way : mg "_law_way" = some (.ref a_lw_way)
  a_law : Addr
  d_law : FuncData
  f_law : Fun K "law" "law" s_law a_law d_law
  b_law : Binds K d_law ["_law_script"] []
  g_law : mg "law" = some (.ref a_law)
  z_bool : mg "bool" = none
  z_dict : mg "dict" = none
  z_int : mg "int" = none
  z_isinstance : mg "isinstance" = none
  z_len : mg "len" = none
  z_list : mg "list" = none
  z_range : mg "range" = none
  z_tuple : mg "tuple" = none
  cls_Trail : Cls K (cl 0)
  gc_Trail : mg "Trail" = some (.ref (cl 0))
  cls_Listed : Cls K (cl 1)
  gc_Listed : mg "Listed" = some (.ref (cl 1))
  na_Listed_sizes : NoAttr K (cl 1) "sizes"
  na_Listed_steps : NoAttr K (cl 1) "steps"
  na_Listed_shut : NoAttr K (cl 1) "shut"
  me_Listed_moves_from : Meth K (cl 1) "moves_from" a_Listed_moves_from
  me_Listed_last_at : Meth K (cl 1) "last_at" a_Listed_last_at
  me_Listed_nodes_at : Meth K (cl 1) "nodes_at" a_Listed_nodes_at
  me_Listed_is_end : Meth K (cl 1) "is_end" a_Listed_is_end
  me_Listed_first_node : Meth K (cl 1) "first_node" a_Listed_first_node
  mk_Listed : Mk K (cl 1) a_Listed_init
  is_Listed_Trail : IsC K (cl 1) (cl 0) true
section
variable {P : Program} {w : World} {K : PySem.W.Frag} {mg : Str → Option Value} {base : Heap}
theorem ok_Listed_init (T : Tx K mg w) : FnOk P w K mg base CX0 1 T.a_Listed_init T.d_Listed_init ["self", "sizes", "moves", "ends"] (spD ⟨K, T.cl, w⟩ F_Listed_init) := by
  refine ok_def (N := N_Listed_init) (m := m_Listed_init) (kp := [true, true, true, true]) T.f_Listed_init sc_Listed_init rfl (fun cdv A outer s H XE en ek hr => ?_)
  have hu := hr.units
  have nd := (sc_Listed_init).nd
  exact (s_cons (s_fld 1 T.cls_Listed T.na_Listed_sizes (g_f (f_bty call_list_of op_listD (by rfl) T.z_list (by decide +kernel) (a_cons (r_v 1) a_nil))) (p_v 0))
      (s_cons (s_fld 1 T.cls_Listed T.na_Listed_steps (g_f f_dnewN) (p_v 0))
      (s_cons (s_for [4, 5, 6, 7] PassesOwn.never rfl (i_seq (r_v 2)) (g_tup rfl (gs_cons (g_name 4 nd (by rfl) (by first | exact Or.inl rfl | exact Or.inr rfl) (by rw [ek]; decide)) (gs_cons (g_name 5 nd (by rfl) (by first | exact Or.inl rfl | exact Or.inr rfl) (by rw [ek]; decide)) (gs_cons (g_name 6 nd (by rfl) (by first | exact Or.inl rfl | exact Or.inr rfl) (by rw [ek]; decide)) (gs_cons (g_name 7 nd (by rfl) (by first | exact Or.inl rfl | exact Or.inr rfl) (by rw [ek]; decide)) gs_nil)))) (hlen := len_cons (len_cons (len_cons (len_cons (fun _ _ _ h => len_nil h)))))) (s_cons (s_expr (g_sda (hr9 hu) (p_fld 1 T.cls_Listed T.na_Listed_steps (p_v 0)) (r_v 4) (f_tup (a_cons (r_v 5) (a_cons (r_v 6) (a_cons (r_v 7) a_nil))))))
      s_nil))
      (s_cons (s_fld 1 T.cls_Listed T.na_Listed_shut (g_f (f_bty call_list_of op_listD (by rfl) T.z_list (by decide +kernel) (a_cons (r_v 3) a_nil))) (p_v 0))
      s_nil))))
theorem ok_Listed_first_node (T : Tx K mg w) : FnOk P w K mg base CX0 1 T.a_Listed_first_node T.d_Listed_first_node ["self"] (spD ⟨K, T.cl, w⟩ F_Listed_first_node) := by
  refine ok_def (N := N_Listed_first_node) (m := m_Listed_first_node) (kp := [true]) T.f_Listed_first_node sc_Listed_first_node rfl (fun cdv A outer s H XE en ek hr => ?_)
  have hu := hr.units
  have nd := (sc_Listed_first_node).nd
  exact (s_cons (s_ret (g_f (f_tup (a_cons (r_f f_int) (a_cons (r_f f_int) a_nil))))) s_nil)
theorem ok_Listed_last_at (T : Tx K mg w) : FnOk P w K mg base CX0 1 T.a_Listed_last_at T.d_Listed_last_at ["self"] (spD ⟨K, T.cl, w⟩ F_Listed_last_at) := by
  refine ok_def (N := N_Listed_last_at) (m := m_Listed_last_at) (kp := [true]) T.f_Listed_last_at sc_Listed_last_at rfl (fun cdv A outer s H XE en ek hr => ?_)
  have hu := hr.units
  have nd := (sc_Listed_last_at).nd
  exact (s_cons (s_ret (g_f (f_bin op_sub op_subD (r_f (f_blt cr_len op_lenD (by rfl) T.z_len (by decide +kernel) (a_cons (r_pl (p_fld 1 T.cls_Listed T.na_Listed_sizes (p_v 0))) a_nil))) (r_f f_int)))) s_nil)
theorem ok_Listed_nodes_at (T : Tx K mg w) : FnOk P w K mg base CX0 1 T.a_Listed_nodes_at T.d_Listed_nodes_at ["self", "at"] (spD ⟨K, T.cl, w⟩ F_Listed_nodes_at) := by
  refine ok_def (N := N_Listed_nodes_at) (m := m_Listed_nodes_at) (kp := [true, true]) T.f_Listed_nodes_at sc_Listed_nodes_at rfl (fun cdv A outer s H XE en ek hr => ?_)
  have hu := hr.units
  have nd := (sc_Listed_nodes_at).nd
  exact (s_cons (s_ret (g_f (f_lcV [("state", 2)] (by rfl) rfl nd (i_up (i_rng1 (by rfl) T.z_range (r_ix hu (r_pl (p_fld 1 T.cls_Listed T.na_Listed_sizes (p_v 0))) (r_v 1)))) (blkOk_by (own := [("state", 2)]) (N := N_Listed_nodes_at) (sc := defScope s_Listed_nodes_at) (by decide +kernel)) (fun _ _ _ _ _ => (g_name 2 nd (by rfl) (by first | exact Or.inl rfl | exact Or.inr rfl) (by rw [ek]; decide))) (fun _ _ _ _ _ => ts_nil) (fun _ _ _ _ _ => (r_f (f_tup (a_cons (r_v 1) (a_cons (r_v 2) a_nil))))) (by decide) (by rw [ek]; decide)))) s_nil)
theorem ok_Listed_moves_from (T : Tx K mg w) : FnOk P w K mg base CX0 1 T.a_Listed_moves_from T.d_Listed_moves_from ["self", "node"] (spD ⟨K, T.cl, w⟩ F_Listed_moves_from) := by
  refine ok_def (N := N_Listed_moves_from) (m := m_Listed_moves_from) (kp := [true, true]) T.f_Listed_moves_from sc_Listed_moves_from rfl (fun cdv A outer s H XE en ek hr => ?_)
  have hu := hr.units
  have nd := (sc_Listed_moves_from).nd
  exact (s_cons (s_ret (g_f (f_view [0] (f_bty call_list_of op_listD (by rfl) T.z_list (by decide +kernel) (a_cons (r_getN2 (hr9 hu) (r_pl (p_fld 1 T.cls_Listed T.na_Listed_steps (p_v 0))) (r_v 1) (r_f (f_cold (f_lst a_nil)))) a_nil))))) s_nil)
theorem ok_Listed_is_end (T : Tx K mg w) : FnOk P w K mg base CX0 1 T.a_Listed_is_end T.d_Listed_is_end ["self", "node"] (spD ⟨K, T.cl, w⟩ F_Listed_is_end) := by
  refine ok_def (N := N_Listed_is_end) (m := m_Listed_is_end) (kp := [true, true]) T.f_Listed_is_end sc_Listed_is_end rfl (fun cdv A outer s H XE en ek hr => ?_)
  have hu := hr.units
  have nd := (sc_Listed_is_end).nd
  exact (s_cons (s_ret (g_f (f_cmp (op_inD (u65 hr)) op_inLD (r_v 1) (r_pl (p_fld 1 T.cls_Listed T.na_Listed_shut (p_v 0))) (by rfl)))) s_nil)
theorem ok_cheapest (T : Tx K mg w) : FnOk P w K mg base CX0 2 T.a_cheapest T.d_cheapest ["trail", "prices", "node"] (spD ⟨K, T.cl, w⟩ F_cheapest) := by
  refine ok_def (N := N_cheapest) (m := m_cheapest) (kp := [true, true, true]) T.f_cheapest sc_cheapest rfl (fun cdv A outer s H XE en ek hr => ?_)
  have hu := hr.units
  have nd := (sc_cheapest).nd
  exact (s_cons (s_set 3 nd (by rfl) (by first | exact Or.inl rfl | exact Or.inr rfl) (by rw [ek]; decide) (g_r (r_ixN (hr9 hu) (r_v 1) (r_v 2))))
      (s_cons (s_for [4, 5, 6, 7] PassesOwn.never rfl (i_seq (r_f (f_cold (f_look 1 (r_pl (p_v 0)) T.cls_Listed T.me_Listed_moves_from (ok_Listed_moves_from T) (hr.mono (by decide)) T.b_Listed_moves_from pass0 (a_cons (r_v 2) a_nil))))) (g_tup rfl (gs_cons (g_name 4 nd (by rfl) (by first | exact Or.inl rfl | exact Or.inr rfl) (by rw [ek]; decide)) (gs_cons (g_name 5 nd (by rfl) (by first | exact Or.inl rfl | exact Or.inr rfl) (by rw [ek]; decide)) (gs_cons (g_name 6 nd (by rfl) (by first | exact Or.inl rfl | exact Or.inr rfl) (by rw [ek]; decide)) gs_nil))) (hlen := len_cons (len_cons (len_cons (fun _ _ _ h => len_nil h))))) (s_cons (s_set 7 nd (by rfl) (by first | exact Or.inl rfl | exact Or.inr rfl) (by rw [ek]; decide) (g_r (r_ixN (hr9 hu) (r_v 1) (r_v 6))))
      (s_cons (s_if (t_w (w_and (t_cmp opr_nis op_nisD (r_v 7) (r_f f_non) (nomark _)) (w_and1 (t_w (w_or (t_cmp opr_is op_isD (r_v 3) (r_f f_non) (nomark _)) (w_or1 (t_cmp opr_lt op_cmpD (r_f (f_bin opr_add op_addD (r_v 4) (r_v 7))) (r_v 3) (nomark _)))))))) (s_cons (s_set 3 nd (by rfl) (by first | exact Or.inl rfl | exact Or.inr rfl) (by rw [ek]; decide) (g_f (f_bin opr_add op_addD (r_v 4) (r_v 7))))
      s_nil) s_nil)
      (s_kill [] s_nil))))
      (s_cons (s_ret (g_r (r_v 3))) s_nil)))
theorem ok_settle (T : Tx K mg w) : FnOk P w K mg base CX0 3 T.a_settle T.d_settle ["trail", "prices", "here"] (spD ⟨K, T.cl, w⟩ F_settle) := by
  refine ok_def (N := N_settle) (m := m_settle) (kp := [true, true, true]) T.f_settle sc_settle rfl (fun cdv A outer s H XE en ek hr => ?_)
  have hu := hr.units
  have nd := (sc_settle).nd
  exact (s_cons (s_set 3 nd (by rfl) (by first | exact Or.inl rfl | exact Or.inr rfl) (by rw [ek]; decide) (g_f f_bl))
      (s_cons (s_while 5000 [4, 5] PassesOwn.never (t_val (r_v 3)) (s_cons (s_set 3 nd (by rfl) (by first | exact Or.inl rfl | exact Or.inr rfl) (by rw [ek]; decide) (g_f f_bl))
      (s_cons (s_for [4, 5] PassesOwn.never rfl (i_seq (r_v 2)) (g_name 4 nd (by rfl) (by first | exact Or.inl rfl | exact Or.inr rfl) (by rw [ek]; decide)) (s_cons (s_set 5 nd (by rfl) (by first | exact Or.inl rfl | exact Or.inr rfl) (by rw [ek]; decide) (g_f (f_call (ok_cheapest T) (hr.mono (by decide)) (by rfl) T.g_cheapest T.f_cheapest.kp T.b_cheapest pass0 (a_cons (r_v 0) (a_cons (r_v 1) (a_cons (r_v 4) a_nil))))))
      (s_cons (s_if (tv_cmp (op_neD hu) op_neqD flat_ne (v_r (r_v 5)) (v_r (r_ixN (hr9 hu) (r_v 1) (r_v 4))) (nomark _)) (s_cons (s_dputN (hr9 hu) (g_r (r_v 5)) (p_v 1) (r_v 4))
      (s_cons (s_set 3 nd (by rfl) (by first | exact Or.inl rfl | exact Or.inr rfl) (by rw [ek]; decide) (g_f f_bl))
      s_nil)) s_nil)
      (s_kill [] s_nil))))
      s_nil)))
      s_nil))
theorem ok_priced (T : Tx K mg w) : FnOk P w K mg base CX0 4 T.a_priced T.d_priced ["trail"] (spD ⟨K, T.cl, w⟩ F_priced) := by
  refine ok_def (N := N_priced) (m := m_priced) (kp := [true]) T.f_priced sc_priced rfl (fun cdv A outer s H XE en ek hr => ?_)
  have hu := hr.units
  have nd := (sc_priced).nd
  exact (s_cons (s_set 1 nd (by rfl) (by first | exact Or.inl rfl | exact Or.inr rfl) (by rw [ek]; decide) (g_f f_dnewN))
      (s_cons (s_for [2, 3, 4] PassesOwn.never rfl (i_rng1 (by rfl) T.z_range (r_f (f_bin opr_add op_addD (r_f (f_look0 1 (r_pl (p_v 0)) T.cls_Listed T.me_Listed_last_at (ok_Listed_last_at T) (hr.mono (by decide)) T.b_Listed_last_at pass0)) (r_f f_int)))) (g_name 2 nd (by rfl) (by first | exact Or.inl rfl | exact Or.inr rfl) (by rw [ek]; decide)) (s_cons (s_set 3 nd (by rfl) (by first | exact Or.inl rfl | exact Or.inr rfl) (by rw [ek]; decide) (g_f (f_cold (f_look 1 (r_pl (p_v 0)) T.cls_Listed T.me_Listed_nodes_at (ok_Listed_nodes_at T) (hr.mono (by decide)) T.b_Listed_nodes_at pass0 (a_cons (r_f (f_bin op_sub op_subD (r_f (f_look0 1 (r_pl (p_v 0)) T.cls_Listed T.me_Listed_last_at (ok_Listed_last_at T) (hr.mono (by decide)) T.b_Listed_last_at pass0)) (r_v 2))) a_nil)))))
      (s_cons (s_for [4] PassesOwn.never rfl (i_seq (r_v 3)) (g_name 4 nd (by rfl) (by first | exact Or.inl rfl | exact Or.inr rfl) (by rw [ek]; decide)) (s_cons (s_dputN (hr9 hu) (g_f f_non) (p_v 1) (r_v 4))
      (s_cons (s_if (t_val (r_f (f_look 1 (r_pl (p_v 0)) T.cls_Listed T.me_Listed_is_end (ok_Listed_is_end T) (hr.mono (by decide)) T.b_Listed_is_end pass0 (a_cons (r_v 4) a_nil)))) (s_cons (s_dputN (hr9 hu) (g_f f_int) (p_v 1) (r_v 4))
      s_nil) s_nil)
      (s_kill [] s_nil))))
      (s_cons (s_expr (g_lend (ok_settle T) (hr.mono (by decide)) (by rfl) T.g_settle T.f_settle.kp T.b_settle pass0 (al_next (r_v 0) (al_here (p_v 1) (a_cons (r_v 3) a_nil)))))
      s_nil))))
      (s_cons (s_ret (g_mv (p_v 1))) s_nil)))
theorem ok_first_least (T : Tx K mg w) : FnOk P w K mg base CX0 2 T.a_first_least T.d_first_least ["trail", "prices", "node"] (spD ⟨K, T.cl, w⟩ F_first_least) := by
  refine ok_def (N := N_first_least) (m := m_first_least) (kp := [true, true, true]) T.f_first_least sc_first_least rfl (fun cdv A outer s H XE en ek hr => ?_)
  have hu := hr.units
  have nd := (sc_first_least).nd
  exact (s_cons (s_for [3, 4, 5] PassesOwn.never rfl (i_seq (r_f (f_cold (f_look 1 (r_pl (p_v 0)) T.cls_Listed T.me_Listed_moves_from (ok_Listed_moves_from T) (hr.mono (by decide)) T.b_Listed_moves_from pass0 (a_cons (r_v 2) a_nil))))) (g_tup rfl (gs_cons (g_name 3 nd (by rfl) (by first | exact Or.inl rfl | exact Or.inr rfl) (by rw [ek]; decide)) (gs_cons (g_name 4 nd (by rfl) (by first | exact Or.inl rfl | exact Or.inr rfl) (by rw [ek]; decide)) (gs_cons (g_name 5 nd (by rfl) (by first | exact Or.inl rfl | exact Or.inr rfl) (by rw [ek]; decide)) gs_nil))) (hlen := len_cons (len_cons (len_cons (fun _ _ _ h => len_nil h))))) (s_cons (s_if (t_w (w_and (t_cmp opr_nis op_nisD (r_ixN (hr9 hu) (r_v 1) (r_v 5)) (r_f f_non) (nomark _)) (w_and1 (tv_cmp (op_eqD hu) op_eqqD flat_eq (v_r (r_f (f_bin opr_add op_addD (r_v 3) (r_ixN (hr9 hu) (r_v 1) (r_v 5))))) (v_r (r_ixN (hr9 hu) (r_v 1) (r_v 2))) (nomark _))))) (s_cons (s_ret (g_f (f_tup (a_cons (r_v 4) (a_cons (r_v 5) a_nil))))) s_nil) s_nil)
      s_nil))
      (s_cons (s_ret (g_f f_non)) s_nil))
theorem ok_way_of (T : Tx K mg w) : FnOk P w K mg base CX0 5 T.a_way_of T.d_way_of ["trail"] (spD ⟨K, T.cl, w⟩ F_way_of) := by
  refine ok_def (N := N_way_of) (m := m_way_of) (kp := [true]) T.f_way_of sc_way_of rfl (fun cdv A outer s H XE en ek hr => ?_)
  have hu := hr.units
  have nd := (sc_way_of).nd
  exact (s_cons (s_set 1 nd (by rfl) (by first | exact Or.inl rfl | exact Or.inr rfl) (by rw [ek]; decide) (g_f (f_cold (f_call (ok_priced T) (hr.mono (by decide)) (by rfl) T.g_priced T.f_priced.kp T.b_priced pass0 (a_cons (r_v 0) a_nil)))))
      (s_cons (s_set 2 nd (by rfl) (by first | exact Or.inl rfl | exact Or.inr rfl) (by rw [ek]; decide) (g_f (f_look0 1 (r_pl (p_v 0)) T.cls_Listed T.me_Listed_first_node (ok_Listed_first_node T) (hr.mono (by decide)) T.b_Listed_first_node pass0)))
      (s_cons (s_if (t_cmp opr_is op_isD (r_ixN (hr9 hu) (r_v 1) (r_v 2)) (r_f f_non) (nomark _)) (s_cons (s_ret (g_f f_non)) s_nil) s_nil)
      (s_cons (s_set 3 nd (by rfl) (by first | exact Or.inl rfl | exact Or.inr rfl) (by rw [ek]; decide) (g_f (f_lst a_nil)))
      (s_cons (s_while 5000 [4] PassesOwn.never (t_w (w_or (t_not (t_val (r_f (f_look 1 (r_pl (p_v 0)) T.cls_Listed T.me_Listed_is_end (ok_Listed_is_end T) (hr.mono (by decide)) T.b_Listed_is_end pass0 (a_cons (r_v 2) a_nil))))) (w_or1 (t_cmp opr_gt op_cmpD (r_ixN (hr9 hu) (r_v 1) (r_v 2)) (r_f f_int) (nomark _))))) (s_cons (s_asg (g_r (r_f (f_call (ok_first_least T) (hr.mono (by decide)) (by rfl) T.g_first_least T.f_first_least.kp T.b_first_least pass0 (a_cons (r_v 0) (a_cons (r_v 1) (a_cons (r_v 2) a_nil)))))) (g_tup rfl (gs_cons (g_name 4 nd (by rfl) (by first | exact Or.inl rfl | exact Or.inr rfl) (by rw [ek]; decide)) (gs_cons (g_name 2 nd (by rfl) (by first | exact Or.inl rfl | exact Or.inr rfl) (by rw [ek]; decide)) gs_nil)) (hlen := len_cons (len_cons (fun _ _ _ h => len_nil h)))))
      (s_cons (s_expr (g_app (p_v 3) (f_fr (r_v 4))))
      s_nil)))
      (s_cons (s_ret (g_tupO (ao_cons (g_r (r_ixN (hr9 hu) (r_v 1) (r_f (f_look0 1 (r_pl (p_v 0)) T.cls_Listed T.me_Listed_first_node (ok_Listed_first_node T) (hr.mono (by decide)) T.b_Listed_first_node pass0)))) (ao_cons (g_mv (p_v 3)) ao_nil)))) s_nil))))))
theorem ok_walked (T : Tx K mg w) : FnOk P w K mg base CX0 2 T.a_walked T.d_walked ["trail", "names"] (spD ⟨K, T.cl, w⟩ F_walked) := by
  refine ok_def (N := N_walked) (m := m_walked) (kp := [true, true]) T.f_walked sc_walked rfl (fun cdv A outer s H XE en ek hr => ?_)
  have hu := hr.units
  have nd := (sc_walked).nd
  exact (s_cons (s_set 2 nd (by rfl) (by first | exact Or.inl rfl | exact Or.inr rfl) (by rw [ek]; decide) (g_f f_int))
      (s_cons (s_set 3 nd (by rfl) (by first | exact Or.inl rfl | exact Or.inr rfl) (by rw [ek]; decide) (g_f (f_look0 1 (r_pl (p_v 0)) T.cls_Listed T.me_Listed_first_node (ok_Listed_first_node T) (hr.mono (by decide)) T.b_Listed_first_node pass0)))
      (s_cons (s_for [4, 5] PassesOwn.never rfl (i_seq (r_v 1)) (g_name 4 nd (by rfl) (by first | exact Or.inl rfl | exact Or.inr rfl) (by rw [ek]; decide)) (s_cons (s_seqI 5 (s_setLcV 5 [("move", 6)] (by rfl) rfl nd (by rfl) (by rfl) (by rw [ek]; decide) (i_seqV (r_f (f_cold (f_look 1 (r_pl (p_v 0)) T.cls_Listed T.me_Listed_moves_from (ok_Listed_moves_from T) (hr.mono (by decide)) T.b_Listed_moves_from pass0 (a_cons (r_v 3) a_nil))))) (blkOk_by (own := [("move", 6)]) (N := N_walked) (sc := defScope s_walked) (by decide +kernel)) (fun _ _ _ _ _ => (g_name 6 nd (by rfl) (by first | exact Or.inl rfl | exact Or.inr rfl) (by rw [ek]; decide))) (fun _ _ _ _ _ => (ts_one (tv_cmp (op_eqD hu) op_eqqD flat_eq (v_r (r_ix hu (r_v 6) (r_f f_int))) (v_r (r_v 4)) (nomark _)))) (fun _ _ _ _ _ => (r_v 6)) (by decide) (by rw [ek]; decide) (sw_true rfl rfl rfl (by decide +kernel))))
      (s_cons (s_if (tv_cmp (op_eqD hu) op_eqqD flat_eq (v_r (r_v 5)) (v_r (r_f (f_lst a_nil))) (nomark _)) (s_cons (s_ret (g_f f_non)) s_nil) s_nil)
      (s_cons (s_set 2 nd (by rfl) (by first | exact Or.inl rfl | exact Or.inr rfl) (by rw [ek]; decide) (g_f (f_bin opr_add op_addD (r_v 2) (r_ix hu (r_ix hu (r_v 5) (r_f f_int)) (r_f f_int)))))
      (s_cons (s_set 3 nd (by rfl) (by first | exact Or.inl rfl | exact Or.inr rfl) (by rw [ek]; decide) (g_r (r_ix hu (r_ix hu (r_v 5) (r_f f_int)) (r_f f_int))))
      s_nil)))))
      (s_cons (s_if (t_not (t_val (r_f (f_look 1 (r_pl (p_v 0)) T.cls_Listed T.me_Listed_is_end (ok_Listed_is_end T) (hr.mono (by decide)) T.b_Listed_is_end pass0 (a_cons (r_v 3) a_nil))))) (s_cons (s_ret (g_f f_non)) s_nil) s_nil)
      (s_cons (s_ret (g_r (r_v 2))) s_nil)))))
theorem ok_all_nodes (T : Tx K mg w) : FnOk P w K mg base CX0 2 T.a_all_nodes T.d_all_nodes ["trail"] (spD ⟨K, T.cl, w⟩ F_all_nodes) := by
  refine ok_def (N := N_all_nodes) (m := m_all_nodes) (kp := [true]) T.f_all_nodes sc_all_nodes rfl (fun cdv A outer s H XE en ek hr => ?_)
  have hu := hr.units
  have nd := (sc_all_nodes).nd
  exact (s_cons (s_set 1 nd (by rfl) (by first | exact Or.inl rfl | exact Or.inr rfl) (by rw [ek]; decide) (g_f (f_lst a_nil)))
      (s_cons (s_for [2] PassesOwn.never rfl (i_rng1 (by rfl) T.z_range (r_f (f_bin opr_add op_addD (r_f (f_look0 1 (r_pl (p_v 0)) T.cls_Listed T.me_Listed_last_at (ok_Listed_last_at T) (hr.mono (by decide)) T.b_Listed_last_at pass0)) (r_f f_int)))) (g_name 2 nd (by rfl) (by first | exact Or.inl rfl | exact Or.inr rfl) (by rw [ek]; decide)) (s_cons (s_expr (g_ext 1 (g_f (f_look 1 (r_pl (p_v 0)) T.cls_Listed T.me_Listed_nodes_at (ok_Listed_nodes_at T) (hr.mono (by decide)) T.b_Listed_nodes_at pass0 (a_cons (r_v 2) a_nil)))))
      s_nil))
      (s_cons (s_ret (g_mv (p_v 1))) s_nil)))
theorem ok_is_price (T : Tx K mg w) : FnOk P w K mg base CX0 1 T.a_is_price T.d_is_price ["thing"] (spD ⟨K, T.cl, w⟩ F_is_price) := by
  refine ok_def (N := N_is_price) (m := m_is_price) (kp := [true]) T.f_is_price sc_is_price rfl (fun cdv A outer s H XE en ek hr => ?_)
  have hu := hr.units
  have nd := (sc_is_price).nd
  exact (s_cons (s_if (t_cmp opr_is op_isD (r_v 0) (r_f f_non) (nomark _)) (s_cons (s_ret (g_f f_bl)) s_nil) s_nil)
      (s_cons (s_ret (g_f (f_and (r_f (f_isi' (r_v 0) (pe_bltn (v := .ty "int") (u := .type "int") (by rfl) T.z_int (by decide +kernel) rfl) T.z_isinstance)) (f_one (f_not (r_f (f_isi' (r_v 0) (pe_bltn (v := .ty "bool") (u := .type "bool") (by rfl) T.z_bool (by decide +kernel) rfl) T.z_isinstance))))))) s_nil))
theorem ok_fair_at (T : Tx K mg w) : FnOk P w K mg base CX0 2 T.a_fair_at T.d_fair_at ["trail", "prices", "node"] (spD ⟨K, T.cl, w⟩ F_fair_at) := by
  refine ok_def (N := N_fair_at) (m := m_fair_at) (kp := [true, true, true]) T.f_fair_at sc_fair_at rfl (fun cdv A outer s H XE en ek hr => ?_)
  have hu := hr.units
  have nd := (sc_fair_at).nd
  exact (s_cons (s_set 3 nd (by rfl) (by first | exact Or.inl rfl | exact Or.inr rfl) (by rw [ek]; decide) (g_r (r_ixN (hr9 hu) (r_v 1) (r_v 2))))
      (s_cons (s_if (t_w (w_and (t_val (r_f (f_look 1 (r_pl (p_v 0)) T.cls_Listed T.me_Listed_is_end (ok_Listed_is_end T) (hr.mono (by decide)) T.b_Listed_is_end pass0 (a_cons (r_v 2) a_nil)))) (w_and1 (t_w (w_or (t_cmp opr_is op_isD (r_v 3) (r_f f_non) (nomark _)) (w_or1 (t_cmp opr_gt op_cmpD (r_v 3) (r_f f_int) (nomark _)))))))) (s_cons (s_ret (g_f f_bl)) s_nil) s_nil)
      (s_cons (s_for [4, 5, 6, 7] PassesOwn.never rfl (i_seq (r_f (f_cold (f_look 1 (r_pl (p_v 0)) T.cls_Listed T.me_Listed_moves_from (ok_Listed_moves_from T) (hr.mono (by decide)) T.b_Listed_moves_from pass0 (a_cons (r_v 2) a_nil))))) (g_tup rfl (gs_cons (g_name 4 nd (by rfl) (by first | exact Or.inl rfl | exact Or.inr rfl) (by rw [ek]; decide)) (gs_cons (g_name 5 nd (by rfl) (by first | exact Or.inl rfl | exact Or.inr rfl) (by rw [ek]; decide)) (gs_cons (g_name 6 nd (by rfl) (by first | exact Or.inl rfl | exact Or.inr rfl) (by rw [ek]; decide)) gs_nil))) (hlen := len_cons (len_cons (len_cons (fun _ _ _ h => len_nil h))))) (s_cons (s_set 7 nd (by rfl) (by first | exact Or.inl rfl | exact Or.inr rfl) (by rw [ek]; decide) (g_r (r_ixN (hr9 hu) (r_v 1) (r_v 6))))
      (s_cons (s_if (t_w (w_and (t_cmp opr_nis op_nisD (r_v 7) (r_f f_non) (nomark _)) (w_and1 (t_w (w_or (t_cmp opr_is op_isD (r_v 3) (r_f f_non) (nomark _)) (w_or1 (t_cmp opr_gt op_cmpD (r_v 3) (r_f (f_bin opr_add op_addD (r_v 4) (r_v 7))) (nomark _)))))))) (s_cons (s_ret (g_f f_bl)) s_nil) s_nil)
      s_nil)))
      (s_cons (s_ret (g_f f_bl)) s_nil))))
theorem ok_fair (T : Tx K mg w) : FnOk P w K mg base CX0 3 T.a_fair T.d_fair ["trail", "prices"] (spD ⟨K, T.cl, w⟩ F_fair) := by
  refine ok_def (N := N_fair) (m := m_fair) (kp := [true, true]) T.f_fair sc_fair rfl (fun cdv A outer s H XE en ek hr => ?_)
  have hu := hr.units
  have nd := (sc_fair).nd
  exact (s_cons (s_set 2 nd (by rfl) (by first | exact Or.inl rfl | exact Or.inr rfl) (by rw [ek]; decide) (g_f (f_cold (f_call (ok_all_nodes T) (hr.mono (by decide)) (by rfl) T.g_all_nodes T.f_all_nodes.kp T.b_all_nodes pass0 (a_cons (r_v 0) a_nil)))))
      (s_cons (s_if (t_w (w_or (t_not (t_val (r_f (f_isiN' (r_v 1) (pe_bltn (v := .ty "dict") (u := .type "dict") (by rfl) T.z_dict (by decide +kernel) rfl) T.z_isinstance)))) (w_or1 (tv_cmp (op_neD hu) op_neqD flat_ne (v_r (r_f (f_blt call_len_dN op_lenN (by rfl) T.z_len (by decide +kernel) (a_cons (r_v 1) a_nil)))) (v_r (r_f (f_blt cr_len op_lenD (by rfl) T.z_len (by decide +kernel) (a_cons (r_v 2) a_nil)))) (nomark _))))) (s_cons (s_ret (g_f f_bl)) s_nil) s_nil)
      (s_cons (s_for [3] PassesOwn.never rfl (i_seq (r_v 2)) (g_name 3 nd (by rfl) (by first | exact Or.inl rfl | exact Or.inr rfl) (by rw [ek]; decide)) (s_cons (s_if (t_w (w_or (t_ninN hu (r_v 3) (r_v 1)) (w_or1 (t_not (t_val (r_f (f_call (ok_is_price T) (hr.mono (by decide)) (by rfl) T.g_is_price T.f_is_price.kp T.b_is_price pass0 (a_cons (r_ixN (hr9 hu) (r_v 1) (r_v 3)) a_nil)))))))) (s_cons (s_ret (g_f f_bl)) s_nil) s_nil)
      s_nil))
      (s_cons (s_for [3] PassesOwn.never rfl (i_seq (r_v 2)) (g_name 3 nd (by rfl) (by first | exact Or.inl rfl | exact Or.inr rfl) (by rw [ek]; decide)) (s_cons (s_if (t_not (t_val (r_f (f_call (ok_fair_at T) (hr.mono (by decide)) (by rfl) T.g_fair_at T.f_fair_at.kp T.b_fair_at pass0 (a_cons (r_v 0) (a_cons (r_v 1) (a_cons (r_v 3) a_nil))))))) (s_cons (s_ret (g_f f_bl)) s_nil) s_nil)
      s_nil))
      (s_cons (s_ret (g_f f_bl)) s_nil)))))
theorem ok_lw_cell_at (T : Tx K mg w) : FnOk P w K mg base CX0 1 T.a_lw_cell_at T.d_lw_cell_at ["_law_script", "_law_k"] (spD ⟨K, T.cl, w⟩ F_lw_cell_at) := by
  refine ok_def (N := N_lw_cell_at) (m := m_lw_cell_at) (kp := [true, true]) T.f_lw_cell_at sc_lw_cell_at rfl (fun cdv A outer s H XE en ek hr => ?_)
  have hu := hr.units
  have nd := (sc_lw_cell_at).nd
  exact (s_cons (s_if (t_cmp opr_lt op_cmpD (r_v 1) (r_f (f_blt cr_len op_lenD (by rfl) T.z_len (by decide +kernel) (a_cons (r_v 0) a_nil))) (nomark _)) (s_cons (s_ret (g_r (r_ix hu (r_v 0) (r_v 1)))) s_nil) s_nil)
      (s_cons (s_ret (g_f f_int)) s_nil))
theorem ok_lw_mix (T : Tx K mg w) : FnOk P w K mg base CX0 1 T.a_lw_mix T.d_lw_mix ["_law_cell", "_law_k"] (spD ⟨K, T.cl, w⟩ F_lw_mix) := by
  refine ok_def (N := N_lw_mix) (m := m_lw_mix) (kp := [true, true]) T.f_lw_mix sc_lw_mix rfl (fun cdv A outer s H XE en ek hr => ?_)
  have hu := hr.units
  have nd := (sc_lw_mix).nd
  exact (s_cons (s_if (t_cmp opr_gt op_cmpD (r_v 0) (r_f (f_bin op_pow op_powD (r_f f_int) (r_f f_int))) (nomark _)) (s_cons (s_set 2 nd (by rfl) (by first | exact Or.inl rfl | exact Or.inr rfl) (by rw [ek]; decide) (g_r (r_v 0)))
      (s_cons (s_for [3] PassesOwn.never rfl (i_rng1 (by rfl) T.z_range (r_v 1)) (g_name 3 nd (by rfl) (by first | exact Or.inl rfl | exact Or.inr rfl) (by rw [ek]; decide)) (s_cons (s_set 2 nd (by rfl) (by first | exact Or.inl rfl | exact Or.inr rfl) (by rw [ek]; decide) (g_f (f_bin op_fdivW op_fdivD (r_v 2) (r_f (f_bin op_pow op_powD (r_f f_int) (r_f f_int))))))
      s_nil))
      (s_cons (s_ret (g_f (f_bin op_mod op_modD (r_v 2) (r_f (f_bin op_pow op_powD (r_f f_int) (r_f f_int)))))) s_nil))) s_nil)
      (s_cons (s_set 4 nd (by rfl) (by first | exact Or.inl rfl | exact Or.inr rfl) (by rw [ek]; decide) (g_f (f_bin opr_add op_addD (r_f (f_bin op_mod op_modD (r_v 0) (r_f f_int))) (r_f f_int))))
      (s_cons (s_for [3] PassesOwn.never rfl (i_rng1 (by rfl) T.z_range (r_f (f_bin opr_add op_addD (r_v 1) (r_f f_int)))) (g_name 3 nd (by rfl) (by first | exact Or.inl rfl | exact Or.inr rfl) (by rw [ek]; decide)) (s_cons (s_set 4 nd (by rfl) (by first | exact Or.inl rfl | exact Or.inr rfl) (by rw [ek]; decide) (g_f (f_bin op_mod op_modD (r_f (f_bin opr_add op_addD (r_f (f_bin opr_mul op_mulD (r_v 4) (r_f f_int))) (r_f f_int))) (r_f f_int))))
      s_nil))
      (s_cons (s_ret (g_f (f_bin op_fdivW op_fdivD (r_f (f_bin op_mod op_modD (r_f (f_bin opr_mul op_mulD (r_v 4) (r_v 4))) (r_f f_int))) (r_f f_int)))) s_nil))))
theorem ok_lw_whole (T : Tx K mg w) : FnOk P w K mg base CX0 1 T.a_lw_whole T.d_lw_whole ["_law_thing"] (spD ⟨K, T.cl, w⟩ F_lw_whole) := by
  refine ok_def (N := N_lw_whole) (m := m_lw_whole) (kp := [true]) T.f_lw_whole sc_lw_whole rfl (fun cdv A outer s H XE en ek hr => ?_)
  have hu := hr.units
  have nd := (sc_lw_whole).nd
  exact (s_cons (s_ret (g_f (f_and (r_f (f_isi' (r_v 0) (pe_bltn (v := .ty "int") (u := .type "int") (by rfl) T.z_int (by decide +kernel) rfl) T.z_isinstance)) (f_one (f_not (r_f (f_isi' (r_v 0) (pe_bltn (v := .ty "bool") (u := .type "bool") (by rfl) T.z_bool (by decide +kernel) rfl) T.z_isinstance))))))) s_nil)
theorem ok_lw_sizes (T : Tx K mg w) : FnOk P w K mg base CX0 2 T.a_lw_sizes T.d_lw_sizes ["_law_cell"] (spD ⟨K, T.cl, w⟩ F_lw_sizes) := by
  refine ok_def (N := N_lw_sizes) (m := m_lw_sizes) (kp := [true]) T.f_lw_sizes sc_lw_sizes rfl (fun cdv A outer s H XE en ek hr => ?_)
  have hu := hr.units
  have nd := (sc_lw_sizes).nd
  exact (s_cons (s_ret (g_f (f_lcV [("_law_k", 1)] (by rfl) rfl nd (i_up (i_rng1 (by rfl) T.z_range (r_f (f_bin opr_add op_addD (r_f f_int) (r_f (f_bin op_mod op_modD (r_f (f_call (ok_lw_mix T) (hr.mono (by decide)) (by rfl) T.g_lw_mix T.f_lw_mix.kp T.b_lw_mix pass0 (a_cons (r_v 0) (a_cons (r_f f_int) a_nil)))) (r_f f_int))))))) (blkOk_by (own := [("_law_k", 1)]) (N := N_lw_sizes) (sc := defScope s_lw_sizes) (by decide +kernel)) (fun _ _ _ _ _ => (g_name 1 nd (by rfl) (by first | exact Or.inl rfl | exact Or.inr rfl) (by rw [ek]; decide))) (fun _ _ _ _ _ => ts_nil) (fun _ _ _ _ _ => (r_f (f_bin opr_add op_addD (r_f f_int) (r_f (f_bin op_mod op_modD (r_f (f_call (ok_lw_mix T) (hr.mono (by decide)) (by rfl) T.g_lw_mix T.f_lw_mix.kp T.b_lw_mix pass0 (a_cons (r_v 0) (a_cons (r_v 1) a_nil)))) (r_f f_int)))))) (by decide) (by rw [ek]; decide)))) s_nil)
theorem ok_lw_nodes (T : Tx K mg w) : FnOk P w K mg base CX0 1 T.a_lw_nodes T.d_lw_nodes ["_law_sizes_here"] (spD ⟨K, T.cl, w⟩ F_lw_nodes) := by
  refine ok_def (N := N_lw_nodes) (m := m_lw_nodes) (kp := [true]) T.f_lw_nodes sc_lw_nodes rfl (fun cdv A outer s H XE en ek hr => ?_)
  have hu := hr.units
  have nd := (sc_lw_nodes).nd
  exact (s_cons (s_set 1 nd (by rfl) (by first | exact Or.inl rfl | exact Or.inr rfl) (by rw [ek]; decide) (g_f (f_lst a_nil)))
      (s_cons (s_for [2, 3] PassesOwn.never rfl (i_rng1 (by rfl) T.z_range (r_f (f_blt cr_len op_lenD (by rfl) T.z_len (by decide +kernel) (a_cons (r_v 0) a_nil)))) (g_name 2 nd (by rfl) (by first | exact Or.inl rfl | exact Or.inr rfl) (by rw [ek]; decide)) (s_cons (s_for [3] PassesOwn.never rfl (i_rng1 (by rfl) T.z_range (r_ix hu (r_v 0) (r_v 2))) (g_name 3 nd (by rfl) (by first | exact Or.inl rfl | exact Or.inr rfl) (by rw [ek]; decide)) (s_cons (s_expr (g_app (p_v 1) (f_tup (a_cons (r_v 2) (a_cons (r_v 3) a_nil)))))
      s_nil))
      s_nil))
      (s_cons (s_ret (g_mv (p_v 1))) s_nil)))
theorem ok_lw_moves (T : Tx K mg w) : FnOk P w K mg base CX0 2 T.a_lw_moves T.d_lw_moves ["_law_script", "_law_nodes_here"] (spD ⟨K, T.cl, w⟩ F_lw_moves) := by
  refine ok_def (N := N_lw_moves) (m := m_lw_moves) (kp := [true, true]) T.f_lw_moves sc_lw_moves rfl (fun cdv A outer s H XE en ek hr => ?_)
  have hu := hr.units
  have nd := (sc_lw_moves).nd
  exact (s_cons (s_set 2 nd (by rfl) (by first | exact Or.inl rfl | exact Or.inr rfl) (by rw [ek]; decide) (g_f (f_lst a_nil)))
      (s_cons (s_set 3 nd (by rfl) (by first | exact Or.inl rfl | exact Or.inr rfl) (by rw [ek]; decide) (g_f f_dnewN))
      (s_cons (s_for [4, 5, 6, 7, 8] PassesOwn.never rfl (i_seq (r_f (f_cold (f_sl (r_v 0) (o_some (r_f f_int)) (o_some (r_f f_int)))))) (g_name 4 nd (by rfl) (by first | exact Or.inl rfl | exact Or.inr rfl) (by rw [ek]; decide)) (s_cons (s_set 5 nd (by rfl) (by first | exact Or.inl rfl | exact Or.inr rfl) (by rw [ek]; decide) (g_r (r_ix hu (r_v 1) (r_f (f_bin op_mod op_modD (r_f (f_call (ok_lw_mix T) (hr.mono (by decide)) (by rfl) T.g_lw_mix T.f_lw_mix.kp T.b_lw_mix pass0 (a_cons (r_v 4) (a_cons (r_f f_int) a_nil)))) (r_f (f_blt cr_len op_lenD (by rfl) T.z_len (by decide +kernel) (a_cons (r_v 1) a_nil))))))))
      (s_cons (s_seqI 6 (s_setLcV 6 [("_law_node", 9)] (by rfl) rfl nd (by rfl) (by rfl) (by rw [ek]; decide) (i_seqV (r_v 1)) (blkOk_by (own := [("_law_node", 9)]) (N := N_lw_moves) (sc := defScope s_lw_moves) (by decide +kernel)) (fun _ _ _ _ _ => (g_name 9 nd (by rfl) (by first | exact Or.inl rfl | exact Or.inr rfl) (by rw [ek]; decide))) (fun _ _ _ _ _ => (ts_one (t_cmp opr_ge op_cmpD (r_ix hu (r_v 9) (r_f f_int)) (r_ix hu (r_v 5) (r_f f_int)) (nomark _)))) (fun _ _ _ _ _ => (r_v 9)) (by decide) (by rw [ek]; decide) (sw_true rfl rfl rfl (by decide +kernel))))
      (s_cons (s_set 7 nd (by rfl) (by first | exact Or.inl rfl | exact Or.inr rfl) (by rw [ek]; decide) (g_r (r_ix hu (r_v 6) (r_f (f_bin op_mod op_modD (r_f (f_call (ok_lw_mix T) (hr.mono (by decide)) (by rfl) T.g_lw_mix T.f_lw_mix.kp T.b_lw_mix pass0 (a_cons (r_v 4) (a_cons (r_f f_int) a_nil)))) (r_f (f_blt cr_len op_lenD (by rfl) T.z_len (by decide +kernel) (a_cons (r_v 6) a_nil))))))))
      (s_cons (s_set 8 nd (by rfl) (by first | exact Or.inl rfl | exact Or.inr rfl) (by rw [ek]; decide) (g_f (f_bin op_mod op_modD (r_f (f_call (ok_lw_mix T) (hr.mono (by decide)) (by rfl) T.g_lw_mix T.f_lw_mix.kp T.b_lw_mix pass0 (a_cons (r_v 4) (a_cons (r_f f_int) a_nil)))) (r_ix hu (r_f (f_lst (a_cons (r_f f_int) (a_cons (r_f f_int) (a_cons (r_f (f_bin op_pow op_powD (r_f f_int) (r_f f_int))) a_nil))))) (r_f (f_bin op_mod op_modD (r_f (f_call (ok_lw_mix T) (hr.mono (by decide)) (by rfl) T.g_lw_mix T.f_lw_mix.kp T.b_lw_mix pass0 (a_cons (r_v 4) (a_cons (r_f f_int) a_nil)))) (r_f f_int)))))))
      (s_cons (s_if (t_w (w_and (tv_cmp (op_eqD hu) op_eqqD flat_eq (v_r (r_ix hu (r_v 7) (r_f f_int))) (v_r (r_ix hu (r_v 5) (r_f f_int))) (nomark _)) (w_and1 (tv_cmp (op_eqD hu) op_eqqD flat_eq (v_r (r_v 8)) (v_r (r_f f_int)) (nomark _))))) (s_cons (s_set 8 nd (by rfl) (by first | exact Or.inl rfl | exact Or.inr rfl) (by rw [ek]; decide) (g_f f_int))
      s_nil) s_nil)
      (s_kill [] (s_cons (s_set 8 nd (by rfl) (by first | exact Or.inl rfl | exact Or.inr rfl) (by rw [ek]; decide) (g_f (f_bin opr_mul op_mulD (r_v 8) (r_ix hu (r_f (f_lst (a_cons (r_f f_int) (a_cons (r_f f_int) (a_cons (r_f f_int) (a_cons (r_f (f_bin op_pow op_powD (r_f f_int) (r_f f_int))) a_nil)))))) (r_f (f_bin op_mod op_modD (r_f (f_call (ok_lw_mix T) (hr.mono (by decide)) (by rfl) T.g_lw_mix T.f_lw_mix.kp T.b_lw_mix pass0 (a_cons (r_v 4) (a_cons (r_f f_int) a_nil)))) (r_f f_int)))))))
      (s_cons (s_expr (g_app (p_v 2) (f_tup (a_cons (r_v 5) (a_cons (r_v 8) (a_cons (r_f (f_bin opr_mul op_mulD (r_ix hu (r_f (f_str [97, 98])) (r_f (f_bin op_mod op_modD (r_v 4) (r_f f_int)))) (r_getN2 (hr9 hu) (r_v 3) (r_v 5) (r_f f_int)))) (a_cons (r_v 7) a_nil)))))))
      (s_cons (s_dputN (hr9 hu) (g_f (f_bin opr_add op_addD (r_getN2 (hr9 hu) (r_v 3) (r_v 5) (r_f f_int)) (r_f f_int))) (p_v 3) (r_v 5))
      s_nil))))))))))
      (s_cons (s_ret (g_mv (p_v 2))) s_nil))))
theorem ok_lw_ends (T : Tx K mg w) : FnOk P w K mg base CX0 2 T.a_lw_ends T.d_lw_ends ["_law_cell", "_law_nodes_here"] (spD ⟨K, T.cl, w⟩ F_lw_ends) := by
  refine ok_def (N := N_lw_ends) (m := m_lw_ends) (kp := [true, true]) T.f_lw_ends sc_lw_ends rfl (fun cdv A outer s H XE en ek hr => ?_)
  have hu := hr.units
  have nd := (sc_lw_ends).nd
  exact (s_cons (s_set 2 nd (by rfl) (by first | exact Or.inl rfl | exact Or.inr rfl) (by rw [ek]; decide) (g_f (f_lst a_nil)))
      (s_cons (s_for [3] PassesOwn.never rfl (i_rng1 (by rfl) T.z_range (r_f (f_blt cr_len op_lenD (by rfl) T.z_len (by decide +kernel) (a_cons (r_v 1) a_nil)))) (g_name 3 nd (by rfl) (by first | exact Or.inl rfl | exact Or.inr rfl) (by rw [ek]; decide)) (s_cons (s_if (tv_cmp (op_eqD hu) op_eqqD flat_eq (v_r (r_f (f_bin op_mod op_modD (r_f (f_call (ok_lw_mix T) (hr.mono (by decide)) (by rfl) T.g_lw_mix T.f_lw_mix.kp T.b_lw_mix pass0 (a_cons (r_v 0) (a_cons (r_f (f_bin opr_add op_addD (r_f f_int) (r_v 3))) a_nil)))) (r_f f_int)))) (v_r (r_f f_int)) (nomark _)) (s_cons (s_expr (g_app (p_v 2) (f_fr (r_ix hu (r_v 1) (r_v 3)))))
      s_nil) s_nil)
      (s_kill [] s_nil)))
      (s_cons (s_if (t_w (w_and (t_cmp opr_gt op_cmpD (r_f (f_bin op_mod op_modD (r_v 0) (r_f f_int))) (r_f f_int) (nomark _)) (w_and1 (t_cmp (op_notInD (u65 hr)) op_ninLD (r_ix hu (r_v 1) (r_f (f_neg (r_f f_int)))) (r_v 2) (by rfl))))) (s_cons (s_expr (g_app (p_v 2) (f_fr (r_ix hu (r_v 1) (r_f (f_neg (r_f f_int)))))))
      s_nil) s_nil)
      (s_kill [] (s_cons (s_ret (g_mv (p_v 2))) s_nil)))))
theorem ok_lw_least (T : Tx K mg w) : FnOk P w K mg base CX0 1 T.a_lw_least T.d_lw_least ["_law_nodes_here", "_law_moves_here", "_law_ends_here"] (spD ⟨K, T.cl, w⟩ F_lw_least) := by
  refine ok_def (N := N_lw_least) (m := m_lw_least) (kp := [true, true, true]) T.f_lw_least sc_lw_least rfl (fun cdv A outer s H XE en ek hr => ?_)
  have hu := hr.units
  have nd := (sc_lw_least).nd
  exact (s_cons (s_set 3 nd (by rfl) (by first | exact Or.inl rfl | exact Or.inr rfl) (by rw [ek]; decide) (g_f f_dnewN))
      (s_cons (s_for [4] PassesOwn.never rfl (i_seq (r_v 0)) (g_name 4 nd (by rfl) (by first | exact Or.inl rfl | exact Or.inr rfl) (by rw [ek]; decide)) (s_cons (s_dputN (hr9 hu) (g_f f_non) (p_v 3) (r_v 4))
      (s_cons (s_if (t_cmp (op_inD (u65 hr)) op_inLD (r_v 4) (r_v 2) (by rfl)) (s_cons (s_dputN (hr9 hu) (g_f f_int) (p_v 3) (r_v 4))
      s_nil) s_nil)
      (s_kill [] s_nil))))
      (s_cons (s_for [5, 6, 7, 8, 9, 10] PassesOwn.never rfl (i_rng1 (by rfl) T.z_range (r_f (f_blt cr_len op_lenD (by rfl) T.z_len (by decide +kernel) (a_cons (r_v 0) a_nil)))) (g_name 5 nd (by rfl) (by first | exact Or.inl rfl | exact Or.inr rfl) (by rw [ek]; decide)) (s_cons (s_for [6, 7, 8, 9, 10] PassesOwn.never rfl (i_seq (r_v 1)) (g_tup rfl (gs_cons (g_name 6 nd (by rfl) (by first | exact Or.inl rfl | exact Or.inr rfl) (by rw [ek]; decide)) (gs_cons (g_name 7 nd (by rfl) (by first | exact Or.inl rfl | exact Or.inr rfl) (by rw [ek]; decide)) (gs_cons (g_name 8 nd (by rfl) (by first | exact Or.inl rfl | exact Or.inr rfl) (by rw [ek]; decide)) (gs_cons (g_name 9 nd (by rfl) (by first | exact Or.inl rfl | exact Or.inr rfl) (by rw [ek]; decide)) gs_nil)))) (hlen := len_cons (len_cons (len_cons (len_cons (fun _ _ _ h => len_nil h)))))) (s_cons (s_set 10 nd (by rfl) (by first | exact Or.inl rfl | exact Or.inr rfl) (by rw [ek]; decide) (g_r (r_ixN (hr9 hu) (r_v 3) (r_v 9))))
      (s_cons (s_if (t_w (w_and (t_cmp opr_nis op_nisD (r_v 10) (r_f f_non) (nomark _)) (w_and1 (t_w (w_or (t_cmp opr_is op_isD (r_ixN (hr9 hu) (r_v 3) (r_v 6)) (r_f f_non) (nomark _)) (w_or1 (t_cmp opr_lt op_cmpD (r_f (f_bin opr_add op_addD (r_v 7) (r_v 10))) (r_ixN (hr9 hu) (r_v 3) (r_v 6)) (nomark _)))))))) (s_cons (s_dputN (hr9 hu) (g_f (f_bin opr_add op_addD (r_v 7) (r_v 10))) (p_v 3) (r_v 6))
      s_nil) s_nil)
      (s_kill [] s_nil))))
      s_nil))
      (s_cons (s_ret (g_mv (p_v 3))) s_nil))))
theorem ok_lw_walked (T : Tx K mg w) : FnOk P w K mg base CX0 1 T.a_lw_walked T.d_lw_walked ["_law_moves_here", "_law_ends_here", "_law_names"] (spD ⟨K, T.cl, w⟩ F_lw_walked) := by
  refine ok_def (N := N_lw_walked) (m := m_lw_walked) (kp := [true, true, true]) T.f_lw_walked sc_lw_walked rfl (fun cdv A outer s H XE en ek hr => ?_)
  have hu := hr.units
  have nd := (sc_lw_walked).nd
  exact (s_cons (s_set 3 nd (by rfl) (by first | exact Or.inl rfl | exact Or.inr rfl) (by rw [ek]; decide) (g_f (f_tup (a_cons (r_f f_int) (a_cons (r_f f_int) a_nil)))))
      (s_cons (s_set 4 nd (by rfl) (by first | exact Or.inl rfl | exact Or.inr rfl) (by rw [ek]; decide) (g_f f_int))
      (s_cons (s_for [5, 6] PassesOwn.never rfl (i_seq (r_v 2)) (g_name 5 nd (by rfl) (by first | exact Or.inl rfl | exact Or.inr rfl) (by rw [ek]; decide)) (s_cons (s_seqI 6 (s_setLcV 6 [("_law_move", 7)] (by rfl) rfl nd (by rfl) (by rfl) (by rw [ek]; decide) (i_seqV (r_v 0)) (blkOk_by (own := [("_law_move", 7)]) (N := N_lw_walked) (sc := defScope s_lw_walked) (by decide +kernel)) (fun _ _ _ _ _ => (g_name 7 nd (by rfl) (by first | exact Or.inl rfl | exact Or.inr rfl) (by rw [ek]; decide))) (fun _ _ _ _ _ => (ts_one (t_w (w_and (tv_cmp (op_eqD hu) op_eqqD flat_eq (v_r (r_ix hu (r_v 7) (r_f f_int))) (v_r (r_v 3)) (nomark _)) (w_and1 (tv_cmp (op_eqD hu) op_eqqD flat_eq (v_r (r_ix hu (r_v 7) (r_f f_int))) (v_r (r_v 5)) (nomark _))))))) (fun _ _ _ _ _ => (r_v 7)) (by decide) (by rw [ek]; decide) (sw_true rfl rfl rfl (by decide +kernel))))
      (s_cons (s_if (tv_cmp (op_eqD hu) op_eqqD flat_eq (v_r (r_v 6)) (v_r (r_f (f_lst a_nil))) (nomark _)) (s_cons (s_ret (g_f f_non)) s_nil) s_nil)
      (s_cons (s_set 4 nd (by rfl) (by first | exact Or.inl rfl | exact Or.inr rfl) (by rw [ek]; decide) (g_f (f_bin opr_add op_addD (r_v 4) (r_ix hu (r_ix hu (r_v 6) (r_f f_int)) (r_f f_int)))))
      (s_cons (s_set 3 nd (by rfl) (by first | exact Or.inl rfl | exact Or.inr rfl) (by rw [ek]; decide) (g_r (r_ix hu (r_ix hu (r_v 6) (r_f f_int)) (r_f f_int))))
      s_nil)))))
      (s_cons (s_if (t_cmp (op_notInD (u65 hr)) op_ninLD (r_v 3) (r_v 1) (by rfl)) (s_cons (s_ret (g_f f_non)) s_nil) s_nil)
      (s_cons (s_ret (g_r (r_v 4))) s_nil)))))
theorem ok_lw_alike (T : Tx K mg w) : FnOk P w K mg base CX0 2 T.a_lw_alike T.d_lw_alike ["_law_found", "_law_due"] (spD ⟨K, T.cl, w⟩ F_lw_alike) := by
  refine ok_def (N := N_lw_alike) (m := m_lw_alike) (kp := [true, true]) T.f_lw_alike sc_lw_alike rfl (fun cdv A outer s H XE en ek hr => ?_)
  have hu := hr.units
  have nd := (sc_lw_alike).nd
  exact (s_cons (s_if (t_w (w_or (t_not (t_val (r_f (f_isiN' (r_v 0) (pe_bltn (v := .ty "dict") (u := .type "dict") (by rfl) T.z_dict (by decide +kernel) rfl) T.z_isinstance)))) (w_or1 (tv_cmp (op_neD hu) op_neqD flat_ne (v_r (r_f (f_blt call_len_dN op_lenN (by rfl) T.z_len (by decide +kernel) (a_cons (r_v 0) a_nil)))) (v_r (r_f (f_blt call_len_dN op_lenN (by rfl) T.z_len (by decide +kernel) (a_cons (r_v 1) a_nil)))) (nomark _))))) (s_cons (s_ret (g_f f_bl)) s_nil) s_nil)
      (s_cons (s_for [2] PassesOwn.never rfl (i_dN (r_v 1)) (g_name 2 nd (by rfl) (by first | exact Or.inl rfl | exact Or.inr rfl) (by rw [ek]; decide)) (s_cons (s_if (t_ninN hu (r_v 2) (r_v 0)) (s_cons (s_ret (g_f f_bl)) s_nil) s_nil)
      (s_cons (s_if (t_w (w_and (t_cmp opr_is op_isD (r_ixN (hr9 hu) (r_v 1) (r_v 2)) (r_f f_non) (nomark _)) (w_and1 (t_cmp opr_nis op_nisD (r_ixN (hr9 hu) (r_v 0) (r_v 2)) (r_f f_non) (nomark _))))) (s_cons (s_ret (g_f f_bl)) s_nil) s_nil)
      (s_cons (s_if (t_w (w_and (t_cmp opr_nis op_nisD (r_ixN (hr9 hu) (r_v 1) (r_v 2)) (r_f f_non) (nomark _)) (w_and1 (t_w (w_or (t_not (t_val (r_f (f_call (ok_lw_whole T) (hr.mono (by decide)) (by rfl) T.g_lw_whole T.f_lw_whole.kp T.b_lw_whole pass0 (a_cons (r_ixN (hr9 hu) (r_v 0) (r_v 2)) a_nil))))) (w_or1 (tv_cmp (op_neD hu) op_neqD flat_ne (v_r (r_ixN (hr9 hu) (r_v 0) (r_v 2))) (v_r (r_ixN (hr9 hu) (r_v 1) (r_v 2))) (nomark _)))))))) (s_cons (s_ret (g_f f_bl)) s_nil) s_nil)
      s_nil))))
      (s_cons (s_ret (g_f f_bl)) s_nil)))
theorem ok_lw_way (T : Tx K mg w) : FnOk P w K mg base CX0 6 T.a_lw_way T.d_lw_way ["_law_trail", "_law_moves_here", "_law_ends_here", "_law_due"] (spD ⟨K, T.cl, w⟩ F_lw_way) := by
  refine ok_def (N := N_lw_way) (m := m_lw_way) (kp := [true, true, true, true]) T.f_lw_way sc_lw_way rfl (fun cdv A outer s H XE en ek hr => ?_)
  have hu := hr.units
  have nd := (sc_lw_way).nd
  exact (s_cons (s_set 4 nd (by rfl) (by first | exact Or.inl rfl | exact Or.inr rfl) (by rw [ek]; decide) (g_f (f_call (ok_way_of T) (hr.mono (by decide)) (by rfl) T.g_way_of T.f_way_of.kp T.b_way_of pass0 (a_cons (r_v 0) a_nil))))
      (s_cons (s_if (t_cmp opr_is op_isD (r_ixN (hr9 hu) (r_v 3) (r_f (f_tup (a_cons (r_f f_int) (a_cons (r_f f_int) a_nil))))) (r_f f_non) (nomark _)) (s_cons (s_ret (g_f (f_cmp opr_is op_isD (r_v 4) (r_f f_non) (nomark _)))) s_nil) s_nil)
      (s_cons (s_if (t_w (w_or (t_not (t_val (r_f (f_isi' (r_v 4) (pe_bltn (v := .ty "tuple") (u := .type "tuple") (by rfl) T.z_tuple (by decide +kernel) rfl) T.z_isinstance)))) (w_or (tv_cmp (op_neD hu) op_neqD flat_ne (v_r (r_f (f_blt cr_len op_lenD (by rfl) T.z_len (by decide +kernel) (a_cons (r_v 4) a_nil)))) (v_r (r_f f_int)) (nomark _)) (w_or (t_not (t_val (r_f (f_call (ok_lw_whole T) (hr.mono (by decide)) (by rfl) T.g_lw_whole T.f_lw_whole.kp T.b_lw_whole pass0 (a_cons (r_ix hu (r_v 4) (r_f f_int)) a_nil))))) (w_or1 (t_not (t_val (r_f (f_isi' (r_ix hu (r_v 4) (r_f f_int)) (pe_bltn (v := .ty "list") (u := .type "list") (by rfl) T.z_list (by decide +kernel) rfl) T.z_isinstance))))))))) (s_cons (s_ret (g_f f_bl)) s_nil) s_nil)
      (s_cons (s_if (t_w (w_or (tv_cmp (op_neD hu) op_neqD flat_ne (v_r (r_ix hu (r_v 4) (r_f f_int))) (v_r (r_ixN (hr9 hu) (r_v 3) (r_f (f_tup (a_cons (r_f f_int) (a_cons (r_f f_int) a_nil)))))) (nomark _)) (w_or1 (tv_cmp (op_neD hu) op_neqD flat_ne (v_call (ok_lw_walked T) (hr.mono (by decide)) (by rfl) T.g_lw_walked T.f_lw_walked.kp T.b_lw_walked pass0 (a_cons (r_v 1) (a_cons (r_v 2) (a_cons (r_ix hu (r_v 4) (r_f f_int)) a_nil)))) (v_r (r_ix hu (r_v 4) (r_f f_int))) (nomark _))))) (s_cons (s_ret (g_f f_bl)) s_nil) s_nil)
      (s_cons (s_if (tv_cmp (op_neD hu) op_neqD flat_ne (v_call (ok_walked T) (hr.mono (by decide)) (by rfl) T.g_walked T.f_walked.kp T.b_walked pass0 (a_cons (r_v 0) (a_cons (r_f (f_cold (f_bty call_list_of op_listD (by rfl) T.z_list (by decide +kernel) (a_cons (r_ix hu (r_v 4) (r_f f_int)) a_nil)))) a_nil))) (v_r (r_ix hu (r_v 4) (r_f f_int))) (nomark _)) (s_cons (s_ret (g_f f_bl)) s_nil) s_nil)
      (s_cons (s_expr (g_app (p_tix 1 (p_v 4)) (f_str [122])))
      (s_cons (s_ret (g_f f_bl)) s_nil)))))))
theorem ok_law (T : Tx K mg w) : FnOk P w K mg base CX0 7 T.a_law T.d_law ["_law_script"] (spD ⟨K, T.cl, w⟩ F_law) := by
  refine ok_def (N := N_law) (m := m_law) (kp := [true]) T.f_law sc_law rfl (fun cdv A outer s H XE en ek hr => ?_)
  have hu := hr.units
  have nd := (sc_law).nd
  exact (s_cons (s_set 1 nd (by rfl) (by first | exact Or.inl rfl | exact Or.inr rfl) (by rw [ek]; decide) (g_f (f_cold (f_call (ok_lw_sizes T) (hr.mono (by decide)) (by rfl) T.g_lw_sizes T.f_lw_sizes.kp T.b_lw_sizes pass0 (a_cons (r_f (f_call (ok_lw_cell_at T) (hr.mono (by decide)) (by rfl) T.g_lw_cell_at T.f_lw_cell_at.kp T.b_lw_cell_at pass0 (a_cons (r_v 0) (a_cons (r_f f_int) a_nil)))) a_nil)))))
      (s_cons (s_set 2 nd (by rfl) (by first | exact Or.inl rfl | exact Or.inr rfl) (by rw [ek]; decide) (g_f (f_cold (f_call (ok_lw_nodes T) (hr.mono (by decide)) (by rfl) T.g_lw_nodes T.f_lw_nodes.kp T.b_lw_nodes pass0 (a_cons (r_v 1) a_nil)))))
      (s_cons (s_set 3 nd (by rfl) (by first | exact Or.inl rfl | exact Or.inr rfl) (by rw [ek]; decide) (g_f (f_cold (f_call (ok_lw_moves T) (hr.mono (by decide)) (by rfl) T.g_lw_moves T.f_lw_moves.kp T.b_lw_moves pass0 (a_cons (r_v 0) (a_cons (r_v 2) a_nil))))))
      (s_cons (s_set 4 nd (by rfl) (by first | exact Or.inl rfl | exact Or.inr rfl) (by rw [ek]; decide) (g_f (f_cold (f_call (ok_lw_ends T) (hr.mono (by decide)) (by rfl) T.g_lw_ends T.f_lw_ends.kp T.b_lw_ends pass0 (a_cons (r_f (f_call (ok_lw_cell_at T) (hr.mono (by decide)) (by rfl) T.g_lw_cell_at T.f_lw_cell_at.kp T.b_lw_cell_at pass0 (a_cons (r_v 0) (a_cons (r_f f_int) a_nil)))) (a_cons (r_v 2) a_nil))))))
      (s_cons (s_set 5 nd (by rfl) (by first | exact Or.inl rfl | exact Or.inr rfl) (by rw [ek]; decide) (g_f (f_cold (f_call (ok_lw_least T) (hr.mono (by decide)) (by rfl) T.g_lw_least T.f_lw_least.kp T.b_lw_least pass0 (a_cons (r_v 2) (a_cons (r_v 3) (a_cons (r_v 4) a_nil)))))))
      (s_cons (s_set 6 nd (by rfl) (by first | exact Or.inl rfl | exact Or.inr rfl) (by rw [ek]; decide) (g_lstO (ao_cons (g_f (f_bty call_list_of op_listD (by rfl) T.z_list (by decide +kernel) (a_cons (r_v 1) a_nil))) (ao_cons (g_f (f_bty call_list_of op_listD (by rfl) T.z_list (by decide +kernel) (a_cons (r_v 3) a_nil))) (ao_cons (g_f (f_bty call_list_of op_listD (by rfl) T.z_list (by decide +kernel) (a_cons (r_v 4) a_nil))) ao_nil)))))
      (s_cons (s_set 7 nd (by rfl) (by first | exact Or.inl rfl | exact Or.inr rfl) (by rw [ek]; decide) (g_f (f_cold (f_view [6] (f_mk 1 T.mk_Listed (ok_Listed_init T) (hr.mono (by decide)) (by rfl) T.gc_Listed T.b_Listed_init pass0 (a_cons (r_ix hu (r_v 6) (r_f f_int)) (a_cons (r_ix hu (r_v 6) (r_f f_int)) (a_cons (r_ix hu (r_v 6) (r_f f_int)) a_nil))))))))
      (s_cons (s_forC 6 [true, false, false, false, false, false, true] [8] PassesOwn.never rfl (by rw [ek]; exact kpE (by decide)) (by rw [ek]; exact kpS (by decide)) (by rfl) (by decide) (g_name 8 nd (by rfl) (by first | exact Or.inl rfl | exact Or.inr rfl) (by rw [ek]; decide)) (fun en ek => (s_cons (s_expr (g_clearO (p_v 8))) s_nil)))
      (s_cons (s_set 9 nd (by rfl) (by first | exact Or.inl rfl | exact Or.inr rfl) (by rw [ek]; decide) (g_f (f_call (ok_priced T) (hr.mono (by decide)) (by rfl) T.g_priced T.f_priced.kp T.b_priced pass0 (a_cons (r_v 7) a_nil))))
      (s_cons (s_if (t_w (w_or (t_not (t_val (r_f (f_isiC 1 0 true (r_v 7) T.is_Listed_Trail T.gc_Trail T.z_isinstance)))) (w_or (t_not (t_val (r_f (f_call (ok_lw_alike T) (hr.mono (by decide)) (by rfl) T.g_lw_alike T.f_lw_alike.kp T.b_lw_alike pass0 (a_cons (r_v 9) (a_cons (r_v 5) a_nil)))))) (w_or1 (t_cmp opr_nis op_nisD (r_f (f_call (ok_fair T) (hr.mono (by decide)) (by rfl) T.g_fair T.f_fair.kp T.b_fair pass0 (a_cons (r_v 7) (a_cons (r_v 9) a_nil)))) (r_f f_bl) (nomark _)))))) (s_cons (s_ret (g_f f_bl)) s_nil) s_nil)
      (s_cons (s_dputN (hr9 hu) (g_f (f_neg (r_f f_int))) (p_v 9) (r_f (f_tup (a_cons (r_f f_int) (a_cons (r_f f_int) a_nil)))))
      (s_cons (s_dputX (hr9 hu) (g_f f_int) (p_v 9) (r_f (f_str [120])))
      (s_cons (s_if (t_w (w_or (t_not (t_val (r_f (f_call (ok_lw_way T) (hr.mono (by decide)) (by rfl) T.g_lw_way T.f_lw_way.kp T.b_lw_way pass0 (a_cons (r_v 7) (a_cons (r_v 3) (a_cons (r_v 4) (a_cons (r_v 5) a_nil)))))))) (w_or1 (t_not (t_val (r_f (f_call (ok_lw_way T) (hr.mono (by decide)) (by rfl) T.g_lw_way T.f_lw_way.kp T.b_lw_way pass0 (a_cons (r_v 7) (a_cons (r_v 3) (a_cons (r_v 4) (a_cons (r_v 5) a_nil))))))))))) (s_cons (s_ret (g_f f_bl)) s_nil) s_nil)
      (s_cons (s_ret (g_f (f_call (ok_lw_alike T) (hr.mono (by decide)) (by rfl) T.g_lw_alike T.f_lw_alike.kp T.b_lw_alike pass0 (a_cons (r_f (f_cold (f_call (ok_priced T) (hr.mono (by decide)) (by rfl) T.g_priced T.f_priced.kp T.b_priced pass0 (a_cons (r_v 7) a_nil)))) (a_cons (r_v 5) a_nil))))) s_nil))))))))))))))
end
end LW

namespace LW
open PySem L2 PyProof.Rows LI
theorem law_true (ns : List Int) (hl : ns.length ≤ 63) (hb : ∀ z ∈ ns, Builtin.Int.intBits z ≤ 1048576) : ∃ ds', F_law [.scr ns] = some (.bl true, ds') := ⟨_, L_law ns (LW.law_t ns hl hb)⟩
theorem all_mk (LT : ∀ ns : List Int, ns.length ≤ 63 → (∀ z ∈ ns, Builtin.Int.intBits z ≤ 1048576) → ∃ ds', F_law [.scr ns] = some (.bl true, ds')) {l : PySem.W.OpenLaw} {w : World} {K : PySem.W.Frag} {h : Heap} {mg : Str → Option Value} {fa : Addr} (X : K.In h) (G : h.Ns mainGlobals mg) (hfa : mg "law" = some (.ref fa))
    {c_Trail c_Listed p_Listed_init p_Listed_first_node p_Listed_last_at p_Listed_nodes_at p_Listed_moves_from p_Listed_is_end p_cheapest p_settle p_priced p_first_least p_way_of p_walked p_all_nodes p_is_price p_fair_at p_fair p_lw_cell_at p_lw_mix p_lw_whole p_lw_sizes p_lw_nodes p_lw_moves p_lw_ends p_lw_least p_lw_walked p_lw_alike p_lw_way p_law : Addr} {od_Listed_init an_Listed_init od_Listed_first_node an_Listed_first_node od_Listed_last_at an_Listed_last_at od_Listed_nodes_at an_Listed_nodes_at od_Listed_moves_from an_Listed_moves_from od_Listed_is_end an_Listed_is_end od_cheapest an_cheapest od_settle an_settle od_priced an_priced od_first_least an_first_least od_way_of an_way_of od_walked an_walked od_all_nodes an_all_nodes od_is_price an_is_price od_fair_at an_fair_at od_fair an_fair od_lw_cell_at an_lw_cell_at od_lw_mix an_lw_mix od_lw_whole an_lw_whole od_lw_sizes an_lw_sizes od_lw_nodes an_lw_nodes od_lw_moves an_lw_moves od_lw_ends an_lw_ends od_lw_least an_lw_least od_lw_walked an_lw_walked od_lw_alike an_lw_alike od_lw_way an_lw_way od_law an_law : Option Addr} {sl_Listed_init sl_Listed_first_node sl_Listed_last_at sl_Listed_nodes_at sl_Listed_moves_from sl_Listed_is_end sl_cheapest sl_settle sl_priced sl_first_least sl_way_of sl_walked sl_all_nodes sl_is_price sl_fair_at sl_fair sl_lw_cell_at sl_lw_mix sl_lw_whole sl_lw_sizes sl_lw_nodes sl_lw_moves sl_lw_ends sl_lw_least sl_lw_walked sl_lw_alike sl_lw_way sl_law : Array (Option Value)} {oc_Listed_init kV_Listed_init dc_Listed_init pm_Listed_init cd_Listed_init ct_Listed_init oc_Listed_first_node kV_Listed_first_node dc_Listed_first_node pm_Listed_first_node cd_Listed_first_node ct_Listed_first_node oc_Listed_last_at kV_Listed_last_at dc_Listed_last_at pm_Listed_last_at cd_Listed_last_at ct_Listed_last_at oc_Listed_nodes_at kV_Listed_nodes_at dc_Listed_nodes_at pm_Listed_nodes_at cd_Listed_nodes_at ct_Listed_nodes_at oc_Listed_moves_from kV_Listed_moves_from dc_Listed_moves_from pm_Listed_moves_from cd_Listed_moves_from ct_Listed_moves_from oc_Listed_is_end kV_Listed_is_end dc_Listed_is_end pm_Listed_is_end cd_Listed_is_end ct_Listed_is_end oc_cheapest kV_cheapest dc_cheapest pm_cheapest cd_cheapest ct_cheapest oc_settle kV_settle dc_settle pm_settle cd_settle ct_settle oc_priced kV_priced dc_priced pm_priced cd_priced ct_priced oc_first_least kV_first_least dc_first_least pm_first_least cd_first_least ct_first_least oc_way_of kV_way_of dc_way_of pm_way_of cd_way_of ct_way_of oc_walked kV_walked dc_walked pm_walked cd_walked ct_walked oc_all_nodes kV_all_nodes dc_all_nodes pm_all_nodes cd_all_nodes ct_all_nodes oc_is_price kV_is_price dc_is_price pm_is_price cd_is_price ct_is_price oc_fair_at kV_fair_at dc_fair_at pm_fair_at cd_fair_at ct_fair_at oc_fair kV_fair dc_fair pm_fair cd_fair ct_fair oc_lw_cell_at kV_lw_cell_at dc_lw_cell_at pm_lw_cell_at cd_lw_cell_at ct_lw_cell_at oc_lw_mix kV_lw_mix dc_lw_mix pm_lw_mix cd_lw_mix ct_lw_mix oc_lw_whole kV_lw_whole dc_lw_whole pm_lw_whole cd_lw_whole ct_lw_whole oc_lw_sizes kV_lw_sizes dc_lw_sizes pm_lw_sizes cd_lw_sizes ct_lw_sizes oc_lw_nodes kV_lw_nodes dc_lw_nodes pm_lw_nodes cd_lw_nodes ct_lw_nodes oc_lw_moves kV_lw_moves dc_lw_moves pm_lw_moves cd_lw_moves ct_lw_moves oc_lw_ends kV_lw_ends dc_lw_ends pm_lw_ends cd_lw_ends ct_lw_ends oc_lw_least kV_lw_least dc_lw_least pm_lw_least cd_lw_least ct_lw_least oc_lw_walked kV_lw_walked dc_lw_walked pm_lw_walked cd_lw_walked ct_lw_walked oc_lw_alike kV_lw_alike dc_lw_alike pm_lw_alike cd_lw_alike ct_lw_alike oc_lw_way kV_lw_way dc_lw_way pm_lw_way cd_lw_way ct_lw_way oc_law kV_law dc_law pm_law cd_law ct_law : Value} 
    (gc_Trail : PySem.W.nsIn K mainGlobals "Trail" = some (some (.ref c_Trail)))
    (gc_Listed : PySem.W.nsIn K mainGlobals "Listed" = some (some (.ref c_Listed)))
    (a1_Listed_init : PySem.W.findIn K (.ref c_Listed) "__init__" = some (some (.ref p_Listed_init)))
    (a5_Listed_init : PySem.W.isFn K (.ref p_Listed_init) = true)
    (a2_Listed_init : K.lookup p_Listed_init = some ⟨oc_Listed_init, od_Listed_init, .func (PySem.W.fnOf "__init__" "Listed.__init__" (defArgs s_Listed_init) (defBody s_Listed_init) (defScope s_Listed_init) .none kV_Listed_init dc_Listed_init pm_Listed_init an_Listed_init cd_Listed_init ct_Listed_init), sl_Listed_init⟩)
    (a3_Listed_init : PySem.W.codeIn K cd_Listed_init "Listed.__init__" = true)
    (a4_Listed_init : PySem.W.keepIn K (.ref p_Listed_init) = true)
    (a1_Listed_first_node : PySem.W.findIn K (.ref c_Listed) "first_node" = some (some (.ref p_Listed_first_node)))
    (a5_Listed_first_node : PySem.W.isFn K (.ref p_Listed_first_node) = true)
    (a2_Listed_first_node : K.lookup p_Listed_first_node = some ⟨oc_Listed_first_node, od_Listed_first_node, .func (PySem.W.fnOf "first_node" "Listed.first_node" (defArgs s_Listed_first_node) (defBody s_Listed_first_node) (defScope s_Listed_first_node) .none kV_Listed_first_node dc_Listed_first_node pm_Listed_first_node an_Listed_first_node cd_Listed_first_node ct_Listed_first_node), sl_Listed_first_node⟩)
    (a3_Listed_first_node : PySem.W.codeIn K cd_Listed_first_node "Listed.first_node" = true)
    (a4_Listed_first_node : PySem.W.keepIn K (.ref p_Listed_first_node) = true)
    (a1_Listed_last_at : PySem.W.findIn K (.ref c_Listed) "last_at" = some (some (.ref p_Listed_last_at)))
    (a5_Listed_last_at : PySem.W.isFn K (.ref p_Listed_last_at) = true)
    (a2_Listed_last_at : K.lookup p_Listed_last_at = some ⟨oc_Listed_last_at, od_Listed_last_at, .func (PySem.W.fnOf "last_at" "Listed.last_at" (defArgs s_Listed_last_at) (defBody s_Listed_last_at) (defScope s_Listed_last_at) .none kV_Listed_last_at dc_Listed_last_at pm_Listed_last_at an_Listed_last_at cd_Listed_last_at ct_Listed_last_at), sl_Listed_last_at⟩)
    (a3_Listed_last_at : PySem.W.codeIn K cd_Listed_last_at "Listed.last_at" = true)
    (a4_Listed_last_at : PySem.W.keepIn K (.ref p_Listed_last_at) = true)
    (a1_Listed_nodes_at : PySem.W.findIn K (.ref c_Listed) "nodes_at" = some (some (.ref p_Listed_nodes_at)))
    (a5_Listed_nodes_at : PySem.W.isFn K (.ref p_Listed_nodes_at) = true)
    (a2_Listed_nodes_at : K.lookup p_Listed_nodes_at = some ⟨oc_Listed_nodes_at, od_Listed_nodes_at, .func (PySem.W.fnOf "nodes_at" "Listed.nodes_at" (defArgs s_Listed_nodes_at) (defBody s_Listed_nodes_at) (defScope s_Listed_nodes_at) .none kV_Listed_nodes_at dc_Listed_nodes_at pm_Listed_nodes_at an_Listed_nodes_at cd_Listed_nodes_at ct_Listed_nodes_at), sl_Listed_nodes_at⟩)
    (a3_Listed_nodes_at : PySem.W.codeIn K cd_Listed_nodes_at "Listed.nodes_at" = true)
    (a4_Listed_nodes_at : PySem.W.keepIn K (.ref p_Listed_nodes_at) = true)
    (a1_Listed_moves_from : PySem.W.findIn K (.ref c_Listed) "moves_from" = some (some (.ref p_Listed_moves_from)))
    (a5_Listed_moves_from : PySem.W.isFn K (.ref p_Listed_moves_from) = true)
    (a2_Listed_moves_from : K.lookup p_Listed_moves_from = some ⟨oc_Listed_moves_from, od_Listed_moves_from, .func (PySem.W.fnOf "moves_from" "Listed.moves_from" (defArgs s_Listed_moves_from) (defBody s_Listed_moves_from) (defScope s_Listed_moves_from) .none kV_Listed_moves_from dc_Listed_moves_from pm_Listed_moves_from an_Listed_moves_from cd_Listed_moves_from ct_Listed_moves_from), sl_Listed_moves_from⟩)
    (a3_Listed_moves_from : PySem.W.codeIn K cd_Listed_moves_from "Listed.moves_from" = true)
    (a4_Listed_moves_from : PySem.W.keepIn K (.ref p_Listed_moves_from) = true)
    (a1_Listed_is_end : PySem.W.findIn K (.ref c_Listed) "is_end" = some (some (.ref p_Listed_is_end)))
    (a5_Listed_is_end : PySem.W.isFn K (.ref p_Listed_is_end) = true)
    (a2_Listed_is_end : K.lookup p_Listed_is_end = some ⟨oc_Listed_is_end, od_Listed_is_end, .func (PySem.W.fnOf "is_end" "Listed.is_end" (defArgs s_Listed_is_end) (defBody s_Listed_is_end) (defScope s_Listed_is_end) .none kV_Listed_is_end dc_Listed_is_end pm_Listed_is_end an_Listed_is_end cd_Listed_is_end ct_Listed_is_end), sl_Listed_is_end⟩)
    (a3_Listed_is_end : PySem.W.codeIn K cd_Listed_is_end "Listed.is_end" = true)
    (a4_Listed_is_end : PySem.W.keepIn K (.ref p_Listed_is_end) = true)
    (a1_cheapest : PySem.W.nsIn K mainGlobals "cheapest" = some (some (.ref p_cheapest)))
    (a2_cheapest : K.lookup p_cheapest = some ⟨oc_cheapest, od_cheapest, .func (PySem.W.fnOf "cheapest" "cheapest" (defArgs s_cheapest) (defBody s_cheapest) (defScope s_cheapest) .none kV_cheapest dc_cheapest pm_cheapest an_cheapest cd_cheapest ct_cheapest), sl_cheapest⟩)
    (a3_cheapest : PySem.W.codeIn K cd_cheapest "cheapest" = true)
    (a4_cheapest : PySem.W.keepIn K (.ref p_cheapest) = true)
    (a1_settle : PySem.W.nsIn K mainGlobals "settle" = some (some (.ref p_settle)))
    (a2_settle : K.lookup p_settle = some ⟨oc_settle, od_settle, .func (PySem.W.fnOf "settle" "settle" (defArgs s_settle) (defBody s_settle) (defScope s_settle) .none kV_settle dc_settle pm_settle an_settle cd_settle ct_settle), sl_settle⟩)
    (a3_settle : PySem.W.codeIn K cd_settle "settle" = true)
    (a4_settle : PySem.W.keepIn K (.ref p_settle) = true)
    (a1_priced : PySem.W.nsIn K mainGlobals "priced" = some (some (.ref p_priced)))
    (a2_priced : K.lookup p_priced = some ⟨oc_priced, od_priced, .func (PySem.W.fnOf "priced" "priced" (defArgs s_priced) (defBody s_priced) (defScope s_priced) .none kV_priced dc_priced pm_priced an_priced cd_priced ct_priced), sl_priced⟩)
    (a3_priced : PySem.W.codeIn K cd_priced "priced" = true)
    (a4_priced : PySem.W.keepIn K (.ref p_priced) = true)
    (a1_first_least : PySem.W.nsIn K mainGlobals "first_least" = some (some (.ref p_first_least)))
    (a2_first_least : K.lookup p_first_least = some ⟨oc_first_least, od_first_least, .func (PySem.W.fnOf "first_least" "first_least" (defArgs s_first_least) (defBody s_first_least) (defScope s_first_least) .none kV_first_least dc_first_least pm_first_least an_first_least cd_first_least ct_first_least), sl_first_least⟩)
    (a3_first_least : PySem.W.codeIn K cd_first_least "first_least" = true)
    (a4_first_least : PySem.W.keepIn K (.ref p_first_least) = true)
    (a1_way_of : PySem.W.nsIn K mainGlobals "way_of" = some (some (.ref p_way_of)))
    (a2_way_of : K.lookup p_way_of = some ⟨oc_way_of, od_way_of, .func (PySem.W.fnOf "way_of" "way_of" (defArgs s_way_of) (defBody s_way_of) (defScope s_way_of) .none kV_way_of dc_way_of pm_way_of an_way_of cd_way_of ct_way_of), sl_way_of⟩)
    (a3_way_of : PySem.W.codeIn K cd_way_of "way_of" = true)
    (a4_way_of : PySem.W.keepIn K (.ref p_way_of) = true)
    (a1_walked : PySem.W.nsIn K mainGlobals "walked" = some (some (.ref p_walked)))
    (a2_walked : K.lookup p_walked = some ⟨oc_walked, od_walked, .func (PySem.W.fnOf "walked" "walked" (defArgs s_walked) (defBody s_walked) (defScope s_walked) .none kV_walked dc_walked pm_walked an_walked cd_walked ct_walked), sl_walked⟩)
    (a3_walked : PySem.W.codeIn K cd_walked "walked" = true)
    (a4_walked : PySem.W.keepIn K (.ref p_walked) = true)
    (a1_all_nodes : PySem.W.nsIn K mainGlobals "all_nodes" = some (some (.ref p_all_nodes)))
    (a2_all_nodes : K.lookup p_all_nodes = some ⟨oc_all_nodes, od_all_nodes, .func (PySem.W.fnOf "all_nodes" "all_nodes" (defArgs s_all_nodes) (defBody s_all_nodes) (defScope s_all_nodes) .none kV_all_nodes dc_all_nodes pm_all_nodes an_all_nodes cd_all_nodes ct_all_nodes), sl_all_nodes⟩)
    (a3_all_nodes : PySem.W.codeIn K cd_all_nodes "all_nodes" = true)
    (a4_all_nodes : PySem.W.keepIn K (.ref p_all_nodes) = true)
    (a1_is_price : PySem.W.nsIn K mainGlobals "is_price" = some (some (.ref p_is_price)))
    (a2_is_price : K.lookup p_is_price = some ⟨oc_is_price, od_is_price, .func (PySem.W.fnOf "is_price" "is_price" (defArgs s_is_price) (defBody s_is_price) (defScope s_is_price) .none kV_is_price dc_is_price pm_is_price an_is_price cd_is_price ct_is_price), sl_is_price⟩)
    (a3_is_price : PySem.W.codeIn K cd_is_price "is_price" = true)
    (a4_is_price : PySem.W.keepIn K (.ref p_is_price) = true)
    (a1_fair_at : PySem.W.nsIn K mainGlobals "fair_at" = some (some (.ref p_fair_at)))
    (a2_fair_at : K.lookup p_fair_at = some ⟨oc_fair_at, od_fair_at, .func (PySem.W.fnOf "fair_at" "fair_at" (defArgs s_fair_at) (defBody s_fair_at) (defScope s_fair_at) .none kV_fair_at dc_fair_at pm_fair_at an_fair_at cd_fair_at ct_fair_at), sl_fair_at⟩)
    (a3_fair_at : PySem.W.codeIn K cd_fair_at "fair_at" = true)
    (a4_fair_at : PySem.W.keepIn K (.ref p_fair_at) = true)
    (a1_fair : PySem.W.nsIn K mainGlobals "fair" = some (some (.ref p_fair)))
    (a2_fair : K.lookup p_fair = some ⟨oc_fair, od_fair, .func (PySem.W.fnOf "fair" "fair" (defArgs s_fair) (defBody s_fair) (defScope s_fair) .none kV_fair dc_fair pm_fair an_fair cd_fair ct_fair), sl_fair⟩)
    (a3_fair : PySem.W.codeIn K cd_fair "fair" = true)
    (a4_fair : PySem.W.keepIn K (.ref p_fair) = true)
    (a1_lw_cell_at : PySem.W.nsIn K mainGlobals "_law_cell_at" = some (some (.ref p_lw_cell_at)))
    (a2_lw_cell_at : K.lookup p_lw_cell_at = some ⟨oc_lw_cell_at, od_lw_cell_at, .func (PySem.W.fnOf "_law_cell_at" "_law_cell_at" (defArgs s_lw_cell_at) (defBody s_lw_cell_at) (defScope s_lw_cell_at) .none kV_lw_cell_at dc_lw_cell_at pm_lw_cell_at an_lw_cell_at cd_lw_cell_at ct_lw_cell_at), sl_lw_cell_at⟩)
    (a3_lw_cell_at : PySem.W.codeIn K cd_lw_cell_at "_law_cell_at" = true)
    (a4_lw_cell_at : PySem.W.keepIn K (.ref p_lw_cell_at) = true)
    (a1_lw_mix : PySem.W.nsIn K mainGlobals "_law_mix" = some (some (.ref p_lw_mix)))
    (a2_lw_mix : K.lookup p_lw_mix = some ⟨oc_lw_mix, od_lw_mix, .func (PySem.W.fnOf "_law_mix" "_law_mix" (defArgs s_lw_mix) (defBody s_lw_mix) (defScope s_lw_mix) .none kV_lw_mix dc_lw_mix pm_lw_mix an_lw_mix cd_lw_mix ct_lw_mix), sl_lw_mix⟩)
    (a3_lw_mix : PySem.W.codeIn K cd_lw_mix "_law_mix" = true)
    (a4_lw_mix : PySem.W.keepIn K (.ref p_lw_mix) = true)
    (a1_lw_whole : PySem.W.nsIn K mainGlobals "_law_whole" = some (some (.ref p_lw_whole)))
    (a2_lw_whole : K.lookup p_lw_whole = some ⟨oc_lw_whole, od_lw_whole, .func (PySem.W.fnOf "_law_whole" "_law_whole" (defArgs s_lw_whole) (defBody s_lw_whole) (defScope s_lw_whole) .none kV_lw_whole dc_lw_whole pm_lw_whole an_lw_whole cd_lw_whole ct_lw_whole), sl_lw_whole⟩)
    (a3_lw_whole : PySem.W.codeIn K cd_lw_whole "_law_whole" = true)
    (a4_lw_whole : PySem.W.keepIn K (.ref p_lw_whole) = true)
    (a1_lw_sizes : PySem.W.nsIn K mainGlobals "_law_sizes" = some (some (.ref p_lw_sizes)))
    (a2_lw_sizes : K.lookup p_lw_sizes = some ⟨oc_lw_sizes, od_lw_sizes, .func (PySem.W.fnOf "_law_sizes" "_law_sizes" (defArgs s_lw_sizes) (defBody s_lw_sizes) (defScope s_lw_sizes) .none kV_lw_sizes dc_lw_sizes pm_lw_sizes an_lw_sizes cd_lw_sizes ct_lw_sizes), sl_lw_sizes⟩)
    (a3_lw_sizes : PySem.W.codeIn K cd_lw_sizes "_law_sizes" = true)
    (a4_lw_sizes : PySem.W.keepIn K (.ref p_lw_sizes) = true)
    (a1_lw_nodes : PySem.W.nsIn K mainGlobals "_law_nodes" = some (some (.ref p_lw_nodes)))
    (a2_lw_nodes : K.lookup p_lw_nodes = some ⟨oc_lw_nodes, od_lw_nodes, .func (PySem.W.fnOf "_law_nodes" "_law_nodes" (defArgs s_lw_nodes) (defBody s_lw_nodes) (defScope s_lw_nodes) .none kV_lw_nodes dc_lw_nodes pm_lw_nodes an_lw_nodes cd_lw_nodes ct_lw_nodes), sl_lw_nodes⟩)
    (a3_lw_nodes : PySem.W.codeIn K cd_lw_nodes "_law_nodes" = true)
    (a4_lw_nodes : PySem.W.keepIn K (.ref p_lw_nodes) = true)
    (a1_lw_moves : PySem.W.nsIn K mainGlobals "_law_moves" = some (some (.ref p_lw_moves)))
    (a2_lw_moves : K.lookup p_lw_moves = some ⟨oc_lw_moves, od_lw_moves, .func (PySem.W.fnOf "_law_moves" "_law_moves" (defArgs s_lw_moves) (defBody s_lw_moves) (defScope s_lw_moves) .none kV_lw_moves dc_lw_moves pm_lw_moves an_lw_moves cd_lw_moves ct_lw_moves), sl_lw_moves⟩)
    (a3_lw_moves : PySem.W.codeIn K cd_lw_moves "_law_moves" = true)
    (a4_lw_moves : PySem.W.keepIn K (.ref p_lw_moves) = true)
    (a1_lw_ends : PySem.W.nsIn K mainGlobals "_law_ends" = some (some (.ref p_lw_ends)))
    (a2_lw_ends : K.lookup p_lw_ends = some ⟨oc_lw_ends, od_lw_ends, .func (PySem.W.fnOf "_law_ends" "_law_ends" (defArgs s_lw_ends) (defBody s_lw_ends) (defScope s_lw_ends) .none kV_lw_ends dc_lw_ends pm_lw_ends an_lw_ends cd_lw_ends ct_lw_ends), sl_lw_ends⟩)
    (a3_lw_ends : PySem.W.codeIn K cd_lw_ends "_law_ends" = true)
    (a4_lw_ends : PySem.W.keepIn K (.ref p_lw_ends) = true)
    (a1_lw_least : PySem.W.nsIn K mainGlobals "_law_least" = some (some (.ref p_lw_least)))
    (a2_lw_least : K.lookup p_lw_least = some ⟨oc_lw_least, od_lw_least, .func (PySem.W.fnOf "_law_least" "_law_least" (defArgs s_lw_least) (defBody s_lw_least) (defScope s_lw_least) .none kV_lw_least dc_lw_least pm_lw_least an_lw_least cd_lw_least ct_lw_least), sl_lw_least⟩)
    (a3_lw_least : PySem.W.codeIn K cd_lw_least "_law_least" = true)
    (a4_lw_least : PySem.W.keepIn K (.ref p_lw_least) = true)
    (a1_lw_walked : PySem.W.nsIn K mainGlobals "_law_walked" = some (some (.ref p_lw_walked)))
    (a2_lw_walked : K.lookup p_lw_walked = some ⟨oc_lw_walked, od_lw_walked, .func (PySem.W.fnOf "_law_walked" "_law_walked" (defArgs s_lw_walked) (defBody s_lw_walked) (defScope s_lw_walked) .none kV_lw_walked dc_lw_walked pm_lw_walked an_lw_walked cd_lw_walked ct_lw_walked), sl_lw_walked⟩)
    (a3_lw_walked : PySem.W.codeIn K cd_lw_walked "_law_walked" = true)
    (a4_lw_walked : PySem.W.keepIn K (.ref p_lw_walked) = true)
    (a1_lw_alike : PySem.W.nsIn K mainGlobals "_law_alike" = some (some (.ref p_lw_alike)))
    (a2_lw_alike : K.lookup p_lw_alike = some ⟨oc_lw_alike, od_lw_alike, .func (PySem.W.fnOf "_law_alike" "_law_alike" (defArgs s_lw_alike) (defBody s_lw_alike) (defScope s_lw_alike) .none kV_lw_alike dc_lw_alike pm_lw_alike an_lw_alike cd_lw_alike ct_lw_alike), sl_lw_alike⟩)
    (a3_lw_alike : PySem.W.codeIn K cd_lw_alike "_law_alike" = true)
    (a4_lw_alike : PySem.W.keepIn K (.ref p_lw_alike) = true)
    (a1_lw_way : PySem.W.nsIn K mainGlobals "_law_way" = some (some (.ref p_lw_way)))
    (a2_lw_way : K.lookup p_lw_way = some ⟨oc_lw_way, od_lw_way, .func (PySem.W.fnOf "_law_way" "_law_way" (defArgs s_lw_way) (defBody s_lw_way) (defScope s_lw_way) .none kV_lw_way dc_lw_way pm_lw_way an_lw_way cd_lw_way ct_lw_way), sl_lw_way⟩)
    (a3_lw_way : PySem.W.codeIn K cd_lw_way "_law_way" = true)
    (a4_lw_way : PySem.W.keepIn K (.ref p_lw_way) = true)
    (a1_law : PySem.W.nsIn K mainGlobals "law" = some (some (.ref p_law)))
    (a2_law : K.lookup p_law = some ⟨oc_law, od_law, .func (PySem.W.fnOf "law" "law" (defArgs s_law) (defBody s_law) (defScope s_law) .none kV_law dc_law pm_law an_law cd_law ct_law), sl_law⟩)
    (a3_law : PySem.W.codeIn K cd_law "law" = true)
    (a4_law : PySem.W.keepIn K (.ref p_law) = true)
    (z_bool : PySem.W.nsIn K mainGlobals "bool" = some none)
    (z_dict : PySem.W.nsIn K mainGlobals "dict" = some none)
    (z_int : PySem.W.nsIn K mainGlobals "int" = some none)
    (z_isinstance : PySem.W.nsIn K mainGlobals "isinstance" = some none)
    (z_len : PySem.W.nsIn K mainGlobals "len" = some none)
    (z_list : PySem.W.nsIn K mainGlobals "list" = some none)
    (z_range : PySem.W.nsIn K mainGlobals "range" = some none)
    (z_tuple : PySem.W.nsIn K mainGlobals "tuple" = some none)
    (pg_Trail : PySem.W.plainGet K c_Trail Str.empty = true)
    (hd_Trail : PySem.W.hasDictIn K c_Trail = true)
    (po_Trail : PySem.W.plainOver K c_Trail = true)
    (sa_Trail : PySem.W.findIn K (.ref c_Trail) "__setattr__" = some (some (.builtin "object.__setattr__")))
    (pg_Listed : PySem.W.plainGet K c_Listed Str.empty = true)
    (hd_Listed : PySem.W.hasDictIn K c_Listed = true)
    (po_Listed : PySem.W.plainOver K c_Listed = true)
    (sa_Listed : PySem.W.findIn K (.ref c_Listed) "__setattr__" = some (some (.builtin "object.__setattr__")))
    (na_Listed_sizes : PySem.W.findIn K (.ref c_Listed) "sizes" = some none)
    (na_Listed_steps : PySem.W.findIn K (.ref c_Listed) "steps" = some none)
    (na_Listed_shut : PySem.W.findIn K (.ref c_Listed) "shut" = some none)
    (mi_Listed : PySem.W.makesIn K c_Listed = true)
    (kc_Listed : PySem.W.keepIn K (.ref c_Listed) = true)
    (ia_Listed_Trail : PySem.W.findIn K (.ref c_Listed) "__class__" = some (some (.builtin "object.__class__")))
    (in_Listed_Trail : PySem.W.specialIn K (.builtin "object.__class__") "__get__" = some (some (.builtin "getset_descriptor.__get__")))
    (it_Listed_Trail : PySem.W.takesIn K (.builtin "object.__class__") = some true)
    (im_Listed_Trail : PySem.W.mroIn K c_Listed (.type "object") = some true)
    (ik_Listed_Trail : PySem.W.kitOne K (.ref c_Listed) (.ref c_Trail) = some true) :
    ∃ fd : FuncData, (∀ (s : Shared) (v : Value), BindsTo s fd ⟨[v], []⟩ [("_law_script", v)]) ∧ ∀ base : Heap, K.In base → base.Ns mainGlobals mg → FnOk l.prog w K mg base CX0 7 fa fd ["_law_script"] (spLaw K) := by
  have e := hfa.symm.trans (PySem.W.mg_of X G a1_law)
  cases e
  have FListed_init := fun_mk (st := s_Listed_init) a2_Listed_init a3_Listed_init a4_Listed_init
  have FListed_first_node := fun_mk (st := s_Listed_first_node) a2_Listed_first_node a3_Listed_first_node a4_Listed_first_node
  have FListed_last_at := fun_mk (st := s_Listed_last_at) a2_Listed_last_at a3_Listed_last_at a4_Listed_last_at
  have FListed_nodes_at := fun_mk (st := s_Listed_nodes_at) a2_Listed_nodes_at a3_Listed_nodes_at a4_Listed_nodes_at
  have FListed_moves_from := fun_mk (st := s_Listed_moves_from) a2_Listed_moves_from a3_Listed_moves_from a4_Listed_moves_from
  have FListed_is_end := fun_mk (st := s_Listed_is_end) a2_Listed_is_end a3_Listed_is_end a4_Listed_is_end
  have Fcheapest := fun_mk (st := s_cheapest) a2_cheapest a3_cheapest a4_cheapest
  have Fsettle := fun_mk (st := s_settle) a2_settle a3_settle a4_settle
  have Fpriced := fun_mk (st := s_priced) a2_priced a3_priced a4_priced
  have Ffirst_least := fun_mk (st := s_first_least) a2_first_least a3_first_least a4_first_least
  have Fway_of := fun_mk (st := s_way_of) a2_way_of a3_way_of a4_way_of
  have Fwalked := fun_mk (st := s_walked) a2_walked a3_walked a4_walked
  have Fall_nodes := fun_mk (st := s_all_nodes) a2_all_nodes a3_all_nodes a4_all_nodes
  have Fis_price := fun_mk (st := s_is_price) a2_is_price a3_is_price a4_is_price
  have Ffair_at := fun_mk (st := s_fair_at) a2_fair_at a3_fair_at a4_fair_at
  have Ffair := fun_mk (st := s_fair) a2_fair a3_fair a4_fair
  have Flw_cell_at := fun_mk (st := s_lw_cell_at) a2_lw_cell_at a3_lw_cell_at a4_lw_cell_at
  have Flw_mix := fun_mk (st := s_lw_mix) a2_lw_mix a3_lw_mix a4_lw_mix
  have Flw_whole := fun_mk (st := s_lw_whole) a2_lw_whole a3_lw_whole a4_lw_whole
  have Flw_sizes := fun_mk (st := s_lw_sizes) a2_lw_sizes a3_lw_sizes a4_lw_sizes
  have Flw_nodes := fun_mk (st := s_lw_nodes) a2_lw_nodes a3_lw_nodes a4_lw_nodes
  have Flw_moves := fun_mk (st := s_lw_moves) a2_lw_moves a3_lw_moves a4_lw_moves
  have Flw_ends := fun_mk (st := s_lw_ends) a2_lw_ends a3_lw_ends a4_lw_ends
  have Flw_least := fun_mk (st := s_lw_least) a2_lw_least a3_lw_least a4_lw_least
  have Flw_walked := fun_mk (st := s_lw_walked) a2_lw_walked a3_lw_walked a4_lw_walked
  have Flw_alike := fun_mk (st := s_lw_alike) a2_lw_alike a3_lw_alike a4_lw_alike
  have Flw_way := fun_mk (st := s_lw_way) a2_lw_way a3_lw_way a4_lw_way
  have Flaw := fun_mk (st := s_law) a2_law a3_law a4_law
  let T : Tx K mg w := {
    cl := fun i => if i = 0 then c_Trail else if i = 1 then c_Listed else 0,
    a_Listed_init := p_Listed_init,
    d_Listed_init := _,
    f_Listed_init := FListed_init,
    b_Listed_init := FListed_init.binds (ps := ["self", "sizes", "moves", "ends"]) fun _ _ _ _ _ _ us hl => match us, hl with | [_, _, _, _], _ => rfl,
    a_Listed_first_node := p_Listed_first_node,
    d_Listed_first_node := _,
    f_Listed_first_node := FListed_first_node,
    b_Listed_first_node := FListed_first_node.binds (ps := ["self"]) fun _ _ _ _ _ _ us hl => match us, hl with | [_], _ => rfl,
    a_Listed_last_at := p_Listed_last_at,
    d_Listed_last_at := _,
    f_Listed_last_at := FListed_last_at,
    b_Listed_last_at := FListed_last_at.binds (ps := ["self"]) fun _ _ _ _ _ _ us hl => match us, hl with | [_], _ => rfl,
    a_Listed_nodes_at := p_Listed_nodes_at,
    d_Listed_nodes_at := _,
    f_Listed_nodes_at := FListed_nodes_at,
    b_Listed_nodes_at := FListed_nodes_at.binds (ps := ["self", "at"]) fun _ _ _ _ _ _ us hl => match us, hl with | [_, _], _ => rfl,
    a_Listed_moves_from := p_Listed_moves_from,
    d_Listed_moves_from := _,
    f_Listed_moves_from := FListed_moves_from,
    b_Listed_moves_from := FListed_moves_from.binds (ps := ["self", "node"]) fun _ _ _ _ _ _ us hl => match us, hl with | [_, _], _ => rfl,
    a_Listed_is_end := p_Listed_is_end,
    d_Listed_is_end := _,
    f_Listed_is_end := FListed_is_end,
    b_Listed_is_end := FListed_is_end.binds (ps := ["self", "node"]) fun _ _ _ _ _ _ us hl => match us, hl with | [_, _], _ => rfl,
    a_cheapest := p_cheapest,
    d_cheapest := _,
    f_cheapest := Fcheapest,
    b_cheapest := Fcheapest.binds (ps := ["trail", "prices", "node"]) fun _ _ _ _ _ _ us hl => match us, hl with | [_, _, _], _ => rfl,
    g_cheapest := PySem.W.mg_of X G a1_cheapest,
    a_settle := p_settle,
    d_settle := _,
    f_settle := Fsettle,
    b_settle := Fsettle.binds (ps := ["trail", "prices", "here"]) fun _ _ _ _ _ _ us hl => match us, hl with | [_, _, _], _ => rfl,
    g_settle := PySem.W.mg_of X G a1_settle,
    a_priced := p_priced,
    d_priced := _,
    f_priced := Fpriced,
    b_priced := Fpriced.binds (ps := ["trail"]) fun _ _ _ _ _ _ us hl => match us, hl with | [_], _ => rfl,
    g_priced := PySem.W.mg_of X G a1_priced,
    a_first_least := p_first_least,
    d_first_least := _,
    f_first_least := Ffirst_least,
    b_first_least := Ffirst_least.binds (ps := ["trail", "prices", "node"]) fun _ _ _ _ _ _ us hl => match us, hl with | [_, _, _], _ => rfl,
    g_first_least := PySem.W.mg_of X G a1_first_least,
    a_way_of := p_way_of,
    d_way_of := _,
    f_way_of := Fway_of,
    b_way_of := Fway_of.binds (ps := ["trail"]) fun _ _ _ _ _ _ us hl => match us, hl with | [_], _ => rfl,
    g_way_of := PySem.W.mg_of X G a1_way_of,
    a_walked := p_walked,
    d_walked := _,
    f_walked := Fwalked,
    b_walked := Fwalked.binds (ps := ["trail", "names"]) fun _ _ _ _ _ _ us hl => match us, hl with | [_, _], _ => rfl,
    g_walked := PySem.W.mg_of X G a1_walked,
    a_all_nodes := p_all_nodes,
    d_all_nodes := _,
    f_all_nodes := Fall_nodes,
    b_all_nodes := Fall_nodes.binds (ps := ["trail"]) fun _ _ _ _ _ _ us hl => match us, hl with | [_], _ => rfl,
    g_all_nodes := PySem.W.mg_of X G a1_all_nodes,
    a_is_price := p_is_price,
    d_is_price := _,
    f_is_price := Fis_price,
    b_is_price := Fis_price.binds (ps := ["thing"]) fun _ _ _ _ _ _ us hl => match us, hl with | [_], _ => rfl,
    g_is_price := PySem.W.mg_of X G a1_is_price,
    a_fair_at := p_fair_at,
    d_fair_at := _,
    f_fair_at := Ffair_at,
    b_fair_at := Ffair_at.binds (ps := ["trail", "prices", "node"]) fun _ _ _ _ _ _ us hl => match us, hl with | [_, _, _], _ => rfl,
    g_fair_at := PySem.W.mg_of X G a1_fair_at,
    a_fair := p_fair,
    d_fair := _,
    f_fair := Ffair,
    b_fair := Ffair.binds (ps := ["trail", "prices"]) fun _ _ _ _ _ _ us hl => match us, hl with | [_, _], _ => rfl,
    g_fair := PySem.W.mg_of X G a1_fair,
    a_lw_cell_at := p_lw_cell_at,
    d_lw_cell_at := _,
    f_lw_cell_at := Flw_cell_at,
    b_lw_cell_at := Flw_cell_at.binds (ps := ["_law_script", "_law_k"]) fun _ _ _ _ _ _ us hl => match us, hl with | [_, _], _ => rfl,
    g_lw_cell_at := PySem.W.mg_of X G a1_lw_cell_at,
    a_lw_mix := p_lw_mix,
    d_lw_mix := _,
    f_lw_mix := Flw_mix,
    b_lw_mix := Flw_mix.binds (ps := ["_law_cell", "_law_k"]) fun _ _ _ _ _ _ us hl => match us, hl with | [_, _], _ => rfl,
    g_lw_mix := PySem.W.mg_of X G a1_lw_mix,
    a_lw_whole := p_lw_whole,
    d_lw_whole := _,
    f_lw_whole := Flw_whole,
    b_lw_whole := Flw_whole.binds (ps := ["_law_thing"]) fun _ _ _ _ _ _ us hl => match us, hl with | [_], _ => rfl,
    g_lw_whole := PySem.W.mg_of X G a1_lw_whole,
    a_lw_sizes := p_lw_sizes,
    d_lw_sizes := _,
    f_lw_sizes := Flw_sizes,
    b_lw_sizes := Flw_sizes.binds (ps := ["_law_cell"]) fun _ _ _ _ _ _ us hl => match us, hl with | [_], _ => rfl,
    g_lw_sizes := PySem.W.mg_of X G a1_lw_sizes,
    a_lw_nodes := p_lw_nodes,
    d_lw_nodes := _,
    f_lw_nodes := Flw_nodes,
    b_lw_nodes := Flw_nodes.binds (ps := ["_law_sizes_here"]) fun _ _ _ _ _ _ us hl => match us, hl with | [_], _ => rfl,
    g_lw_nodes := PySem.W.mg_of X G a1_lw_nodes,
    a_lw_moves := p_lw_moves,
    d_lw_moves := _,
    f_lw_moves := Flw_moves,
    b_lw_moves := Flw_moves.binds (ps := ["_law_script", "_law_nodes_here"]) fun _ _ _ _ _ _ us hl => match us, hl with | [_, _], _ => rfl,
    g_lw_moves := PySem.W.mg_of X G a1_lw_moves,
    a_lw_ends := p_lw_ends,
    d_lw_ends := _,
    f_lw_ends := Flw_ends,
    b_lw_ends := Flw_ends.binds (ps := ["_law_cell", "_law_nodes_here"]) fun _ _ _ _ _ _ us hl => match us, hl with | [_, _], _ => rfl,
    g_lw_ends := PySem.W.mg_of X G a1_lw_ends,
    a_lw_least := p_lw_least,
    d_lw_least := _,
    f_lw_least := Flw_least,
    b_lw_least := Flw_least.binds (ps := ["_law_nodes_here", "_law_moves_here", "_law_ends_here"]) fun _ _ _ _ _ _ us hl => match us, hl with | [_, _, _], _ => rfl,
    g_lw_least := PySem.W.mg_of X G a1_lw_least,
    a_lw_walked := p_lw_walked,
    d_lw_walked := _,
    f_lw_walked := Flw_walked,
    b_lw_walked := Flw_walked.binds (ps := ["_law_moves_here", "_law_ends_here", "_law_names"]) fun _ _ _ _ _ _ us hl => match us, hl with | [_, _, _], _ => rfl,
    g_lw_walked := PySem.W.mg_of X G a1_lw_walked,
    a_lw_alike := p_lw_alike,
    d_lw_alike := _,
    f_lw_alike := Flw_alike,
    b_lw_alike := Flw_alike.binds (ps := ["_law_found", "_law_due"]) fun _ _ _ _ _ _ us hl => match us, hl with | [_, _], _ => rfl,
    g_lw_alike := PySem.W.mg_of X G a1_lw_alike,
    a_lw_way := p_lw_way,
    d_lw_way := _,
    f_lw_way := Flw_way,
    b_lw_way := Flw_way.binds (ps := ["_law_trail", "_law_moves_here", "_law_ends_here", "_law_due"]) fun _ _ _ _ _ _ us hl => match us, hl with | [_, _, _, _], _ => rfl,
    g_lw_way := PySem.W.mg_of X G a1_lw_way,
    a_law := fa,
    d_law := _,
    f_law := Flaw,
    b_law := Flaw.binds (ps := ["_law_script"]) fun _ _ _ _ _ _ us hl => match us, hl with | [_], _ => rfl,
    g_law := PySem.W.mg_of X G a1_law,
    z_bool := PySem.W.mg_none_of X G z_bool,
    z_dict := PySem.W.mg_none_of X G z_dict,
    z_int := PySem.W.mg_none_of X G z_int,
    z_isinstance := PySem.W.mg_none_of X G z_isinstance,
    z_len := PySem.W.mg_none_of X G z_len,
    z_list := PySem.W.mg_none_of X G z_list,
    z_range := PySem.W.mg_none_of X G z_range,
    z_tuple := PySem.W.mg_none_of X G z_tuple,
    cls_Trail := ⟨pg_Trail, hd_Trail, po_Trail, sa_Trail⟩,
    gc_Trail := PySem.W.mg_of X G gc_Trail,
    cls_Listed := ⟨pg_Listed, hd_Listed, po_Listed, sa_Listed⟩,
    gc_Listed := PySem.W.mg_of X G gc_Listed,
    na_Listed_sizes := na_Listed_sizes,
    na_Listed_steps := na_Listed_steps,
    na_Listed_shut := na_Listed_shut,
    me_Listed_moves_from := ⟨a1_Listed_moves_from, a5_Listed_moves_from, a4_Listed_moves_from⟩,
    me_Listed_last_at := ⟨a1_Listed_last_at, a5_Listed_last_at, a4_Listed_last_at⟩,
    me_Listed_nodes_at := ⟨a1_Listed_nodes_at, a5_Listed_nodes_at, a4_Listed_nodes_at⟩,
    me_Listed_is_end := ⟨a1_Listed_is_end, a5_Listed_is_end, a4_Listed_is_end⟩,
    me_Listed_first_node := ⟨a1_Listed_first_node, a5_Listed_first_node, a4_Listed_first_node⟩,
    mk_Listed := ⟨mi_Listed, a1_Listed_init, a5_Listed_init, kc_Listed⟩,
    is_Listed_Trail := ⟨⟨pg_Listed, hd_Listed, po_Listed, sa_Listed⟩, ia_Listed_Trail, in_Listed_Trail, it_Listed_Trail, im_Listed_Trail, ik_Listed_Trail⟩ }
  exact ⟨PySem.W.fnOf "law" "law" (defArgs s_law) (defBody s_law) (defScope s_law) .none kV_law dc_law pm_law an_law cd_law ct_law, fun s v => .of_eq rfl, fun base _ _ => law_ok (ok_law T) LT⟩
end LW
namespace PySem.W.Fast
def tw8790158279158990395:=0
def tw10969269269287772361:=0
def tw9850424201038554922:=0
def tw18313836134278839967:=0
def tw17736955495086503399:=0
def tw16439459790175148012:=0
def tw13754278376114919275:=0
def tw4107430250036153672:=0
def tw1132072921358750405:=0
def tw14191991334939547838:=0
def tw8440283378327023286:=0
def tw13230825958903292910:=0
def tw5645635977299091407:=0
def tw15985445266028486978:=0
def tw9512505564863694135:=0
def tw7167775410392137873:=0
def tw12036129615540697350:=0
def tw8820270561598684987:=0
def tw10893346586178103503:=0
def tw8820091615535893958:=0
def tw6643334089889469155:=0
def tw771213948899415234:=0
def tw11926763533376314591:=0
def tw15820591042775922173:=0
def tw17257369406939761576:=0
def tw1332988987198328177:=0
def tw10080697121355270281:=0
def tw10853565142058584217:=0
def tw3726041837776327699:=0
def tw4867894043887582727:=0
def tw842504418006075282:=0
def tw12286122140420981239:=0
def tw8217370019416370473:=0
def tw8963669977712774648:=0
def tw6765866608313434502:=0
def tw13992905975637583616:=0
def tw2675530410522329718:=0
def tw15931973996038632721:=0
def tw12301337563607765169:=0
def tw13564078775604150330:=0
def tw1802321347458243615:=0
def tw6169768577161612729:=0
def tw1983400525323570839:=0
def tw12549194368200011876:=0
def tw9810930736477951033:=0
def tw13794677310115772048:=0
def tw14049520194757117332:=0
def tw17846526952548457403:=0
def tw11571165213370390997:=0
def tw16315598073506854067:=0
def tw11993217502505986223:=0
def tw10415993019763172169:=0
def tw8249197480854530596:=0
def tw11426536500528224356:=0
def tw12185688798007687445:=0
def tw179357550816547948:=0
def tw15610140424444092173:=0
def tw15710326861045318709:=0
def tw2548631389534367930:=0
def tw16827292636799613615:=0
def tw13408511602772237962:=0
def tw8992064001816728318:=0
def tw8101813431645761556:=0
def tw15976747181027076347:=0
def tw12543248483515187985:=0
def tw16948170544559791034:=0
def tw7098600067412738939:=0
def tw16191322501086920402:=0
def tw12379433833591321703:=0
def tw9115050038948490368:=0
def tw6684984857052070231:=0
def tw10147738512899809355:=0
def tw3805236055037369281:=0
def tw11033877591859438112:=0
def tw8769959130119430962:=0
def tw2793224269507677027:=0
def tw14829896152554738295:=0
def tw16140070202259700116:=0
def tw16105136327290781409:=0
def tw4790604479207653159:=0
def tw14383423395883985961:=0
def tw5048310325464948142:=0
def tw17053785328098879452:=0
def tw15876794073925397743:=0
def tw9157353045588189073:=0
def tw16118980199294483071:=0
def tw17682659913701983665:=0
def tw1946808309326432796:=0
def tw5918995894771832123:=0
def tw15294831926757595786:=0
def tw11784673200203623565:=0
def tw11976110831416952349:=0
def tw7641625808019133941:=0
def tw9857442847067388900:=0
def tw13050345322005865274:=0
def tw5798051852465351314:=0
def tw6256155437463196137:=0
def tw8170173874332382253:=0
def tw2638970862926823927:=0
def tw8885461265611393029:=0
def tw5181396028118643859:=0
def tw7840869301980705682:=0
def tw9282676549217169366:=0
def tw12318382707243648135:=0
def tw8627500011821283620:=0
def tw9104278006328886621:=0
def tw4920662814729494305:=0
def tw1985461766136927396:=0
def tw16129773210045727753:=0
def tw10931961128587494704:=0
def tw13623540011336924755:=0
def tw6102310251518366010:=0
def tw7720179852328692635:=0
def tw593644293568886754:=0
def tw17383730852063269694:=0
def tw2709271686159439410:=0
def tw7869378283853317890:=0
def tw9144632093701996419:=0
def tw2742538372296016757:=0
def tw11485047771223008832:=0
def tw357532017594971351:=0
def tw11895583292326279863:=0
def tw2316646112818895809:=0
def tw11633775459861142473:=0
def tw774655184329883528:=0
def tw10581126269490760462:=0
def tw1443055728315881167:=0
def tw6520804014416931104:=0
def tw11241446707033361060:=0
def tw4496319509638633573:=0
def tw910349114410430819:=0
def tw14157218460395072156:=0
def tw10994973298916763030:=0
def tw6663191720065722821:=0
def tw17280887713511296920:=0
def tw16108358681084017971:=0
def tw7270648246707083750:=0
def tw13409387012926230061:=0
def tw4607014201166262679:=0
def tw6339054829428910859:=0
def tw182750553102208042:=0
def tw1373594456541371922:=0
def tw1074863693503470330:=0
def tw17001254532233287052:=0
def tw13432534155722404104:=0
def tw626335343108505917:=0
def tw10503896369613582379:=0
def tw17209801632535639681:=0
def tw1185842336407392697:=0
def tw9446329623789233900:=0
def tw12138128901284211403:=0
def tw5800387046492744468:=0
def tw4623477283287774852:=0
def tw4352172289364073658:=0
def tw16224780127595830549:=0
def tw7351965855580594413:=0
def tw4580409685090241564:=0
def tw2874852903168536999:=0
def tw1060742157557110272:=0
def tw7540376539351948054:=0
def tw8423905021190333133:=0
def tw115626875327136121:=0
def tw12425540292769791438:=0
def tw9032868350041923352:=0
def tw11446411917338389940:=0
def tw10237979574679487719:=0
def tw14113044571915791068:=0
def tw12611583588602417271:=0
def tw15942943857573339113:=0
def tw13376124232427920888:=0
def tw3439071995560291175:=0
def tw9412069722924909278:=0
def tw1689531586257186989:=0
def tw1822758816415186677:=0
def tw9971492486698580961:=0
def tw14545769148112418012:=0
def tw346316164070050451:=0
def tw6205514537004407183:=0
def tw6963858551333769705:=0
def tw5406858197071441605:=0
def tw4775205842747492049:=0
def tw3003919080204651233:=0
def tw161786770678692317:=0
def tw37743242371068490:=0
def tw261514600860861766:=0
def tw4612018007550487807:=0
def tw5086888508736097300:=0
def tw8690215624645427261:=0
def tw4747847922160028665:=0
def tw14519458407142872120:=0
def tw16061038235180080383:=0
def tw9731456494258714364:=0
def tw6867750294994830277:=0
def tw16717718673426241747:=0
def tw8289294108952808704:=0
def tw17468997279808637737:=0
def tw11971074750467070973:=0
def tw9359958747501709684:=0
def tw17591879424863580430:=0
def tw750471474774304705:=0
def tw15898629374459645731:=0
def tw8813959486503800923:=0
def tw17257748209217020867:=0
def tw2616514962674361123:=0
def tw10138305927372293480:=0
def tw16780446734183957946:=0
def tw6372743832783863180:=0
def tw9487102105827969035:=0
def tw8105488755259794849:=0
def tw10850930400086659378:=0
def tw14225201264491850944:=0
def tw7336473459636711896:=0
def tw17241242568221448929:=0
def tw1240935049527651426:=0
def tw5152834006455603930:=0
def tw1167411048136050058:=0
def tw6775361991037651885:=0
def tw1310377467746099136:=0
def tw8065946563972718040:=0
def tw4395677166686453306:=0
def tw11809662218299630926:=0
def tw3995798300792850388:=0
def tw15052987538974250467:=0
def tw17229046832311819012:=0
def tw9925608605110410007:=0
def tw3560032961821684119:=0
def tw7409406803887190851:=0
def tw10922192510902461956:=0
def tw16331906187461750594:=0
def tw11237930236897452126:=0
def tw15886604757747623240:=0
def tw9379664199721918748:=0
def tw3990700110180275163:=0
def tw6502342717228897809:=0
def tw5323324673616237617:=0
def tw8888199244509802415:=0
def tw18196344010572847545:=0
def tw8528762803633899253:=0
def tw8991971702683562838:=0
def tw7265479895741459353:=0
def tw3600878141753151080:=0
def tw1858535041097982240:=0
def tw3807836011950312284:=0
def tw1929216650804381721:=0
def tw3894829306214633608:=0
def tw7586050776606272072:=0
def tw15811526636856121356:=0
def tw15863305087186245776:=0
def tw4052852591662690990:=0
def tw16132129060747049592:=0
def tw8663319767152941962:=0
def tw17717473919763017989:=0
def tw13131147533251985079:=0
def tw16808362142597535563:=0
def tw11101123555758616488:=0
def tw9462727789426972676:=0
def tw14526138278130204540:=0
def tw13301050241249472725:=0
def tw6136432504175088814:=0
def tw11798451222967781096:=0
def tw12653110078385252480:=0
def tw16514494237516814961:=0
def tw16537810649814149650:=0
def tw15714579044992554050:=0
def tw15706307696632717313:=0
def tw5240266711175303664:=0
def tw16928957178561194882:=0
def tw10568317929658839489:=0
def tw4798613758857881270:=0
def tw17299957276824167818:=0
def tw15024915257036525533:=0
def tw8229189547656429739:=0
def tw965927029914823689:=0
def tw7132720077739173297:=0
def tw3011930910758748788:=0
def tw3103112427434434054:=0
def tw16090879337104028804:=0
def tw17977301846220556343:=0
def tw13399757771976390887:=0
def tw16613990997239829609:=0
def tw3446077948076638375:=0
def tw2279170006075109606:=0
def tw9903692978333545250:=0
def tw7444221021643892924:=0
def tw12232350066707225647:=0
def tw12577356338793255751:=0
def tw5357564029023245918:=0
def tw5597586546854504257:=0
def tw6080897487542490565:=0
def tw14185659795966862987:=0
def tw3260583635993254903:=0
def tw6416598933846796440:=0
def tw17874041234231033808:=0
def tw5630636905461114149:=0
def tw16038198651489334816:=0
def tw8856916850944591410:=0
def tw17933869348562534663:=0
def tw11073796310150064483:=0
def tw16132972173409779994:=0
def tw4300833812599113778:=0
def tw17278240725088902831:=0
def tw1955809879142528982:=0
def tw15884255042906405105:=0
def tw2800209557777579963:=0
def tw17656444173521418266:=0
def tw2338101055176886388:=0
def tw15953436113256226519:=0
def tw15104983903648981835:=0
def tw7916232383677601452:=0
def tw9603020057751170322:=0
def tw16862909738462358345:=0
def tw2609726255499622185:=0
def tw14676751002154138183:=0
def tw10940793804971952644:=0
def tw15083295594767180737:=0
def tw3402011129178508701:=0
def tw7384961847333523319:=0
def tw15639054425987973377:=0
def tw1338271143366295682:=0
def tw12941961991440929840:=0
def tw2257308930835538448:=0
def tw13996660860199387519:=0
def tw13941915045539647458:=0
def tw5427120263988847566:=0
def tw361309276664567607:=0
def tw7297479380031602169:=0
def tw3581533369766085401:=0
def tw12699344798635848667:=0
def tw5171857538075821065:=0
def tw17577374405746661564:=0
def tw6927524635050111307:=0
def tw14324652135113693462:=0
def tw3212229716255563522:=0
def tw11172259483595629790:=0
def tw6335784817290014788:=0
def tw6764494032193940055:=0
def tw10409400822362688616:=0
def tw13063243327090510960:=0
def tw16107946928105481277:=0
def tw10577580303277721259:=0
def tw6712044721005129363:=0
def tw12849035234972665428:=0
def tw1381132567041956326:=0
def tw5509112947251267551:=0
def tw12989177201027336396:=0
def tw7530204055699875916:=0
def tw10278650274982044155:=0
def tw12849424576153763292:=0
def tw13862168639175775414:=0
def tw270007674167963303:=0
def tw13207660320017342712:=0
def tw13014202264803589771:=0
def tw1911162501572579443:=0
def tw4987794011326363539:=0
def tw4215049102394205535:=0
def tw16804715072507557328:=0
def tw11189048053761094254:=0
def tw14520047421482417658:=0
def tw18337704832953477287:=0
def tw15718556615141865459:=0
def tw11784665344907865023:=0
def tw3019253704760011423:=0
def tw16865076755001074174:=0
def tw8973634263191775258:=0
def tw15247566212488437646:=0
def tw10605670000085991052:=0
def tw13041367799146538690:=0
def tw13186685828667295215:=0
def tw1882415533820396184:=0
def tw2309189913935657805:=0
def tw18218055990372140056:=0
def tw15043723323742850697:=0
def tw6394231715239386542:=0
def tw9080302039711219410:=0
def tw14165939665578295956:=0
def tw16684888646598902487:=0
def tw16651626583455434786:=0
def tw7113139749413557071:=0
def tw11181205804432095308:=0
def tw16697289341434965951:=0
def tw15770755018071600822:=0
def tw4484187466560758559:=0
def tw8437453040025014460:=0
def tw8107495654875252437:=0
def tw7603347195631757146:=0
def tw11255974146295086279:=0
def tw1391004082032698496:=0
def tw16275239343547022718:=0
def tw101297097539411162:=0
def tw219865658290310926:=0
def tw7394547096256425518:=0
def tw959617453530931023:=0
def tw2307166071135183773:=0
def tw1271651292932155136:=0
def tw8656659083880970991:=0
def tw9562019326381974076:=0
def tw12227136135848873029:=0
def tw10208778555103334584:=0
def tw8784840443835072318:=0
def tw7502767732384376662:=0
def tw17106303709827932728:=0
def tw1974551098047251374:=0
def tw10873178846592576087:=0
def tw13789476008394670279:=0
def tw6742711850719480106:=0
def tw5447413542884405701:=0
def tw16451896119317067492:=0
def tw1792827310729951391:=0
def tw807668746109955746:=0
def tw6712316545532483424:=0
def tw17983227559691388535:=0
def tw7299813841006075077:=0
def tw3214726889136507177:=0
def tw11019405278902669073:=0
def tw9585243569449200004:=0
def tw1710127750825932692:=0
def tw11649755268352685595:=0
def tw7578683256505691429:=0
def tw11953413677370747367:=0
def tw18190850050295579853:=0
def tw1279378027281033437:=0
def tw3558717138386498668:=0
def tw9808523130365912793:=0
def tw17254892322559390870:=0
def tw2085500165816376800:=0
def tw1354428506248752401:=0
def tw17857013088510662435:=0
def tw14610154009777831034:=0
def tw13312327378545383888:=0
def tw8053563070614055495:=0
def tw313309296546142857:=0
def tw12752319921093766266:=0
def tw14896737441549955677:=0
def tw7591415812590561742:=0
def tw11486294117038859154:=0
def tw16396537622802416228:=0
def tw13440440421074011401:=0
def tw1578538586100530366:=0
def tw13765903384055023215:=0
def tw737382559934926079:=0
def tw5005408450687411493:=0
def tw18375750864846353743:=0
def tw8620652067315307765:=0
def tw41708330159811365:=0
def tw663837312724075194:=0
def tw12127970530488420327:=0
def tw2494722790266220255:=0
def tw4298664027285857281:=0
def tw2238781249057742976:=0
def tw16973918174544443860:=0
def tw18323513290451282733:=0
def tw15397141740014695604:=0
def tw1838398455486948948:=0
def tw4020151821224077134:=0
def tw10710850026232080020:=0
def tw1405625938785050354:=0
def tw10652653509708302242:=0
def tw11726138372162418811:=0
def tw2114009275193012393:=0
def tw8575624611887586038:=0
def tw15046623257464847888:=0
def tw17076906889817750357:=0
def tw12139390092921863311:=0
def tw694295553248770241:=0
def tw6385436672217605254:=0
def tw14822316923056158573:=0
def tw18432607317914103107:=0
def tw13017475967510173370:=0
def tw10735341677045719978:=0
def tw13842826505265538030:=0
def tw7462272034089483335:=0
def tw5852241773436975494:=0
def tw5830208767980810491:=0
def tw17864662836683030843:=0
def tw8507709595422148537:=0
def tw17258517847009268306:=0
def tw17125569922305774852:=0
def tw7337394510668560244:=0
def tw16058831888853565603:=0
def tw5105843072791375509:=0
def tw5367635985792989067:=0
def tw17989989428750583652:=0
def tw17310051033700844889:=0
def tw9568020533789819120:=0
def tw12534826577185493035:=0
def tw10296547800021990007:=0
def tw16817860303585370869:=0
def tw4504487211846545194:=0
def tw14080288968838169203:=0
def tw5888492624316615429:=0
def tw9719087935824496878:=0
def tw17138848720503325887:=0
def tw3694594920409423947:=0
def tw2889673687969748247:=0
def tw9429312721921975910:=0
def tw12175051215864605486:=0
def tw17742598859389903829:=0
def tw13077676328328930704:=0
def tw7953100596048602230:=0
def tw4036268074545894847:=0
def tw449844022042591993:=0
def tw17271981065532547815:=0
def tw7327535899685405027:=0
def tw1047204499567294394:=0
def tw18319716256704242747:=0
def tw13652553824564116178:=0
def tw1349333724054826948:=0
def tw14349239528369059837:=0
def tw8504132468137990366:=0
def tw5111415735396954543:=0
def tw3656877260928019604:=0
def tw10325776772428602069:=0
def tw6410446158622321730:=0
def tw14975031674474520357:=0
def tw12243262040538086042:=0
def tw12596290991853154610:=0
def tw17869278159802967922:=0
def tw2890495084627836080:=0
def tw505835463507911734:=0
def tw17205156819905345285:=0
def tw5808925777598842350:=0
def tw13238903825466187717:=0
def tw1959842043762456774:=0
def tw18071997286787811240:=0
def tw15146267875571585237:=0
def tw6268008665569546887:=0
def tw1693063674509028253:=0
def tw2034969287465719151:=0
def tw15907467392612120244:=0
def tw16929075813062732471:=0
def tw11694729659572099497:=0
def tw7022859537668017790:=0
def tw6136447521686334760:=0
def tw8118005779792918919:=0
def tw6037646390899004008:=0
def tw4771888766186032573:=0
def tw15547604141142660950:=0
def tw18100660716016098988:=0
def tw8123938759088581733:=0
def tw4397584454607307810:=0
def tw16680752350883117868:=0
def tw18321596914052344647:=0
def tw160500523937792711:=0
def tw11310184984755278737:=0
def tw3561227383388083202:=0
def tw9186381836267648838:=0
def tw16279691548712623526:=0
def tw16015448267322874831:=0
def tw16973673644192180622:=0
def tw16173802911964045142:=0
def tw12663996253652207647:=0
def tw9537526100487349171:=0
def tw75644798676251256:=0
def tw7747900133601804868:=0
def tw4706457072887298893:=0
def tw6412827754275109015:=0
def tw15786238708935328580:=0
def tw12938582085830607555:=0
def tw16446457230807790424:=0
def tw6792814453038677616:=0
def tw10314261952658607518:=0
def tw9732717511424443137:=0
def tw5329481352654725295:=0
def tw214720133742797184:=0
def tw2590055396463600740:=0
def tw12238021360344980725:=0
def tw3928664889949712331:=0
def tw3519007751512740030:=0
def tw462949674846986080:=0
def tw5099445023311723580:=0
def tw741777685730758149:=0
def tw13571053367116194461:=0
def tw2039744288348294028:=0
def tw1109509208907368842:=0
def tw15208012517260222397:=0
def tw7726726962803275451:=0
def tw3155228694938349624:=0
def tw7268359782266025361:=0
def tw9566332393428263768:=0
def tw15878921913257237237:=0
def tw13493817457805769132:=0
def tw12643366915651957956:=0
def tw152557826141876097:=0
def tw14543803558912583216:=0
def tw9373199664311895383:=0
def tw8689943216741264284:=0
def tw8210698530368057312:=0
def tw1137140129566793249:=0
def tw13790041288138118607:=0
def tw2585881648101151871:=0
def tw2464172750911324777:=0
def tw8368561195282672460:=0
def tw11629904343411494544:=0
def tw3394069441432410419:=0
def tw5215971709643509407:=0
def tw15239356260926611517:=0
def tw4239460212969874110:=0
def tw10472593042144338234:=0
def tw4315762666999653986:=0
def tw2486379700133637816:=0
def tw3999182063761856193:=0
def tw4004961272911834233:=0
def tw3006693329533069039:=0
def tw12498254823317015865:=0
def tw5079914823677075797:=0
def tw16113340410370925219:=0
def tw16993148022947127658:=0
def tw1620516551971253581:=0
def tw4372380473546622807:=0
def tw4954320181256281972:=0
def tw4071504298282066815:=0
def tw15532800008671527434:=0
def tw15389983983172583096:=0
def tw17760753726115866758:=0
def tw5500919942409859906:=0
def tw18391482305755121323:=0
def tw1984513365425023194:=0
def tw17648732437739016924:=0
def tw221584813312052465:=0
def tw1861423211262621544:=0
def tw2380120674467109756:=0
def tw13730699188191014723:=0
def tw6787400611906598437:=0
def tw12173681358132738286:=0
def tw16105224965649117166:=0
def tw459264374432408504:=0
def tw13831568908027403769:=0
def tw10905092511217206664:=0
def tw13146077539136080412:=0
def tw18352096530330515309:=0
def tw17111295021945973943:=0
def tw9038200901213772272:=0
def tw67569122639047688:=0
def tw18369879522165943882:=0
def tw13322737587862238282:=0
def tw6219650367524515384:=0
def tw13632525178157404026:=0
def tw2678931496212702579:=0
def tw9598561256651144388:=0
def tw9903510258159624559:=0
def tw3660985303633863803:=0
def tw16109795988954042447:=0
def tw9247146163609320852:=0
def tw16844317212774444747:=0
def tw13545388355664024784:=0
def tw2728859506444410147:=0
def tw10534169029424418693:=0
def tw2762689754568107300:=0
def tw15188999723716148654:=0
def tw15164017393235166229:=0
def tw15874109179530493064:=0
def tw2453243070179823476:=0
def tw10453430755640501208:=0
def tw8639122769852885051:=0
def tw11252113054464958817:=0
def tw11817422099076028852:=0
def tw6607167628015596733:=0
def tw15166056363211668615:=0
def tw3646354324930424745:=0
def tw18184896756904288408:=0
def tw10420273727337108192:=0
def tw13446088862796677062:=0
def tw4922656551050891765:=0
def tw9744187408600929668:=0
def tw3652805075073509619:=0
def tw7260343501176397624:=0
def tw17016255918774559571:=0
def tw11321476747800649548:=0
def tw1883235655546143725:=0
def tw22550891367042883:=0
def tw220970316662522046:=0
def tw6182871586884441147:=0
def tw13800426804998082638:=0
def tw623950088450898098:=0
def tw17952700705167790566:=0
def tw5990008041642382151:=0
def tw5502787023915441968:=0
def tw7903564104661986130:=0
def tw3502284458916793123:=0
def tw2991565575507728630:=0
def tw17709986819792402912:=0
def tw16001401012704682515:=0
def tw5079658718002654553:=0
def tw1480511765139063598:=0
def tw1372857905150416459:=0
def tw2729526443403843501:=0
def tw15016702052077485516:=0
def tw11515412846271439120:=0
def tw16214842534950400497:=0
def tw17905970114804642368:=0
def tw17931053688462493586:=0
def tw11460265572533914367:=0
def tw71332192748468124:=0
def tw12099738313539106081:=0
def tw14878435008785264223:=0
def tw15887565385144069596:=0
def tw8562426540879674902:=0
def tw16803304497673667238:=0
def tw12808072318642301480:=0
def tw8663386990330817427:=0
def tw243825207236484039:=0
def tw1814918230049266794:=0
def tw16574955603965509571:=0
def tw2878748670622510307:=0
def tw6122735013321055919:=0
def tw4642207982829656309:=0
def tw14634928879806943279:=0
def tw17897634798048693685:=0
def tw3384157626462658591:=0
def tw10478808979508239226:=0
def tw15734122073568562047:=0
def tw1895002657894954084:=0
def tw4736783238900584599:=0
def tw13357580366595437926:=0
def tw14624773001276719217:=0
def tw3759839002573199472:=0
def tw17057444726595561559:=0
def tw274689098371424799:=0
def tw12498776097375401298:=0
def tw269954438887742649:=0
def tw125238950938559640:=0
def tw7551263968429715904:=0
def tw521886502951863567:=0
def tw2647214280525906734:=0
def tw12908015136679697872:=0
def tw9066870906926118945:=0
def tw14902340962696843891:=0
def tw8168641893160700671:=0
def tw4172916089175609989:=0
def tw9293818991535552462:=0
def tw16876619984755885801:=0
def tw333933528451429331:=0
def tw2899095425544917852:=0
def tw8454789880879481809:=0
def tw1173473035358840451:=0
def tw2311548367548997078:=0
def tw16891137835298862832:=0
def tw2622171358686068958:=0
def tw1663378445714917011:=0
def tw14998273655342093448:=0
def tw14180650137615698500:=0
def tw5505304053381546044:=0
def tw8687037655974937384:=0
def tw18205500711084311733:=0
def tw17070206934361412121:=0
def tw8770180058717153221:=0
def tw7869007990533663589:=0
def tw15246364244464230410:=0
def tw15143728905483282051:=0
def tw2338658056293964884:=0
def tw10654319726838155456:=0
def tw15150143587120852244:=0
def tw16251215833667090158:=0
def tw17186542190100511980:=0
def tw1137951158372380197:=0
def tw669328162075594029:=0
def tw9936625174080644106:=0
def tw11494034270984678927:=0
def tw9455798858058921201:=0
def tw9310770457429619108:=0
def tw2575264206721062501:=0
def tw5541845590170561010:=0
def tw10793811612017404143:=0
def tw10897498026633287227:=0
def tw12208064480853784121:=0
def tw2361556466139628609:=0
def tw6294819571714446453:=0
def tw16857682187201419203:=0
def tw10592676171426017479:=0
def tw17372705887442501333:=0
def tw16968573651017230198:=0
def tw12122102769159468678:=0
def tw6944452994577589404:=0
def tw11402694257350009802:=0
def tw1438149670230993067:=0
def tw17343953819588459240:=0
def tw10782558953057813361:=0
def tw3285014837674585300:=0
def tw11785222187965465123:=0
def tw630291317625885603:=0
def tw14852611524123480519:=0
def tw9513760511060562126:=0
def tw16003050210612291863:=0
def tw762389960498839124:=0
def tw14250860071670517128:=0
def tw10200856212503157642:=0
def tw4504101627397404507:=0
def tw5173556805866948379:=0
def tw1201274488860080369:=0
def tw3578573461426562026:=0
def tw14746754439243306320:=0
def tw1536216043518859172:=0
def tw2083171437136894326:=0
def tw5963634887549049547:=0
def tw1529230538976515435:=0
def tw4990659455015315921:=0
def tw100428386208201442:=0
def tw13382789056696588171:=0
def tw14610177775742168949:=0
def tw521931313465300439:=0
def tw13521130377282441222:=0
def tw3035985496106368201:=0
def tw10693833719478323295:=0
def tw17444885328563811569:=0
def tw10141544119778844487:=0
def tw8566310496781356320:=0
def tw15169184492065855106:=0
def tw7525772768681922784:=0
def tw13770182815785530795:=0
def tw17369389944699881357:=0
def tw12453964731734681424:=0
def tw6817473581036841474:=0
def tw1689587173931469143:=0
def tw5110875006977081647:=0
def tw7573011136709515710:=0
def tw9401321668373247120:=0
def tw13448325236541057767:=0
def tw6557049456188596439:=0
def tw7489731052044214264:=0
def tw11863625530904584554:=0
def tw18063846214305950728:=0
def tw13098558094393892080:=0
def tw6220733798103592546:=0
def tw15498799806695623123:=0
def tw480379586292725479:=0
def tw11525675411779276688:=0
def tw11888589496780833347:=0
def tw2479611113843789483:=0
def tw4755087009187447116:=0
def tw1635631136662254778:=0
def tw8451937426320740202:=0
def tw619866887385744762:=0
def tw11710183241437520328:=0
def tw17173809803212827695:=0
def tw14709858257250268122:=0
def tw13500666908127151644:=0
def tw5486347632571218152:=0
def tw18210478079111495435:=0
def tw12603705734702639850:=0
def tw5427612586576960596:=0
def tw14922324525449803193:=0
def tw5753145758733232171:=0
def tw8688053222218316578:=0
def tw12505773056313359779:=0
def tw7956106905687969048:=0
def tw5757119403342209747:=0
def tw971598242956950440:=0
def tw11898862708224941279:=0
def tw2169506617156295618:=0
def tw1687643353359156441:=0
def tw5130819630322217723:=0
def tw18034819370899177219:=0
def tw10804548758549948046:=0
def tw3360722757577330954:=0
def tw17151487738634824092:=0
def tw11975952631562529136:=0
def tw10133952912966337472:=0
def tw17317593991816982569:=0
def tw7294162601658224207:=0
def tw2294234407825288162:=0
def tw8287482852092784008:=0
def tw6551921079687222552:=0
def tw9430408663907998119:=0
def tw238529826701131738:=0
def tw698221192372805040:=0
def tw8035991175588686092:=0
def tw13103756845207418992:=0
def tw17552481127615019926:=0
def tw10407726518221072433:=0
def tw5069202035584312478:=0
def tw17933198252796734996:=0
def tw8894880547407831237:=0
def tw2030385053160423366:=0
def tw15021870762995535880:=0
def tw6743507927379183250:=0
def tw10286794729396409656:=0
def tw7263130652691782358:=0
def tw1608692843807163481:=0
def tw14648028439241700214:=0
def tw11958502633230897785:=0
def tw5002915259325386596:=0
def tw17920680810192659913:=0
def tw9596321442987812550:=0
def tw779396009919478965:=0
def tw4984355374418037007:=0
def tw671131273971219161:=0
def tw17026921852449714833:=0
def tw6390536142352595545:=0
def tw4833158385573550938:=0
def tw11126112742123338360:=0
def tw2105389257430241954:=0
def tw3351238002597616515:=0
def tw9290513804986428656:=0
def tw10759111754740044389:=0
def tw8374893290391117517:=0
def tw13132738051438489539:=0
def tw1878516601522689788:=0
def tw5250614126736028679:=0
def tw15619450573281075812:=0
def tw12898134657135865295:=0
def tw9067405539047670893:=0
def tw3392164997454588824:=0
def tw15291486979584732872:=0
def tw18209628172536458011:=0
def tw12237557103346998926:=0
def tw14565652297133481600:=0
def tw15310293848546514812:=0
def tw4627967884446688279:=0
def tw10475543335633619316:=0
def tw3269729083031358485:=0
def tw3375898191012749522:=0
def tw11275656576358230897:=0
def tw12595017015256056966:=0
def tw18260419597567579281:=0
def tw7124448744643212937:=0
def tw12171694798153276825:=0
def tw6627860660609532658:=0
def tw11861870997266250232:=0
def tw10200115784378860886:=0
def tw7065929662781224813:=0
def tw1655699087849037923:=0
def tw3174611517660675686:=0
def tw14250568338365969675:=0
def tw847615718249053194:=0
def tw11369406702773490305:=0
def tw4146897152649617493:=0
def tw2251685881027863032:=0
def tw17304769739027210180:=0
def tw9492311266258269243:=0
def tw5102204393254159950:=0
def tw14349172599191584188:=0
def tw2342750472278990909:=0
def tw9706275013938797971:=0
def tw16174121971206319118:=0
def tw16052282733589015347:=0
def tw14005521659818294926:=0
def tw5562549685424971605:=0
def tw14675177330714672350:=0
def tw18106318747802838685:=0
def tw5854438636011034822:=0
def tw3567006370367561440:=0
def tw15180374854203646249:=0
def tw7701840022312774544:=0
def tw14856779900348553507:=0
def tw1446374535906780404:=0
def tw12626783831630050911:=0
def tw6228629844405789554:=0
def tw3601953462963010667:=0
def tw16114734964952761897:=0
def tw17856306463723578806:=0
def tw15008736486947858746:=0
def tw703739120881207417:=0
def tw2062740387872377198:=0
def tw13198303499386428300:=0
def tw12085878797862336902:=0
def tw16788608838126576513:=0
def tw17792439839164082421:=0
def tw5244279912449261862:=0
def tw11650520869082703597:=0
def tw8435877537199151619:=0
def tw5156443359992222177:=0
def tw16707256083288963970:=0
def tw16020453570516861404:=0
def tw9802850432813413020:=0
def tw5351002605306407714:=0
def tw11019430249633876757:=0
def tw12787399790329080364:=0
def tw5139933780571612832:=0
def tw401334382810220015:=0
def tw13341591815749133245:=0
def tw6077802497081161215:=0
def tw5753258444304073565:=0
def tw6213790533817127190:=0
def tw16364480869203049893:=0
def tw522473663019850858:=0
def tw4784548783431828573:=0
def tw12465003589790153993:=0
def tw3043684788804037080:=0
def tw330812054636516129:=0
def tw6119146013621901394:=0
def tw483763352989736146:=0
def tw17869212999138652041:=0
def tw7750902509681092942:=0
def tw18229958110382583899:=0
def tw11801907257577001313:=0
def tw11133592344996824065:=0
def tw1002295730496864202:=0
def tw6796634125244259704:=0
def tw9693793064185259481:=0
def tw6487407364731217253:=0
def tw10727287791647154364:=0
def tw4025505781828123524:=0
def tw15281982618999624491:=0
def tw14261234081888059091:=0
def tw13165172454449915060:=0
def tw999079335031442801:=0
def tw2919063923788718010:=0
def tw8058321720580063607:=0
def tw7370476067321552736:=0
def tw7036686991998040676:=0
def tw9165675342112009428:=0
def tw4468102777004096594:=0
def tw14882182672049509634:=0
def tw14160955369263558977:=0
def tw4651997060670330854:=0
def tw6111425656561140390:=0
def tw5578219801105448082:=0
def tw17829646123891579883:=0
def tw8017818037150162959:=0
def tw16779779110282362117:=0
def tw11939621154559956728:=0
def tw18000621363143360682:=0
def tw2885531184335547192:=0
def tw12683530911656674172:=0
def tw14597895125026986021:=0
def tw14509050667264791130:=0
def tw6738594199703007835:=0
def tw11392934594822379183:=0
def tw4959374100460541854:=0
def tw2497539319190982126:=0
def tw5090933376198764092:=0
def tw6597568499952268655:=0
def tw11143436142497639307:=0
def tw14383622245762623716:=0
def tw51141636134429343:=0
def tw10087887740334882290:=0
def tw16918105124320297429:=0
def tw169395353905335099:=0
def tw15139454865739266093:=0
def tw5014896173019039926:=0
def tw5382236987858216094:=0
def tw13101164808210268379:=0
def tw5949402681148070000:=0
def tw9928970345289474943:=0
def tw13738408774655616908:=0
def tw15367957714537679505:=0
def tw9584550801203869813:=0
def tw10767091067634905516:=0
def tw18092206180568322103:=0
def tw7539877285471141318:=0
def tw4195855365860566607:=0
def tw17077619179055500108:=0
def tw14871004468888913324:=0
def tw15105646645248682966:=0
def tw12121555645851775968:=0
def tw14229593101031575726:=0
def tw12628080488273217583:=0
def tw9851229351943802721:=0
def tw6751437666474322364:=0
def tw13433466719968102280:=0
def tw8671845708532273468:=0
def tw13611116943967626938:=0
def tw16003122747796537476:=0
def tw14231506735938977948:=0
def tw3637898510653252240:=0
def tw1553008687556782290:=0
def tw12554195349629434978:=0
def tw2257383648159842232:=0
def tw14564544982755761936:=0
def tw2555334294417801246:=0
def tw9843450070666947291:=0
def tw9074650918788560814:=0
def tw12530394390007122801:=0
def tw12733331480933166927:=0
def tw135526654574310678:=0
def tw3909852079300823735:=0
def tw14662951885302462851:=0
def tw6474918559373097053:=0
def tw3364010324974535217:=0
def tw9614003855936451185:=0
def tw151161006609769766:=0
def tw9731454864976981630:=0
def tw6224008990375846158:=0
def tw17113184121675323425:=0
def tw5196917745893646984:=0
def tw9242657075658287871:=0
def tw12307073775826897041:=0
def tw4455743456232544865:=0
def tw12044037883520947592:=0
def tw18308876910028954568:=0
def tw12610564230701449333:=0
def tw8680267221827092511:=0
def tw963545816879211601:=0
def tw10804696523532813981:=0
def tw4946641334448474372:=0
def tw16846824702127542280:=0
def tw1585938440064647260:=0
def tw17979748171852138879:=0
def tw1365407352703140961:=0
def tw9971647484360108007:=0
def tw11355790421722303946:=0
def tw16289115978038483885:=0
def tw359899096803827509:=0
def tw7595671378111667769:=0
def tw7499604040513326254:=0
def tw5832323562276175049:=0
def tw3491562664983068422:=0
def tw1404223808026495491:=0
def tw11870681880999394243:=0
def tw13085245063388535396:=0
def tw12860423705050051587:=0
def tw15267874037515615551:=0
def tw10941105183748620593:=0
def tw764095827457211761:=0
def tw5296529318148004070:=0
def tw2216897274467697558:=0
def tw1291863618355169518:=0
def tw1543818910577413102:=0
def tw3600458036414432065:=0
def tw11568162111741731683:=0
def tw14111128033610330937:=0
def tw1283069998113906139:=0
def tw11274487516612185134:=0
def tw1887380961861399366:=0
def tw14140878481496659169:=0
def tw17695558636719337921:=0
def tw9705236202887063163:=0
def tw5773257091678019302:=0
def tw5602883760426825828:=0
def tw12413433404705972744:=0
def tw15430570882143559250:=0
def tw6612889263881521140:=0
def tw13408841578661328221:=0
def tw6072409932655216137:=0
def tw8835208598015390923:=0
def tw14515499214637233024:=0
def tw14382024852028359341:=0
def tw2553836731296362604:=0
def tw6222679289343484890:=0
def tw14288403899743145510:=0
def tw8584624273823991215:=0
def tw16781571014239804574:=0
def tw8186507248167907038:=0
def tw6998033447285000853:=0
def tw10717292400350145734:=0
def tw3768848858597288719:=0
def tw3844811960691850332:=0
def tw16643995123750092871:=0
def tw2737386966830790124:=0
def tw7621525392202198671:=0
def tw16395521898959856800:=0
def tw11725017752395077143:=0
def tw746331256756956069:=0
def tw11889060654303185176:=0
def tw16684032179559597955:=0
def tw13397297560406317196:=0
def tw18253837330618249837:=0
def tw10967708045891318002:=0
def tw4559466654007882466:=0
def tw4194475222165836037:=0
def tw1005267968044095582:=0
def tw3404774860884920296:=0
def tw13269987431506608386:=0
def tw13705674992460380582:=0
def tw9887052729952444382:=0
def tw16197649285337444406:=0
def tw5886945780290477796:=0
def tw16875513753753000069:=0
def tw8598903242675657802:=0
def tw8292808902193047810:=0
def tw9558518616899503743:=0
def tw15831578713261983025:=0
def tw10933737916617037342:=0
def tw1899601452104454614:=0
def tw7586005968203150123:=0
def tw11123995459159532851:=0
def tw2448164695025009809:=0
def tw13323956974140931014:=0
def tw7483802766606481208:=0
def tw3734348631616285701:=0
def tw13514379110907898590:=0
def tw15171924498877843746:=0
def tw6968132140561861047:=0
def tw13395843674242391271:=0
def tw4186204697253445747:=0
def tw15582884223842596237:=0
def tw18439492844775799243:=0
def tw13597382985607283806:=0
def tw17502943392267868665:=0
def tw14408165449050507382:=0
def tw12895590217223140063:=0
def tw212456236650532483:=0
def tw3080854618097967418:=0
def tw5779719622990653211:=0
def tw16173222590294800486:=0
def tw3001336896293674212:=0
def tw14878229815517040804:=0
def tw17763905648553261119:=0
def tw1570507160384643394:=0
def tw1813706585803921861:=0
def tw1310162238431209053:=0
def tw11919367088861371921:=0
def tw11457427076165044619:=0
def tw7695219653106785013:=0
def tw1416855759600215118:=0
def tw8574196270651503079:=0
def tw11044487351483186408:=0
def tw3518868451978132181:=0
def tw11082713593402988312:=0
def tw13982488966019961042:=0
def tw17984270845551358232:=0
def tw7814080768585961857:=0
def tw9561619167598088945:=0
def tw6377082056020238966:=0
def tw6825872383475752121:=0
def tw17894290326423942447:=0
def tw12009971201140574694:=0
def tw17529263988993194167:=0
def tw11425559977267427803:=0
def tw6731015887517111297:=0
def tw8273083200509933339:=0
def tw6883561178420964260:=0
def tw16731867516523259094:=0
def tw2112477180525814095:=0
def tw759701246155623722:=0
def tw1230292633702422661:=0
def tw6344805979606014956:=0
def tw9173824366002153244:=0
def tw17809952672905042406:=0
def tw4079736999479503962:=0
def tw4899927890290088958:=0
def tw2558230008553351985:=0
def tw5504576278210755759:=0
def tw10924664934989525470:=0
def tw2397226001155393568:=0
def tw11701140656357983742:=0
def tw6611001062323369343:=0
def tw13016591353289122790:=0
def tw6974993890445727770:=0
def tw11942944038484775460:=0
def tw12914826427273921140:=0
def tw12242815112380689885:=0
def tw15237828340477388143:=0
def tw12198236341089817382:=0
def tw2267733791968737968:=0
def tw11475344903208663253:=0
def tw14741331072420366765:=0
def tw3139612794805994581:=0
def tw12389167067628998307:=0
def tw5553204895461557372:=0
def tw11967467262282095529:=0
def tw11178525529610051203:=0
def tw6581142257454638112:=0
def tw2310819926569986274:=0
def tw13882712654272564539:=0
def tw10192674805272744004:=0
def tw3279422093181243851:=0
def tw17914943510132881229:=0
def tw3863119154981970798:=0
def tw2800078583372306763:=0
def tw5882187658208257511:=0
def tw8788301770556991866:=0
def tw1657518831695860449:=0
def tw15327626819303793517:=0
def tw3944069971373885816:=0
def tw6289424186658686152:=0
def tw16834834864790407623:=0
def tw6668308976044123869:=0
def tw15605436947498975984:=0
def tw4663306356658773395:=0
def tw15549036198627546129:=0
def tw11397430001180922169:=0
def tw2027445841987481118:=0
def tw5153860339427492981:=0
def tw6102050683312879895:=0
def tw8316922186507657449:=0
def tw12614840413984393304:=0
def tw12208583617810817511:=0
def tw12949060915479355048:=0
def tw3117685919901544940:=0
def tw3988613466691001776:=0
def tw12980125244795242243:=0
def tw8132772562106539584:=0
def tw1551483038376484777:=0
def tw16292240673465890817:=0
def tw14109811655014736282:=0
def tw223186336940060391:=0
def tw11105440424091799139:=0
def tw6580308828953827631:=0
def tw17908657032543813801:=0
def tw18029728819227953565:=0
def tw7181986323090395464:=0
def tw16433797613860602306:=0
def tw473213248458333697:=0
def tw16991115326321208902:=0
def tw10453001255818403159:=0
def tw16605047320945165792:=0
def tw6923521062237374571:=0
def tw13880401376470344241:=0
def tw794016462703612301:=0
def tw4961456206763409448:=0
def tw11469398267144184338:=0
def tw1449315604613677131:=0
def tw7682725595183879666:=0
def tw2232264572394564579:=0
def tw18054911314217468299:=0
def tw980434805827659833:=0
def tw6247154761813865371:=0
def tw5733677566288944536:=0
def tw4132311323638218083:=0
def tw2604437332364242329:=0
def tw12233941514320035186:=0
def tw5785623338777853384:=0
def tw16033898674678136470:=0
def tw15693389897173860644:=0
def tw18039847135277020251:=0
def tw10454481715502564347:=0
def tw10704202731295716744:=0
def tw17759366281615326331:=0
def tw6894826875441890037:=0
def tw3068805218106747182:=0
def tw1665682127728729124:=0
def tw7878845828088193446:=0
def tw15106932315259599920:=0
def tw10954699773290725508:=0
def tw5351953624040099284:=0
def tw7628276602934375377:=0
def tw3000647410369942637:=0
def tw7715620542646279930:=0
def tw16560200622597353584:=0
def tw3205344915213174884:=0
def tw5944906594869284228:=0
def tw10572226915930191331:=0
def tw16038667921854220896:=0
def tw9728071465333355142:=0
def tw15840837553750948512:=0
def tw8802692336293912210:=0
def tw1204947012179919945:=0
def tw10207586446524045411:=0
def tw1017466688828086474:=0
def tw4424661839909114578:=0
def tw6645725908505961936:=0
def tw13843025634204353552:=0
def tw575175202106879082:=0
def tw4910508058038346207:=0
def tw4941307487052533515:=0
def tw7036690753724107327:=0
def tw13295695282399132818:=0
def tw10402272248956941976:=0
def tw1779068931615952868:=0
def tw2445603329353017786:=0
def tw1594454928884738492:=0
def tw6076824240790683139:=0
def tw5274231325855565989:=0
def tw5698613678417900622:=0
def tw17187830408951622925:=0
def tw13662358519921076779:=0
def tw2775812226192176368:=0
def tw9043733192184070618:=0
def tw9042223965270050298:=0
def tw659278873865749727:=0
def tw16787280419675659042:=0
def tw3289630413341746453:=0
def tw13163435331134581142:=0
def tw8617878415644232227:=0
def tw806993701489626129:=0
def tw8251412999243929473:=0
def tw7196849467844943562:=0
def tw8358077799883860608:=0
def tw13189353494402494782:=0
def tw3534705461340870185:=0
def tw9995091721932726863:=0
def tw3397662289529202965:=0
def tw15273191914823362714:=0
def tw14493884984569529296:=0
def tw8797110401832204040:=0
def tw3747946786159433276:=0
def tw13413883273676713209:=0
def tw3609570200920599484:=0
def tw2617625884094195855:=0
def tw11632330900969289689:=0
def tw6595267105320135143:=0
def tw16990567057268466276:=0
def tw17514423234328887622:=0
def tw4101252432586769713:=0
def tw14133844595220144062:=0
def tw2769325132604399987:=0
def tw3237957885529489810:=0
def tw14038564655237688095:=0
def tw5877864917654881090:=0
def tw15572050410400532311:=0
def tw7584736936245272495:=0
def tw17366993558264424362:=0
def tw1920273913878455103:=0
def tw1445265334625295280:=0
def tw15523419667606609738:=0
def tw9718947715433799590:=0
def tw12055744616258286874:=0
def tw18010329381139777189:=0
def tw8594996780091622129:=0
def tw927693763518397440:=0
def tw2384307948751716761:=0
def tw12321897234116057148:=0
def tw75764890095407134:=0
def tw7371146412305200471:=0
def tw2677590005233863510:=0
def tw9607342511048227808:=0
def tw924880287185563991:=0
def tw12373646293865450281:=0
def tw5678376419027809254:=0
def tw15968317806915308871:=0
def tw4012801271373026271:=0
def tw9351976820676364536:=0
def tw13842058330047322097:=0
def tw11948255057020547367:=0
def tw1056420807481286917:=0
def tw796181135089610986:=0
def tw16269351570502170686:=0
def tw580374677219709513:=0
def tw15897032044428996187:=0
def tw3129773623238286670:=0
def tw6168520863163703280:=0
def tw8567326390238741325:=0
def tw5198312282931571476:=0
def tw6201517172786675878:=0
def tw14760991809181425814:=0
def tw7534294904741903120:=0
def tw12511409924290605806:=0
def tw396032226215754494:=0
def tw8299816280475771030:=0
def tw3796572116512577582:=0
def tw7089484383777114370:=0
def tw3735913470642132214:=0
def tw9474993975875257515:=0
def tw15389102222595607308:=0
def tw14903934417943029137:=0
def tw8416698821862288872:=0
def tw5058941903618628119:=0
def tw15248561705995600269:=0
def tw13376736147321789632:=0
def tw16643896128200161724:=0
def tw14918084002591082101:=0
def tw8823083630538982691:=0
def tw15206104976738370971:=0
def tw8632775415422774236:=0
def tw10819767611365904836:=0
def tw11150567980408819428:=0
def tw5158377831653869056:=0
def tw10832913147888928272:=0
def tw8606928089785646263:=0
def tw9291219305468599716:=0
def tw1972369439493506214:=0
def tw15526053176467159522:=0
def tw488577325488785914:=0
def tw14223683992690129394:=0
def tw10104634840513603668:=0
def tw14785623957715255069:=0
def tw15876485606728303394:=0
def tw444084860415171565:=0
def tw876191774128225396:=0
def tw3331583738133057838:=0
def tw3383819299247155125:=0
def tw17099677305453106462:=0
def tw9826053319827494071:=0
def tw16605910256512615997:=0
def tw8800508828078170249:=0
def tw5063116276466356773:=0
def tw17492189111237110610:=0
def tw10156309051871485787:=0
def tw4409214926191351054:=0
def tw17876778428204705772:=0
def tw18417181894299290991:=0
def tw12854809882242186019:=0
def tw13465369180990798449:=0
def tw2142261314801041421:=0
def tw1160262500290056189:=0
def tw18030058581176517005:=0
def tw2701827728250209804:=0
def tw15594516258749063651:=0
def tw2726602408034236220:=0
def tw14843310488387300054:=0
def tw12467109540238533377:=0
def tw5293276464712640154:=0
def tw2707038854406938021:=0
def tw5404474628316254869:=0
def tw3654640185062348858:=0
def tw18036922136194143091:=0
def tw14865168275963107151:=0
def tw7561809441575429286:=0
def tw1504146564632547848:=0
def tw9544512595964922889:=0
def tw12384125756597098162:=0
def tw12595583421335794268:=0
def tw15907762645096807522:=0
def tw3582375969771532311:=0
def tw10898566198860761592:=0
def tw12413002570725233279:=0
def tw10757916203514034686:=0
def tw15139518530725390842:=0
def tw17151632801177278205:=0
def tw9868434258247816922:=0
def tw4405196514098650219:=0
def tw12669621836971981132:=0
def tw18433834265491502506:=0
def tw1822992013981724316:=0
def tw662261160565149475:=0
def tw6107368032640624296:=0
def tw2810522511411933176:=0
def tw3917823171521933122:=0
def tw13077499239694979091:=0
def tw5399640754183057415:=0
def tw1023784162562447314:=0
def tw9249820429036110541:=0
def tw9839527660290835982:=0
def tw173476883045000841:=0
def tw14630238657528323901:=0
def tw993920301359664468:=0
def tw11298662833276974416:=0
def tw6862001520475477196:=0
def tw8889857668216148637:=0
def tw5693207260826707094:=0
def tw4145880512995639564:=0
def tw4514728983239578745:=0
def tw14208223981670309073:=0
def tw12867294441806713214:=0
def tw15240689909971374464:=0
def tw16736771726067040844:=0
def tw5735556799072686001:=0
def tw8142986236315526423:=0
def tw17572062455099460135:=0
def tw2391142685503983273:=0
def tw11607904181323868976:=0
def tw5623228501178752528:=0
def tw2398881233104316627:=0
def tw215856438915351261:=0
def tw743731407155673580:=0
def tw1276611399806154076:=0
def tw5753974422440239094:=0
def tw16446217483137922102:=0
def tw15371675035452860327:=0
def tw18197929348688338334:=0
def tw598247302611410871:=0
def tw17726879226644008634:=0
def tw13542933928455673315:=0
def tw13118341551180688914:=0
def tw7190737639639137380:=0
def tw9009033893968516739:=0
def tw7596145259024357906:=0
def tw9888513012573634378:=0
def tw6674306467507654069:=0
def tw1693325230824042409:=0
def tw6514202135097813561:=0
def tw5613324458593474097:=0
def tw3291302460314864476:=0
def tw8088248998489353407:=0
def tw793208658930705785:=0
def tw12167984534049203605:=0
def tw11855607858563627965:=0
def tw18396550724116404068:=0
def tw14484726779076783103:=0
def tw9176388351560470614:=0
def tw9416321822110794883:=0
def tw8611737831531768956:=0
def tw16937838705971649640:=0
def tw3129603558988947619:=0
def tw1645037861469966049:=0
def tw9063428264399252524:=0
def tw14517699656843709666:=0
def tw15912328983486931039:=0
def tw2570971780893361303:=0
def tw18326482513621324689:=0
def tw12625930165942198523:=0
def tw5776280254721077638:=0
def tw1105795154411452905:=0
def tw15285732160763591437:=0
def tw10165101419320352938:=0
def tw503968464455901376:=0
def tw9038489094587906581:=0
def tw17206128319051939948:=0
def tw3890113726264318503:=0
def tw10159127567030760145:=0
def tw5327811050537316108:=0
def tw2563417834374504616:=0
def tw15702415910801639264:=0
def tw18116502907995344538:=0
def tw5059182461851255281:=0
def tw4851584876821047974:=0
def tw2784763150783694911:=0
def tw6667584486847035364:=0
def tw15644538241610193051:=0
def tw12373808294230972375:=0
def tw15546451601028893316:=0
def tw10652116004747515781:=0
def tw3139381303332565128:=0
def tw17506093769988149317:=0
def tw14049065441534994656:=0
def tw6725247989965405312:=0
def tw810425491531250276:=0
def tw2808151174795986459:=0
def tw9340889779940014598:=0
def tw7453946383581542109:=0
def tw13234610781467196169:=0
def tw14856633240348977773:=0
def tw303336642279453821:=0
def tw11821091243809309704:=0
def tw17754804472965818398:=0
def tw4820106954352520614:=0
def tw4605784584231504105:=0
def tw554835346256577694:=0
def tw3139233612036652282:=0
def tw11556155328301317260:=0
def tw7073614293257383884:=0
def tw1339023548544507020:=0
def tw7403660145415340303:=0
def tw3687041711840303440:=0
def tw1053832419321578986:=0
def tw6825019951760482869:=0
def tw207481142253186180:=0
def tw16982067135553659930:=0
def tw11103284127978083879:=0
def tw6839157354109589578:=0
def tw13368849075552922898:=0
def tw17408009112484720918:=0
def tw11238355043388197225:=0
def tw106735320752601682:=0
def tw4820179183248067876:=0
def tw10191922797193216490:=0
def tw16334233080317885046:=0
def tw12051014282380473193:=0
def tw9977436094181294425:=0
def tw1760304510536162812:=0
def tw17957160095478174176:=0
def tw490598221871500603:=0
def tw15389889731427441366:=0
def tw2904981160680759578:=0
def tw3466624168289982798:=0
def tw13255987235936491305:=0
def tw9466338852023748251:=0
def tw9372076946879408457:=0
def tw13687092447907557761:=0
def tw14467033057044269550:=0
def tw8196556028630076433:=0
def tw10616523130794755158:=0
def tw2442442847208542573:=0
def tw10954792602440173839:=0
def tw7359669183161794205:=0
def tw5756124326608389444:=0
def tw7284545372030372499:=0
def tw3214504166576377322:=0
def tw9170323689334848632:=0
def tw3191353476914155020:=0
def tw11241272570617766984:=0
def tw2339491629498312458:=0
def tw7923164549809389204:=0
def tw4489690616634426634:=0
def tw8691381694508001494:=0
def tw13755572322072335187:=0
def tw6429417284012210790:=0
def tw498756155516641711:=0
def tw14728776104024229045:=0
def tw7496696540312427268:=0
def tw11964214181246630206:=0
def tw7155236822454358851:=0
def tw18174006936954620734:=0
def tw8866709290375139095:=0
def tw15035916924635477067:=0
def tw15686949709844453201:=0
def tw15933709302477685363:=0
def tw18001792861069752460:=0
def tw15283544172379369894:=0
def tw18324245909386505814:=0
def tw4406364434726568292:=0
def tw4115498723056511220:=0
def tw15469838769423367428:=0
def tw14844985701542012756:=0
def tw10293293811226342353:=0
def tw15632202354623952631:=0
def tw11281896072246726563:=0
def tw13501467005124871016:=0
def tw7390916289031065413:=0
def tw6230973768694559475:=0
def tw3970244942820316876:=0
def tw7940115019160772626:=0
def tw17143769678815307944:=0
def tw8281105992922520276:=0
def tw6681190930343285134:=0
def tw1789306065446576273:=0
def tw15435268374404814016:=0
def tw573909926529918919:=0
def tw7718652618192038891:=0
def tw3162169718242734800:=0
def tw8044355465345147616:=0
def tw12778627782780300535:=0
def tw8455156983727506097:=0
def tw14042575442969318241:=0
def tw9806341871732311013:=0
def tw11859155844210583189:=0
def tw16517060888782029192:=0
def tw11946374405323550917:=0
def tw8003124836427918536:=0
def tw5304402272838884300:=0
def tw18402282656098226071:=0
def tw4877922780967327822:=0
def tw16571798104151402150:=0
def tw10485921488443891007:=0
def tw9673137194178878878:=0
def tw17917695392988325697:=0
def tw3402977069113477496:=0
def tw10487193222077024340:=0
def tw14710024184158753722:=0
def tw252414391956694946:=0
def tw8719905113216590897:=0
def tw269917269538409733:=0
def tw12629127553884544303:=0
def tw12797934099512571158:=0
def tw5865815303241897594:=0
def tw8112540336679176476:=0
def tw7404308264819537134:=0
def tw17279940613129939529:=0
def tw11099620984476195469:=0
def tw15769394862535358878:=0
def tw6551178899224738152:=0
def tw4917978659273501619:=0
def tw7304701126206913641:=0
def tw9585830986266089642:=0
def tw14368478504253041351:=0
def tw104266900409853819:=0
def tw7898574467397030402:=0
def tw11884107662306164654:=0
def tw15440722523877578042:=0
def tw17311679225338322759:=0
def tw1154665629758236976:=0
def tw956660071116088454:=0
def tw12873390842670489617:=0
def tw1808058330085378971:=0
def tw13865192517920854150:=0
def tw1950115939213983845:=0
def tw12930074434733467812:=0
def tw3010752092196305532:=0
def tw2424402959409818256:=0
def tw9962195839003412707:=0
def tw11140961384797049297:=0
def tw6842031924787124076:=0
def tw9716702447337205256:=0
def tw7817015375610411434:=0
def tw15591729874351214606:=0
def tw5821917397975330102:=0
def tw7978836955670581292:=0
def tw1883590894891316212:=0
def tw4328313217895117128:=0
def tw7041546006292640514:=0
def tw619519208858098370:=0
def tw18183897086430225401:=0
def tw10234230668580085543:=0
def tw1246328897573817933:=0
def tw5775413368415500692:=0
def tw14601763790305793241:=0
def tw13194894361862909694:=0
def tw14844293843146175732:=0
def tw1511268463174494398:=0
def tw17326166276277548816:=0
def tw9750687598109720464:=0
def tw14824373134367883024:=0
def tw3348679510164599325:=0
def tw4868801776790991188:=0
def tw18059276076943237545:=0
def tw11847886957840154251:=0
def tw2438147481574435561:=0
def tw6046914754727752931:=0
def tw14360215883764702931:=0
def tw8839680618183700471:=0
def tw7378818114658139954:=0
def tw15385774441021837767:=0
def tw8843991839010885706:=0
def tw8019527831191663219:=0
def tw12921315274086858319:=0
def tw14909600850682241934:=0
def tw11011771046761359064:=0
def tw14329602632108684587:=0
def tw10226240292977467495:=0
def tw18161318910181652641:=0
def tw1675061728574620784:=0
def tw9727033263698519025:=0
def tw12896887866755385032:=0
def tw7958099756780473421:=0
def tw7300691944226595037:=0
def tw8525295082826769983:=0
def tw15398544751344341255:=0
def tw10716854905700484506:=0
def tw10500292552423001493:=0
def tw2216623326062168192:=0
def tw4206053382474284988:=0
def tw4186370385697428212:=0
def tw9674759581785363111:=0
def tw14083349866737592750:=0
def tw2980820965739967973:=0
def tw2242302847285241762:=0
def tw5463706789592217703:=0
def tw6512026856920220924:=0
def tw2120931789832253673:=0
def tw7285695741354294042:=0
def tw3540121527002857413:=0
def tw9456439471410061770:=0
def tw14343161611789540451:=0
def tw17742531455537712918:=0
def tw16758305792354560014:=0
def tw4796472947095550924:=0
def tw9466925216921477492:=0
def tw2608317637582281648:=0
def tw7729394892434346280:=0
def tw1842724868100687451:=0
def tw3422248185931483008:=0
def tw13612072495201185697:=0
def tw4315186773298608328:=0
def tw12855948694196784427:=0
def tw15093431751048211733:=0
def tw18312793329963296440:=0
def tw17990345209393146453:=0
def tw6141714429030053934:=0
def tw715808829947390299:=0
def tw1424753510628626874:=0
def tw8098824796563662242:=0
def tw17722687610135446343:=0
def tw12081621059838866815:=0
def tw2844299362626554164:=0
def tw8113638549613888788:=0
def tw11804717946765529047:=0
def tw10444119836829529046:=0
def tw17850776386146654240:=0
def tw13435944019994701412:=0
def tw11796807037327870622:=0
def tw6525436448440158206:=0
def tw16391744461069684358:=0
def tw8511308872288070370:=0
def tw15841731359137073515:=0
def tw16280606189719688148:=0
def tw5965966456947092876:=0
def tw18384908211301217061:=0
def tw11737544663929899438:=0
def tw4115824246857854245:=0
def tw4674779984190955063:=0
def tw7616793574319511694:=0
def tw3534695977521607991:=0
def tw18224898622208917753:=0
def tw6335145226068732093:=0
def tw16087120047013200658:=0
def tw11375058744090768434:=0
def tw2608472583075330964:=0
def tw4642727465681075384:=0
def tw3310001143312563933:=0
def tw2511231409292127165:=0
def tw8273334402415912131:=0
def tw14751828600342105773:=0
def tw15017786474662930397:=0
def tw14894566570704848914:=0
def tw9752396982387026564:=0
def tw10215163308375726357:=0
def tw1289313125432263515:=0
def tw1954929497304129239:=0
def tw2085184752254079544:=0
def tw429368688471076441:=0
def tw16298576189123759227:=0
def tw2936867879837869137:=0
def tw9776771395699195794:=0
def tw10167077043872983933:=0
def tw14462986493683818192:=0
def tw15813633695274287449:=0
def tw2081125125286526407:=0
def tw9845559906801806191:=0
def tw13509495578679345480:=0
def tw3179901306202780109:=0
def tw9394710735767723346:=0
def tw1734651719852236062:=0
def tw2779001536836851565:=0
def tw14379176098576797150:=0
def tw5270970022086677243:=0
def tw7047018451068968970:=0
def tw2352908854231415196:=0
def tw6329860190380345053:=0
def tw1039267987326989412:=0
def tw495513304234231507:=0
def tw11063288086889175510:=0
def tw12577736805458055156:=0
def tw10816301498142748683:=0
def tw1693810739975675611:=0
def tw4781867498493792884:=0
def tw10083200170013196098:=0
def tw10442674124760711244:=0
def tw9627603616492633855:=0
def tw964717016482990999:=0
def tw17872602412840602408:=0
def tw6991134184779438298:=0
def tw6529730305558946528:=0
def tw10083078605174306462:=0
def tw4941591802854578650:=0
def tw13311603138571316568:=0
def tw576764039303163145:=0
def tw4221981184230150748:=0
def tw1010381779779980319:=0
def tw17501948031152459478:=0
def tw3513469588624577560:=0
def tw11439053363159451742:=0
def tw4309989385303384649:=0
def tw10313329061008487141:=0
def tw7228974448545507221:=0
def tw17632104834411619522:=0
def tw16289869068655883438:=0
def tw4372469913076700303:=0
def tw12408232836251258361:=0
def tw14468240074493195724:=0
def tw14729287565356748171:=0
def tw4313946420975040911:=0
def tw8739308514653662398:=0
def tw7243541868067763314:=0
def tw6227661487443009486:=0
def tw800117816082345964:=0
def tw17339916631880590841:=0
def tw14037870127712734029:=0
def tw17022946672318048440:=0
def tw3734840803468414411:=0
def tw2097913956369112177:=0
def tw17322672333860635625:=0
def tw10654261830941265169:=0
def tw3638553333672929143:=0
def tw4825393848198859648:=0
def tw14717656122239177532:=0
def tw8849212283763567733:=0
def tw17492816302048980781:=0
def tw12712722075241267982:=0
def tw3027992858977241951:=0
def tw528849764292691755:=0
def tw13441883172609304015:=0
def tw16171992803874028604:=0
def tw6376409606803130976:=0
def tw14830777861165035041:=0
def tw17340377679585397674:=0
def tw6889024023378713811:=0
def tw1006877666206175372:=0
def tw5350459927959291355:=0
def tw7396692460876428254:=0
def tw3683201642261472142:=0
def tw15367013209103926654:=0
def tw12304279383860170345:=0
def tw14596703357899526160:=0
def tw1174945637936349675:=0
def tw1980152903007684377:=0
def tw16157987027349162128:=0
def tw18067570060010320031:=0
def tw14903652764827388770:=0
def tw4038974984283076873:=0
def tw2082037318376651347:=0
def tw5863429621005282699:=0
def tw17889790936978176579:=0
def tw12091463145839524857:=0
def tw8246883830715406304:=0
def tw14820267065559660042:=0
def tw16659868098158038620:=0
def tw3255414540465324598:=0
def tw6464570554439879563:=0
def tw9424042881155744934:=0
def tw9492035985140636171:=0
def tw8956751034360910079:=0
def tw4472986313973183973:=0
def tw4541075418774707858:=0
def tw13243372048894118865:=0
def tw15095529192326277782:=0
def tw17403219809135261125:=0
def tw14876552898849422498:=0
def tw18023140514206316491:=0
def tw15923671859857080984:=0
def tw6361402318307562985:=0
def tw3994312350418068445:=0
def tw14122827880852873664:=0
def tw6520114295626355819:=0
def tw14085761156587064442:=0
def tw16089925379518409481:=0
def tw17927889051680074882:=0
def tw4775500817123235586:=0
def tw14691956186292025973:=0
def tw12380508541855206017:=0
def tw6860780470847831940:=0
def tw2671261474719773374:=0
def tw16033655647763615576:=0
def tw17832989030859124385:=0
def tw7635009723717688797:=0
def tw8441041691910789813:=0
def tw17943084462741485429:=0
def tw14834237765686296096:=0
def tw14271946850919069709:=0
def tw15115970144832640243:=0
def tw11722677640763305618:=0
def tw16286300809011147179:=0
def tw16230169751360745863:=0
def tw17796060671545058157:=0
def tw5098045207784024812:=0
def tw17120824652341543620:=0
def tw10311585784882432982:=0
def tw15300139127539205234:=0
def tw4980261061003708697:=0
def tw1476173153536092229:=0
def tw131714796020216092:=0
def tw12111758797128250032:=0
def tw5665962826724964159:=0
def tw13519467095495713358:=0
def tw9493576323692900663:=0
def tw13395608538463379589:=0
def tw13667105102310450640:=0
def tw1303371197722991361:=0
def tw17790374210305032139:=0
def tw11048902121010120244:=0
def tw6661492565140411864:=0
def tw1149038187536311863:=0
def tw6951693600697693882:=0
def tw8068650509465769648:=0
def tw7723214001256895645:=0
def tw8526424232971503662:=0
def tw13174237113939766912:=0
def tw6917982554825838341:=0
def tw2057220878490996783:=0
def tw2363875041394077505:=0
end PySem.W.Fast
open PySem PySem.W PyProof.Rows
set_option maxHeartbeats 0 in
theorem PySem.Challenge.cw_outweave_k31_prices_and_least_ways_holds : PySem.Challenge.rw_outweave_k31_prices_and_least_ways.Holds := by
  w_on; o_law; k_head; (case hw => w_witness2)
  k_fill
  refine L2.walk_ofB (l := PySem.Challenge.rw_outweave_k31_prices_and_least_ways) (n := 63) (k := 7) (x := "_law_script") (CX := fun _ => L2.CX0) (sp := fun w => LI.spLaw _) rfl (by decide) rfl ⟨rfl, by decide, by decide⟩ (fun w h Y => PySem.W.kIn_of Y) ?F (fun _ _ a ns hl hb _ hS => ⟨a, ns, rfl, hS, hl, hb, fun _ => rfl⟩) (fun _ _ _ _ _ h => h)
  case F =>
    intro w mg fa h KX G hmg
    refine' LW.all_mk LW.law_true KX G hmg ?gc_Trail ?gc_Listed ?a1_Listed_init ?a5_Listed_init ?a2_Listed_init ?a3_Listed_init ?a4_Listed_init ?a1_Listed_first_node ?a5_Listed_first_node ?a2_Listed_first_node ?a3_Listed_first_node ?a4_Listed_first_node ?a1_Listed_last_at ?a5_Listed_last_at ?a2_Listed_last_at ?a3_Listed_last_at ?a4_Listed_last_at ?a1_Listed_nodes_at ?a5_Listed_nodes_at ?a2_Listed_nodes_at ?a3_Listed_nodes_at ?a4_Listed_nodes_at ?a1_Listed_moves_from ?a5_Listed_moves_from ?a2_Listed_moves_from ?a3_Listed_moves_from ?a4_Listed_moves_from ?a1_Listed_is_end ?a5_Listed_is_end ?a2_Listed_is_end ?a3_Listed_is_end ?a4_Listed_is_end ?a1_cheapest ?a2_cheapest ?a3_cheapest ?a4_cheapest ?a1_settle ?a2_settle ?a3_settle ?a4_settle ?a1_priced ?a2_priced ?a3_priced ?a4_priced ?a1_first_least ?a2_first_least ?a3_first_least ?a4_first_least ?a1_way_of ?a2_way_of ?a3_way_of ?a4_way_of ?a1_walked ?a2_walked ?a3_walked ?a4_walked ?a1_all_nodes ?a2_all_nodes ?a3_all_nodes ?a4_all_nodes ?a1_is_price ?a2_is_price ?a3_is_price ?a4_is_price ?a1_fair_at ?a2_fair_at ?a3_fair_at ?a4_fair_at ?a1_fair ?a2_fair ?a3_fair ?a4_fair ?a1_lw_cell_at ?a2_lw_cell_at ?a3_lw_cell_at ?a4_lw_cell_at ?a1_lw_mix ?a2_lw_mix ?a3_lw_mix ?a4_lw_mix ?a1_lw_whole ?a2_lw_whole ?a3_lw_whole ?a4_lw_whole ?a1_lw_sizes ?a2_lw_sizes ?a3_lw_sizes ?a4_lw_sizes ?a1_lw_nodes ?a2_lw_nodes ?a3_lw_nodes ?a4_lw_nodes ?a1_lw_moves ?a2_lw_moves ?a3_lw_moves ?a4_lw_moves ?a1_lw_ends ?a2_lw_ends ?a3_lw_ends ?a4_lw_ends ?a1_lw_least ?a2_lw_least ?a3_lw_least ?a4_lw_least ?a1_lw_walked ?a2_lw_walked ?a3_lw_walked ?a4_lw_walked ?a1_lw_alike ?a2_lw_alike ?a3_lw_alike ?a4_lw_alike ?a1_lw_way ?a2_lw_way ?a3_lw_way ?a4_lw_way ?a1_law ?a2_law ?a3_law ?a4_law ?z_bool ?z_dict ?z_int ?z_isinstance ?z_len ?z_list ?z_range ?z_tuple ?pg_Trail ?hd_Trail ?po_Trail ?sa_Trail ?pg_Listed ?hd_Listed ?po_Listed ?sa_Listed ?na_Listed_sizes ?na_Listed_steps ?na_Listed_shut ?mi_Listed ?kc_Listed ?ia_Listed_Trail ?in_Listed_Trail ?it_Listed_Trail ?im_Listed_Trail ?ik_Listed_Trail
    (case gc_Trail => k_is); (case gc_Listed => k_is); (case a1_Listed_init => k_is); (case a5_Listed_init => k_is); (case a2_Listed_init => k_is); (case a3_Listed_init => k_is); (case a4_Listed_init => k_is); (case a1_Listed_first_node => k_is); (case a5_Listed_first_node => k_is); (case a2_Listed_first_node => k_is); (case a3_Listed_first_node => k_is); (case a4_Listed_first_node => k_is); (case a1_Listed_last_at => k_is); (case a5_Listed_last_at => k_is); (case a2_Listed_last_at => k_is); (case a3_Listed_last_at => k_is); (case a4_Listed_last_at => k_is); (case a1_Listed_nodes_at => k_is); (case a5_Listed_nodes_at => k_is); (case a2_Listed_nodes_at => k_is); (case a3_Listed_nodes_at => k_is); (case a4_Listed_nodes_at => k_is); (case a1_Listed_moves_from => k_is); (case a5_Listed_moves_from => k_is); (case a2_Listed_moves_from => k_is); (case a3_Listed_moves_from => k_is); (case a4_Listed_moves_from => k_is); (case a1_Listed_is_end => k_is); (case a5_Listed_is_end => k_is); (case a2_Listed_is_end => k_is); (case a3_Listed_is_end => k_is); (case a4_Listed_is_end => k_is); (case a1_cheapest => k_is); (case a2_cheapest => k_is); (case a3_cheapest => k_is); (case a4_cheapest => k_is); (case a1_settle => k_is); (case a2_settle => k_is); (case a3_settle => k_is); (case a4_settle => k_is); (case a1_priced => k_is); (case a2_priced => k_is); (case a3_priced => k_is); (case a4_priced => k_is); (case a1_first_least => k_is); (case a2_first_least => k_is); (case a3_first_least => k_is); (case a4_first_least => k_is); (case a1_way_of => k_is); (case a2_way_of => k_is); (case a3_way_of => k_is); (case a4_way_of => k_is); (case a1_walked => k_is); (case a2_walked => k_is); (case a3_walked => k_is); (case a4_walked => k_is); (case a1_all_nodes => k_is); (case a2_all_nodes => k_is); (case a3_all_nodes => k_is); (case a4_all_nodes => k_is); (case a1_is_price => k_is); (case a2_is_price => k_is); (case a3_is_price => k_is); (case a4_is_price => k_is); (case a1_fair_at => k_is); (case a2_fair_at => k_is); (case a3_fair_at => k_is); (case a4_fair_at => k_is); (case a1_fair => k_is); (case a2_fair => k_is); (case a3_fair => k_is); (case a4_fair => k_is); (case a1_lw_cell_at => k_is); (case a2_lw_cell_at => k_is); (case a3_lw_cell_at => k_is); (case a4_lw_cell_at => k_is); (case a1_lw_mix => k_is); (case a2_lw_mix => k_is); (case a3_lw_mix => k_is); (case a4_lw_mix => k_is); (case a1_lw_whole => k_is); (case a2_lw_whole => k_is); (case a3_lw_whole => k_is); (case a4_lw_whole => k_is); (case a1_lw_sizes => k_is); (case a2_lw_sizes => k_is); (case a3_lw_sizes => k_is); (case a4_lw_sizes => k_is); (case a1_lw_nodes => k_is); (case a2_lw_nodes => k_is); (case a3_lw_nodes => k_is); (case a4_lw_nodes => k_is); (case a1_lw_moves => k_is); (case a2_lw_moves => k_is); (case a3_lw_moves => k_is); (case a4_lw_moves => k_is); (case a1_lw_ends => k_is); (case a2_lw_ends => k_is); (case a3_lw_ends => k_is); (case a4_lw_ends => k_is); (case a1_lw_least => k_is); (case a2_lw_least => k_is); (case a3_lw_least => k_is); (case a4_lw_least => k_is); (case a1_lw_walked => k_is); (case a2_lw_walked => k_is); (case a3_lw_walked => k_is); (case a4_lw_walked => k_is); (case a1_lw_alike => k_is); (case a2_lw_alike => k_is); (case a3_lw_alike => k_is); (case a4_lw_alike => k_is); (case a1_lw_way => k_is); (case a2_lw_way => k_is); (case a3_lw_way => k_is); (case a4_lw_way => k_is); (case a1_law => k_is); (case a2_law => k_is); (case a3_law => k_is); (case a4_law => k_is); (case z_bool => k_is); (case z_dict => k_is); (case z_int => k_is); (case z_isinstance => k_is); (case z_len => k_is); (case z_list => k_is); (case z_range => k_is); (case z_tuple => k_is); (case pg_Trail => k_is); (case hd_Trail => k_is); (case po_Trail => k_is); (case sa_Trail => k_is); (case pg_Listed => k_is); (case hd_Listed => k_is); (case po_Listed => k_is); (case sa_Listed => k_is); (case na_Listed_sizes => k_is); (case na_Listed_steps => k_is); (case na_Listed_shut => k_is); (case mi_Listed => k_is); (case kc_Listed => k_is); (case ia_Listed_Trail => k_is); (case in_Listed_Trail => k_is); (case it_Listed_Trail => k_is); (case im_Listed_Trail => k_is); (case ik_Listed_Trail => kit_is)


