import PyProof.Rows.All
import Wide.All
import OpenK.AllK
import Wide.FinOn
import HandS.ForMost
import HandS.ForExc
import HandS.Wide
import HandS.EndBits
import HandS.Flow
import HandS.Style
import HandS.Zip
import HandS.Deep
import HandS.Codes
import HandS.IsInst
import HandS.FStr
import HandS.Conv
import KE.KeyNested
import HandS.TupAny
import HandS.Walk
import HandS.Dict
import PyProof.Draws
import HandS.More
import HandS.NoneIn
import KE.DatumOrd
import PyProof.Rows.RowBridgeK
import HandS.TupLen
import KE.SortData
import PyProof.Rows.StrLawsPart
import PyProof.StrLawsIn
import HandS.DictEq
import KE.KDictKeyed
import HandS.SetFor
import HandS.Iter
import KE.DataMinKey
import HandS.StrMore
import HandS.Replace
import HandS.ReplaceList
import PyProof.ToksMono
import HandS.Defaults
import HandS.Exc
import PyProof.StrLawsFirst
import KE.KEqDict
import HandS.Rev
import PySem.Challenge.RW_outweave_k48_whole_folded_and_joined
set_option Elab.async false
set_option synthInstance.maxSize 10000
set_option linter.all false
set_option maxRecDepth 100000
set_option exponentiation.threshold 20000
set_option maxHeartbeats 4000000
namespace LI
open PySem L2

inductive D where
  | gone
  | non
  | bl (b : Bool)
  | int (i : Int)
  | str (s : List Nat)
  | scr (ns : List Int)
  | kst (ss : List (List Nat))
  | key (ks : List Key)
  | tup (ds : List D)
  | lst (o : Bool) (ds : List D)
  | dK (o : Bool) (ks : List Key) (ds : List D)
  | dT (o : Bool) (ks : List (List Key)) (ds : List D)
  | dN (o : Bool) (ks : List NestedKey) (ds : List D)
  | obj (o : Bool) (c : Nat) (fs : List Str) (ds : List D)

abbrev FP := Addr → Nat
def one (a : Addr) : FP := fun b => if b = a then 1 else 0
def fz : FP := fun _ => 0
def fa (S T : FP) : FP := fun b => S b + T b
def Ex (H H' : Hp) : Prop := ∀ a o, H a = some o → H' a = some o
theorem Ex.refl (H : Hp) : Ex H H := fun _ _ h => h
theorem Ex.trans {H H1 H2 : Hp} (a : Ex H H1) (b : Ex H1 H2) : Ex H H2 := fun x o h => b x o (a x o h)

structure LC where
  K : PySem.W.Frag
  cl : Nat → Addr
  w : World

mutual
/-- the value is the key -/
def NkRep (K : PySem.W.Frag) (P : Hp) : NestedKey → V → Prop
  | .none, v => v = .non
  | .num i, v => v = .int i
  | .text x, v => v = .str x
  | .tup ks, v => ∃ a xs, v = .ref a ∧ SqT K P a xs ∧ NkAll K P ks xs
def NkAll (K : PySem.W.Frag) (P : Hp) : List NestedKey → List V → Prop
  | [], xs => xs = []
  | k :: ks, xs => ∃ y ys, xs = y :: ys ∧ NkRep K P k y ∧ NkAll K P ks ys
end
structure NkOk (K : PySem.W.Frag) (P : Hp) (a : Addr) (ks : List NestedKey) (bs : List Addr) : Prop where
  ne : (a == sysModules) = false
  len : ks.length = bs.length
  le : ks.length ≤ sizeLine
  nd : ks.Nodup
  at_ : ∀ p ∈ ks.zip bs, NkRep K P p.1 (.ref p.2) ∧ p.1.depth ≤ 8
abbrev DnE (w : World) : List (NestedKey × Addr × V) → List DictEntry → Prop := Paired fun p e => e.hash = p.1.hash w ∧ e.key = .ref p.2.1 ∧ RelV p.2.2 e.val
def DnObj (w : World) (l : List (NestedKey × Addr × V)) (o : Obj) : Prop := o.ExactDict ∧ ∃ es ep, o.data = .dict es ep ∧ DnE w l es.toList
def exO (a : Addr) (o : Obj) : HO := .ext fun h => h.get? a = some o
def DnAt (w : World) (H : Hp) (a : Addr) (l : List (NestedKey × Addr × V)) : Prop := ∃ o, H a = some (exO a o) ∧ DnObj w l o
theorem DnAt.of {w : World} {H H' : Hp} {a : Addr} {l : List (NestedKey × Addr × V)} (h : DnAt w H a l) (k : ∀ o, H a = some o → H' a = some o) : DnAt w H' a l := let ⟨o, h1, h2⟩ := h; ⟨o, k _ h1, h2⟩

mutual
def Rep (c : LC) (P H : Hp) : D → V → FP → Prop
  | .gone, _, S => S = fz
  | .non, v, S => v = .non ∧ S = fz
  | .bl b, v, S => v = .bl b ∧ S = fz
  | .int i, v, S => v = .int i ∧ S = fz
  | .str s, v, S => v = .str ⟨s.toArray⟩ ∧ S = fz
  | .scr ns, v, S => ∃ a, v = .ref a ∧ SqL c.K P a (ns.map V.int) ∧ S = fz
  | .kst ss, v, S => ∃ a, v = .ref a ∧ SqT c.K P a (ss.map fun s => V.str ⟨s.toArray⟩) ∧ S = fz
  | .key ks, v, S => ∃ a, v = .ref a ∧ P a = some (.tup (ks.map kV)) ∧ S = fz
  | .tup ds, v, S => ∃ a xs, v = .ref a ∧ SqT c.K P a xs ∧ RepL c P H ds xs S
  | .lst true ds, v, S => ∃ a xs T, v = .ref a ∧ H a = some (.lst xs) ∧ RepL c P H ds xs T ∧ S = fa (one a) T
  | .lst false ds, v, S => ∃ a xs, v = .ref a ∧ P a = some (.lst xs) ∧ RepL c P H ds xs S
  | .dK true ks ds, v, S => ∃ a xs T, v = .ref a ∧ H a = some (.dK (ks.zip xs)) ∧ ks.length = xs.length ∧ RepL c P H ds xs T ∧ S = fa (one a) T
  | .dK false ks ds, v, S => ∃ a xs, v = .ref a ∧ P a = some (.dK (ks.zip xs)) ∧ ks.length = xs.length ∧ RepL c P H ds xs S
  | .dT true ks ds, v, S => ∃ a xs T, v = .ref a ∧ H a = some (.dT (ks.zip xs)) ∧ ks.length = xs.length ∧ RepL c P H ds xs T ∧ S = fa (one a) T
  | .dT false ks ds, v, S => ∃ a xs, v = .ref a ∧ P a = some (.dT (ks.zip xs)) ∧ ks.length = xs.length ∧ RepL c P H ds xs S
  | .dN true ks ds, v, S => ∃ a bs xs T, v = .ref a ∧ DnAt c.w H a (ks.zip (bs.zip xs)) ∧ NkOk c.K P a ks bs ∧ ks.length = xs.length ∧ RepL c P H ds xs T ∧ S = fa (one a) T
  | .dN false ks ds, v, S => ∃ a bs xs, v = .ref a ∧ DnAt c.w P a (ks.zip (bs.zip xs)) ∧ NkOk c.K P a ks bs ∧ ks.length = xs.length ∧ RepL c P H ds xs S
  | .obj true k fs ds, v, S => ∃ a dx xs T, v = .ref a ∧ H a = some (.ins (c.cl k) dx (fs.zip xs)) ∧ fs.length = xs.length ∧ RepL c P H ds xs T ∧ S = fa (one a) T
  | .obj false k fs ds, v, S => ∃ a dx xs, v = .ref a ∧ P a = some (.ins (c.cl k) dx (fs.zip xs)) ∧ fs.length = xs.length ∧ RepL c P H ds xs S
def RepL (c : LC) (P H : Hp) : List D → List V → FP → Prop
  | [], xs, S => xs = [] ∧ S = fz
  | d :: ds, xs, S => ∃ y ys T U, xs = y :: ys ∧ Rep c P H d y T ∧ RepL c P H ds ys U ∧ S = fa T U
end
mutual
/-- nothing in it is owned -/
def frz : D → Bool
  | .tup ds => frzL ds
  | .lst o ds => !o && frzL ds
  | .dK o _ ds => !o && frzL ds
  | .dT o _ ds => !o && frzL ds
  | .dN o _ ds => !o && frzL ds
  | .obj o _ _ ds => !o && frzL ds
  | _ => true
def frzL : List D → Bool
  | [] => true
  | d :: ds => frz d && frzL ds
end
mutual
/-- the same, owned by none -/
def ice : D → D
  | .tup ds => .tup (iceL ds)
  | .lst _ ds => .lst false (iceL ds)
  | .dK _ ks ds => .dK false ks (iceL ds)
  | .dT _ ks ds => .dT false ks (iceL ds)
  | .dN _ ks ds => .dN false ks (iceL ds)
  | .obj _ k fs ds => .obj false k fs (iceL ds)
  | d => d
def iceL : List D → List D
  | [] => []
  | d :: ds => ice d :: iceL ds
end
mutual
/-- no list, dict or instance in it that is frozen -/
def noIce : D → Bool
  | .scr _ => false
  | .tup ds => noIceL ds
  | .lst o ds => o && noIceL ds
  | .dK o _ ds => o && noIceL ds
  | .dT o _ ds => o && noIceL ds
  | .dN o _ ds => o && noIceL ds
  | .obj o _ _ ds => o && noIceL ds
  | _ => true
def noIceL : List D → Bool
  | [] => true
  | d :: ds => noIce d && noIceL ds
end
theorem fa_fz (S : FP) : fa S fz = S := by funext b; simp [fa, fz]
theorem fz_fa (S : FP) : fa fz S = S := by funext b; simp [fa, fz]

theorem sqt_mono {K : PySem.W.Frag} {H H' : Hp} {a : Addr} {xs : List V} (e : Ex H H') (h : SqT K H a xs) : SqT K H' a xs := by
  rcases h with (h | ⟨o, h⟩) | h
  · exact .inl (.inl (e _ _ h))
  · exact .inl (.inr ⟨o, e _ _ h⟩)
  · exact .inr h
theorem sql_mono {K : PySem.W.Frag} {H H' : Hp} {a : Addr} {xs : List V} (e : Ex H H') (h : SqL K H a xs) : SqL K H' a xs := by
  rcases h with (h | ⟨o, h⟩) | h
  · exact .inl (.inl (e _ _ h))
  · exact .inl (.inr ⟨o, e _ _ h⟩)
  · exact .inr h

mutual
theorem NkRep.mono {K : PySem.W.Frag} {P P' : Hp} (e : ∀ (a : Addr) (xs : List V), SqT K P a xs → SqT K P' a xs) : ∀ (k : NestedKey) (v : V), NkRep K P k v → NkRep K P' k v
  | .none, v, h => h
  | .num _, v, h => h
  | .text _, v, h => h
  | .tup ks, v, ⟨a, xs, h1, h2, h3⟩ => ⟨a, xs, h1, e a xs h2, NkAll.mono e ks xs h3⟩
theorem NkAll.mono {K : PySem.W.Frag} {P P' : Hp} (e : ∀ (a : Addr) (xs : List V), SqT K P a xs → SqT K P' a xs) : ∀ (ks : List NestedKey) (vs : List V), NkAll K P ks vs → NkAll K P' ks vs
  | [], vs, h => h
  | k :: ks, vs, ⟨y, ys, h1, h2, h3⟩ => ⟨y, ys, h1, NkRep.mono e k y h2, NkAll.mono e ks ys h3⟩
end
theorem NkOk.mono {K : PySem.W.Frag} {P P' : Hp} {a : Addr} {ks : List NestedKey} {bs : List Addr} (h : NkOk K P a ks bs) (e : ∀ (a : Addr) (xs : List V), SqT K P a xs → SqT K P' a xs) : NkOk K P' a ks bs :=
  ⟨h.ne, h.len, h.le, h.nd, fun p hp => ⟨NkRep.mono e _ _ (h.at_ p hp).1, (h.at_ p hp).2⟩⟩
mutual
theorem Rep.mono {c : LC} {P H P' H' : Hp} (eP : Ex P P') : ∀ (d : D) (v : V) (S : FP), (∀ a o, 0 < S a → H a = some o → H' a = some o) → Rep c P H d v S → Rep c P' H' d v S
  | .gone, v, S, _, h => h
  | .non, v, S, _, h => h
  | .bl _, v, S, _, h => h
  | .int _, v, S, _, h => h
  | .str _, v, S, _, h => h
  | .scr ns, v, S, k, ⟨a, e, q, z⟩ => ⟨a, e, sql_mono eP q, z⟩
  | .kst ss, v, S, k, ⟨a, e, q, z⟩ => ⟨a, e, sqt_mono eP q, z⟩
  | .key ks, v, S, k, ⟨a, e, q, z⟩ => ⟨a, e, eP _ _ q, z⟩
  | .tup ds, v, S, k, ⟨a, xs, e, q, r⟩ => ⟨a, xs, e, sqt_mono eP q, RepL.mono eP ds xs S k r⟩
  | .lst true ds, v, S, k, ⟨a, xs, T, e, q, r, f⟩ => ⟨a, xs, T, e, k _ _ (by rw [f]; simp [fa, one]; omega) q, RepL.mono eP ds xs T (fun b o hb => k b o (by rw [f]; simp only [fa]; omega)) r, f⟩
  | .lst false ds, v, S, k, ⟨a, xs, e, q, r⟩ => ⟨a, xs, e, eP _ _ q, RepL.mono eP ds xs S k r⟩
  | .dK true ks ds, v, S, k, ⟨a, xs, T, e, q, n, r, f⟩ => ⟨a, xs, T, e, k _ _ (by rw [f]; simp [fa, one]; omega) q, n, RepL.mono eP ds xs T (fun b o hb => k b o (by rw [f]; simp only [fa]; omega)) r, f⟩
  | .dK false ks ds, v, S, k, ⟨a, xs, e, q, n, r⟩ => ⟨a, xs, e, eP _ _ q, n, RepL.mono eP ds xs S k r⟩
  | .dT true ks ds, v, S, k, ⟨a, xs, T, e, q, n, r, f⟩ => ⟨a, xs, T, e, k _ _ (by rw [f]; simp [fa, one]; omega) q, n, RepL.mono eP ds xs T (fun b o hb => k b o (by rw [f]; simp only [fa]; omega)) r, f⟩
  | .dT false ks ds, v, S, k, ⟨a, xs, e, q, n, r⟩ => ⟨a, xs, e, eP _ _ q, n, RepL.mono eP ds xs S k r⟩
  | .dN true ks ds, v, S, k, ⟨a, bs, xs, T, e, q, z, n, r, f⟩ => ⟨a, bs, xs, T, e, q.of fun o h => k a o (by rw [f]; simp [fa, one]; omega) h, z.mono fun _ _ => sqt_mono eP, n, RepL.mono eP ds xs T (fun b o hb => k b o (by rw [f]; simp only [fa]; omega)) r, f⟩
  | .dN false ks ds, v, S, k, ⟨a, bs, xs, e, q, z, n, r⟩ => ⟨a, bs, xs, e, q.of fun o h => eP a o h, z.mono fun _ _ => sqt_mono eP, n, RepL.mono eP ds xs S k r⟩
  | .obj true _ fs ds, v, S, k, ⟨a, dx, xs, T, e, q, n, r, f⟩ => ⟨a, dx, xs, T, e, k _ _ (by rw [f]; simp [fa, one]; omega) q, n, RepL.mono eP ds xs T (fun b o hb => k b o (by rw [f]; simp only [fa]; omega)) r, f⟩
  | .obj false _ fs ds, v, S, k, ⟨a, dx, xs, e, q, n, r⟩ => ⟨a, dx, xs, e, eP _ _ q, n, RepL.mono eP ds xs S k r⟩
theorem RepL.mono {c : LC} {P H P' H' : Hp} (eP : Ex P P') : ∀ (ds : List D) (xs : List V) (S : FP), (∀ a o, 0 < S a → H a = some o → H' a = some o) → RepL c P H ds xs S → RepL c P' H' ds xs S
  | [], xs, S, _, h => h
  | d :: ds, xs, S, k, ⟨y, ys, T, U, e, r, rs, f⟩ => ⟨y, ys, T, U, e, Rep.mono eP d y T (fun b o hb => k b o (by rw [f]; simp only [fa]; omega)) r, RepL.mono eP ds ys U (fun b o hb => k b o (by rw [f]; simp only [fa]; omega)) rs, f⟩
end
mutual
theorem Rep.frz0 {c : LC} {P H : Hp} : ∀ (d : D) (v : V) (S : FP), frz d = true → Rep c P H d v S → S = fz
  | .gone, v, S, _, h => h
  | .non, v, S, _, h => h.2
  | .bl _, v, S, _, h => h.2
  | .int _, v, S, _, h => h.2
  | .str _, v, S, _, h => h.2
  | .scr ns, v, S, k, ⟨a, e, q, z⟩ => z
  | .kst ss, v, S, k, ⟨a, e, q, z⟩ => z
  | .key ks, v, S, k, ⟨a, e, q, z⟩ => z
  | .tup ds, v, S, k, ⟨a, xs, e, q, r⟩ => RepL.frz0 ds xs S k r
  | .lst true ds, v, S, k, _ => by simp [frz] at k
  | .lst false ds, v, S, k, ⟨a, xs, e, q, r⟩ => RepL.frz0 ds xs S (by simpa [frz] using k) r
  | .dK true ks ds, v, S, k, _ => by simp [frz] at k
  | .dK false ks ds, v, S, k, ⟨a, xs, e, q, n, r⟩ => RepL.frz0 ds xs S (by simpa [frz] using k) r
  | .dT true ks ds, v, S, k, _ => by simp [frz] at k
  | .dT false ks ds, v, S, k, ⟨a, xs, e, q, n, r⟩ => RepL.frz0 ds xs S (by simpa [frz] using k) r
  | .dN true ks ds, v, S, k, _ => by simp [frz] at k
  | .dN false ks ds, v, S, k, ⟨a, bs, xs, e, q, z, n, r⟩ => RepL.frz0 ds xs S (by simpa [frz] using k) r
  | .obj true _ fs ds, v, S, k, _ => by simp [frz] at k
  | .obj false _ fs ds, v, S, k, ⟨a, dx, xs, e, q, n, r⟩ => RepL.frz0 ds xs S (by simpa [frz] using k) r
theorem RepL.frz0 {c : LC} {P H : Hp} : ∀ (ds : List D) (xs : List V) (S : FP), frzL ds = true → RepL c P H ds xs S → S = fz
  | [], xs, S, _, h => h.2
  | d :: ds, xs, S, k, ⟨y, ys, T, U, e, r, rs, f⟩ => by
    simp only [frzL, Bool.and_eq_true] at k
    rw [f, Rep.frz0 d y T k.1 r, RepL.frz0 ds ys U k.2 rs, fa_fz]
end
mutual
theorem Rep.ice {c : LC} {P H P' H' : Hp} (eP : Ex P P') : ∀ (d : D) (v : V) (S : FP), (∀ a o, 0 < S a → H a = some o → P' a = some o) → Rep c P H d v S → Rep c P' H' (ice d) v fz
  | .gone, v, S, _, h => rfl
  | .non, v, S, _, h => ⟨h.1, rfl⟩
  | .bl _, v, S, _, h => ⟨h.1, rfl⟩
  | .int _, v, S, _, h => ⟨h.1, rfl⟩
  | .str _, v, S, _, h => ⟨h.1, rfl⟩
  | .scr ns, v, S, k, ⟨a, e, q, z⟩ => ⟨a, e, sql_mono eP q, rfl⟩
  | .kst ss, v, S, k, ⟨a, e, q, z⟩ => ⟨a, e, sqt_mono eP q, rfl⟩
  | .key ks, v, S, k, ⟨a, e, q, z⟩ => ⟨a, e, eP _ _ q, rfl⟩
  | .tup ds, v, S, k, ⟨a, xs, e, q, r⟩ => ⟨a, xs, e, sqt_mono eP q, RepL.ice eP ds xs S k r⟩
  | .lst true ds, v, S, k, ⟨a, xs, T, e, q, r, f⟩ => ⟨a, xs, e, k _ _ (by rw [f]; simp [fa, one]; omega) q, RepL.ice eP ds xs T (fun b o hb => k b o (by rw [f]; simp only [fa]; omega)) r⟩
  | .lst false ds, v, S, k, ⟨a, xs, e, q, r⟩ => ⟨a, xs, e, eP _ _ q, RepL.ice eP ds xs S k r⟩
  | .dK true ks ds, v, S, k, ⟨a, xs, T, e, q, n, r, f⟩ => ⟨a, xs, e, k _ _ (by rw [f]; simp [fa, one]; omega) q, n, RepL.ice eP ds xs T (fun b o hb => k b o (by rw [f]; simp only [fa]; omega)) r⟩
  | .dK false ks ds, v, S, k, ⟨a, xs, e, q, n, r⟩ => ⟨a, xs, e, eP _ _ q, n, RepL.ice eP ds xs S k r⟩
  | .dT true ks ds, v, S, k, ⟨a, xs, T, e, q, n, r, f⟩ => ⟨a, xs, e, k _ _ (by rw [f]; simp [fa, one]; omega) q, n, RepL.ice eP ds xs T (fun b o hb => k b o (by rw [f]; simp only [fa]; omega)) r⟩
  | .dT false ks ds, v, S, k, ⟨a, xs, e, q, n, r⟩ => ⟨a, xs, e, eP _ _ q, n, RepL.ice eP ds xs S k r⟩
  | .dN true ks ds, v, S, k, ⟨a, bs, xs, T, e, q, z, n, r, f⟩ => ⟨a, bs, xs, e, q.of fun o h => k a o (by rw [f]; simp [fa, one]; omega) h, z.mono fun _ _ => sqt_mono eP, n, RepL.ice eP ds xs T (fun b o hb => k b o (by rw [f]; simp only [fa]; omega)) r⟩
  | .dN false ks ds, v, S, k, ⟨a, bs, xs, e, q, z, n, r⟩ => ⟨a, bs, xs, e, q.of fun o h => eP a o h, z.mono fun _ _ => sqt_mono eP, n, RepL.ice eP ds xs S k r⟩
  | .obj true _ fs ds, v, S, k, ⟨a, dx, xs, T, e, q, n, r, f⟩ => ⟨a, dx, xs, e, k _ _ (by rw [f]; simp [fa, one]; omega) q, n, RepL.ice eP ds xs T (fun b o hb => k b o (by rw [f]; simp only [fa]; omega)) r⟩
  | .obj false _ fs ds, v, S, k, ⟨a, dx, xs, e, q, n, r⟩ => ⟨a, dx, xs, e, eP _ _ q, n, RepL.ice eP ds xs S k r⟩
theorem RepL.ice {c : LC} {P H P' H' : Hp} (eP : Ex P P') : ∀ (ds : List D) (xs : List V) (S : FP), (∀ a o, 0 < S a → H a = some o → P' a = some o) → RepL c P H ds xs S → RepL c P' H' (iceL ds) xs fz
  | [], xs, S, _, h => ⟨h.1, rfl⟩
  | d :: ds, xs, S, k, ⟨y, ys, T, U, e, r, rs, f⟩ => ⟨y, ys, fz, fz, e, Rep.ice eP d y T (fun b o hb => k b o (by rw [f]; simp only [fa]; omega)) r, RepL.ice eP ds ys U (fun b o hb => k b o (by rw [f]; simp only [fa]; omega)) rs, (fa_fz fz).symm⟩
end
mutual
/-- what is owned stands in the heap -/
theorem Rep.there {c : LC} {P H : Hp} : ∀ (d : D) (v : V) (S : FP), Rep c P H d v S → ∀ a, 0 < S a → H a ≠ none
  | .gone, v, S, h => fun a p => by rw [show S = fz from h] at p; simp [fz] at p
  | .non, v, S, h => fun a p => by rw [h.2] at p; simp [fz] at p
  | .bl _, v, S, h => fun a p => by rw [h.2] at p; simp [fz] at p
  | .int _, v, S, h => fun a p => by rw [h.2] at p; simp [fz] at p
  | .str _, v, S, h => fun a p => by rw [h.2] at p; simp [fz] at p
  | .scr ns, v, S, ⟨a, e, q, z⟩ => fun b p => by rw [z] at p; simp [fz] at p
  | .kst ss, v, S, ⟨a, e, q, z⟩ => fun b p => by rw [z] at p; simp [fz] at p
  | .key ks, v, S, ⟨a, e, q, z⟩ => fun b p => by rw [z] at p; simp [fz] at p
  | .tup ds, v, S, ⟨a, xs, e, q, r⟩ => RepL.there ds xs S r
  | .lst true ds, v, S, ⟨a, xs, T, e, q, r, f⟩ => fun b p => by
    by_cases z : b = a
    · rw [z, q]; simp
    · exact RepL.there ds xs T r b (by rw [f] at p; simpa [fa, one, z] using p)
  | .lst false ds, v, S, ⟨a, xs, e, q, r⟩ => RepL.there ds xs S r
  | .dK true ks ds, v, S, ⟨a, xs, T, e, q, n, r, f⟩ => fun b p => by
    by_cases z : b = a
    · rw [z, q]; simp
    · exact RepL.there ds xs T r b (by rw [f] at p; simpa [fa, one, z] using p)
  | .dK false ks ds, v, S, ⟨a, xs, e, q, n, r⟩ => RepL.there ds xs S r
  | .dT true ks ds, v, S, ⟨a, xs, T, e, q, n, r, f⟩ => fun b p => by
    by_cases z : b = a
    · rw [z, q]; simp
    · exact RepL.there ds xs T r b (by rw [f] at p; simpa [fa, one, z] using p)
  | .dT false ks ds, v, S, ⟨a, xs, e, q, n, r⟩ => RepL.there ds xs S r
  | .dN true ks ds, v, S, ⟨a, bs, xs, T, e, q, _, n, r, f⟩ => fun b p => by
    by_cases z : b = a
    · obtain ⟨_, q, _⟩ := q; rw [z, q]; simp
    · exact RepL.there ds xs T r b (by rw [f] at p; simpa [fa, one, z] using p)
  | .dN false ks ds, v, S, ⟨a, bs, xs, e, q, _, n, r⟩ => RepL.there ds xs S r
  | .obj true _ fs ds, v, S, ⟨a, dx, xs, T, e, q, n, r, f⟩ => fun b p => by
    by_cases z : b = a
    · rw [z, q]; simp
    · exact RepL.there ds xs T r b (by rw [f] at p; simpa [fa, one, z] using p)
  | .obj false _ fs ds, v, S, ⟨a, dx, xs, e, q, n, r⟩ => RepL.there ds xs S r
theorem RepL.there {c : LC} {P H : Hp} : ∀ (ds : List D) (xs : List V) (S : FP), RepL c P H ds xs S → ∀ a, 0 < S a → H a ≠ none
  | [], xs, S, h => fun a p => by rw [h.2] at p; simp [fz] at p
  | d :: ds, xs, S, ⟨y, ys, T, U, e, r, rs, f⟩ => fun a p => by
    rw [f] at p
    by_cases z : 0 < T a
    · exact Rep.there d y T r a z
    · exact RepL.there ds ys U rs a (by simp only [fa] at p; omega)
end
def notTup : HO → Bool
  | .lst _ => true
  | .dK _ => true
  | .dT _ => true
  | .ins .. => true
  | .ext _ => true
  | _ => false
mutual
/-- what is owned is no tuple -/
theorem Rep.nt {c : LC} {P H : Hp} : ∀ (d : D) (v : V) (S : FP), Rep c P H d v S → ∀ a, 0 < S a → ∃ o, H a = some o ∧ notTup o = true
  | .gone, v, S, h => fun a p => by rw [show S = fz from h] at p; simp [fz] at p
  | .non, v, S, h => fun a p => by rw [h.2] at p; simp [fz] at p
  | .bl _, v, S, h => fun a p => by rw [h.2] at p; simp [fz] at p
  | .int _, v, S, h => fun a p => by rw [h.2] at p; simp [fz] at p
  | .str _, v, S, h => fun a p => by rw [h.2] at p; simp [fz] at p
  | .scr ns, v, S, ⟨a, e, q, z⟩ => fun b p => by rw [z] at p; simp [fz] at p
  | .kst ss, v, S, ⟨a, e, q, z⟩ => fun b p => by rw [z] at p; simp [fz] at p
  | .key ks, v, S, ⟨a, e, q, z⟩ => fun b p => by rw [z] at p; simp [fz] at p
  | .tup ds, v, S, ⟨a, xs, e, q, r⟩ => RepL.nt ds xs S r
  | .lst true ds, v, S, ⟨a, xs, T, e, q, r, f⟩ => fun b p => by
    by_cases z : b = a
    · rw [z]; exact ⟨_, q, rfl⟩
    · exact RepL.nt ds xs T r b (by rw [f] at p; simpa [fa, one, z] using p)
  | .lst false ds, v, S, ⟨a, xs, e, q, r⟩ => RepL.nt ds xs S r
  | .dK true ks ds, v, S, ⟨a, xs, T, e, q, n, r, f⟩ => fun b p => by
    by_cases z : b = a
    · rw [z]; exact ⟨_, q, rfl⟩
    · exact RepL.nt ds xs T r b (by rw [f] at p; simpa [fa, one, z] using p)
  | .dK false ks ds, v, S, ⟨a, xs, e, q, n, r⟩ => RepL.nt ds xs S r
  | .dT true ks ds, v, S, ⟨a, xs, T, e, q, n, r, f⟩ => fun b p => by
    by_cases z : b = a
    · rw [z]; exact ⟨_, q, rfl⟩
    · exact RepL.nt ds xs T r b (by rw [f] at p; simpa [fa, one, z] using p)
  | .dT false ks ds, v, S, ⟨a, xs, e, q, n, r⟩ => RepL.nt ds xs S r
  | .dN true ks ds, v, S, ⟨a, bs, xs, T, e, q, _, n, r, f⟩ => fun b p => by
    by_cases z : b = a
    · obtain ⟨_, q, _⟩ := q; rw [z]; exact ⟨_, q, rfl⟩
    · exact RepL.nt ds xs T r b (by rw [f] at p; simpa [fa, one, z] using p)
  | .dN false ks ds, v, S, ⟨a, bs, xs, e, q, _, n, r⟩ => RepL.nt ds xs S r
  | .obj true _ fs ds, v, S, ⟨a, dx, xs, T, e, q, n, r, f⟩ => fun b p => by
    by_cases z : b = a
    · rw [z]; exact ⟨_, q, rfl⟩
    · exact RepL.nt ds xs T r b (by rw [f] at p; simpa [fa, one, z] using p)
  | .obj false _ fs ds, v, S, ⟨a, dx, xs, e, q, n, r⟩ => RepL.nt ds xs S r
theorem RepL.nt {c : LC} {P H : Hp} : ∀ (ds : List D) (xs : List V) (S : FP), RepL c P H ds xs S → ∀ a, 0 < S a → ∃ o, H a = some o ∧ notTup o = true
  | [], xs, S, h => fun a p => by rw [h.2] at p; simp [fz] at p
  | d :: ds, xs, S, ⟨y, ys, T, U, e, r, rs, f⟩ => fun a p => by
    rw [f] at p
    by_cases z : 0 < T a
    · exact Rep.nt d y T r a z
    · exact RepL.nt ds ys U rs a (by simp only [fa] at p; omega)
end
theorem sqt_thaw {K : PySem.W.Frag} {H H' : Hp} {a : Addr} {xs : List V} (e : ∀ b o, H b = some o → notTup o = false → H' b = some o) (h : SqT K H a xs) : SqT K H' a xs := by
  rcases h with (h | ⟨o, h⟩) | h
  · exact .inl (.inl (e _ _ h rfl))
  · exact .inl (.inr ⟨o, e _ _ h rfl⟩)
  · exact .inr h
mutual
/-- what holds no frozen list asks of the frozen things for the tuples alone -/
theorem Rep.thaw {c : LC} {P P' H : Hp} (e : ∀ b o, P b = some o → notTup o = false → P' b = some o) : ∀ (d : D) (v : V) (S : FP), noIce d = true → Rep c P H d v S → Rep c P' H d v S
  | .gone, v, S, _, h => h
  | .non, v, S, _, h => h
  | .bl _, v, S, _, h => h
  | .int _, v, S, _, h => h
  | .str _, v, S, _, h => h
  | .scr ns, v, S, n, _ => by simp [noIce] at n
  | .kst ss, v, S, _, ⟨a, e1, q, z⟩ => ⟨a, e1, sqt_thaw e q, z⟩
  | .key ks, v, S, _, ⟨a, e1, q, z⟩ => ⟨a, e1, e _ _ q rfl, z⟩
  | .tup ds, v, S, n, ⟨a, xs, e1, q, r⟩ => ⟨a, xs, e1, sqt_thaw e q, RepL.thaw e ds xs S (by simpa [noIce] using n) r⟩
  | .lst true ds, v, S, n, ⟨a, xs, T, e1, q, r, f⟩ => ⟨a, xs, T, e1, q, RepL.thaw e ds xs T (by simpa [noIce] using n) r, f⟩
  | .lst false ds, v, S, n, _ => by simp [noIce] at n
  | .dK true ks ds, v, S, n, ⟨a, xs, T, e1, q, l, r, f⟩ => ⟨a, xs, T, e1, q, l, RepL.thaw e ds xs T (by simpa [noIce] using n) r, f⟩
  | .dK false ks ds, v, S, n, _ => by simp [noIce] at n
  | .dT true ks ds, v, S, n, ⟨a, xs, T, e1, q, l, r, f⟩ => ⟨a, xs, T, e1, q, l, RepL.thaw e ds xs T (by simpa [noIce] using n) r, f⟩
  | .dT false ks ds, v, S, n, _ => by simp [noIce] at n
  | .dN true ks ds, v, S, n, ⟨a, bs, xs, T, e1, q, z, l, r, f⟩ => ⟨a, bs, xs, T, e1, q, z.mono fun _ _ => sqt_thaw e, l, RepL.thaw e ds xs T (by simpa [noIce] using n) r, f⟩
  | .dN false ks ds, v, S, n, _ => by simp [noIce] at n
  | .obj true _ fs ds, v, S, n, ⟨a, dx, xs, T, e1, q, l, r, f⟩ => ⟨a, dx, xs, T, e1, q, l, RepL.thaw e ds xs T (by simpa [noIce] using n) r, f⟩
  | .obj false _ fs ds, v, S, n, _ => by simp [noIce] at n
theorem RepL.thaw {c : LC} {P P' H : Hp} (e : ∀ b o, P b = some o → notTup o = false → P' b = some o) : ∀ (ds : List D) (xs : List V) (S : FP), noIceL ds = true → RepL c P H ds xs S → RepL c P' H ds xs S
  | [], xs, S, _, h => h
  | d :: ds, xs, S, n, ⟨y, ys, T, U, e1, r, rs, f⟩ => by
    rw [noIceL, Bool.and_eq_true] at n
    exact ⟨y, ys, T, U, e1, Rep.thaw e d y T n.1 r, RepL.thaw e ds ys U n.2 rs, f⟩
end
end LI

namespace LI
open PySem L2

structure En where
  P0 : Hp
  H0 : Hp
  S0 : FP
  kp : List Bool
  vs : List V
  hv : ∀ i : Nat, kp[i]? = some true → ∃ v, vs[i]? = some v
  xw : WX

def RepO (c : LC) (P H : Hp) (d : D) : Option V → FP → Prop
  | some v, T => Rep c P H d v T
  | none, T => d = .gone ∧ T = fz
def RepE (c : LC) (P H : Hp) : List D → St → FP → Prop
  | [], [], S => S = fz
  | d :: ds, ov :: σ, S => ∃ T U, RepO c P H d ov T ∧ RepE c P H ds σ U ∧ S = fa T U
  | _, _, _ => False

structure Wd (c : LC) (E : En) (P : Hp) (S T : FP) (σ : St) (H : Hp) (ρ : List D) : Prop where
  env : RepE c P H ρ σ S
  le : ∀ a, S a + T a ≤ 1
  out : ∀ a, 0 < S a + T a → P a = none
  th : ∀ a, 0 < T a → H a ≠ none
  ph : Ex P H
  p0 : Ex E.P0 P
  fr : ∀ a o, E.S0 a = 0 → E.H0 a = some o → H a = some o
  np : ∀ a, P a ≠ none → E.P0 a ≠ none ∨ 0 < E.S0 a ∨ E.H0 a = none
  ns : ∀ a, 0 < S a + T a → 0 < E.S0 a ∨ E.H0 a = none
  kp : ∀ (i : Nat) (v : V), E.kp[i]? = some true → E.vs[i]? = some v → σ[i]? = some (some v)

structure Gr (P H P' H' : Hp) : Prop where
  p : Ex P P'
  h : Ex H H'
  ph : Ex P' H'
  new : ∀ a, P' a ≠ none → P a ≠ none ∨ H a = none
theorem Gr.refl {P H : Hp} (e : Ex P H) : Gr P H P H := ⟨.refl _, .refl _, e, fun _ h => .inl h⟩
theorem Gr.trans {P H P1 H1 P2 H2 : Hp} (a : Gr P H P1 H1) (b : Gr P1 H1 P2 H2) : Gr P H P2 H2 :=
  ⟨a.p.trans b.p, a.h.trans b.h, b.ph, fun x h => by
    rcases b.new x h with q | q
    · exact a.new x q
    · cases z : H x with
      | none => exact .inr rfl
      | some o => rw [a.h x o z] at q; cases q⟩

theorem RepO.mono {c : LC} {P H P' H' : Hp} (eP : Ex P P') {d : D} {v : Option V} {S : FP} (k : ∀ a o, 0 < S a → H a = some o → H' a = some o) (h : RepO c P H d v S) : RepO c P' H' d v S := by
  cases v with
  | none => exact h
  | some v => exact Rep.mono eP d v S k h
theorem RepE.mono {c : LC} {P H P' H' : Hp} (eP : Ex P P') : ∀ (ρ : List D) (σ : St) (S : FP), (∀ a o, 0 < S a → H a = some o → H' a = some o) → RepE c P H ρ σ S → RepE c P' H' ρ σ S
  | [], [], S, _, h => h
  | d :: ds, v :: σ, S, k, ⟨T, U, r, rs, f⟩ => ⟨T, U, RepO.mono eP (fun b o hb => k b o (by rw [f]; simp only [fa]; omega)) r, RepE.mono eP ds σ U (fun b o hb => k b o (by rw [f]; simp only [fa]; omega)) rs, f⟩
  | [], _ :: _, _, _, h => h.elim
  | _ :: _, [], _, _, h => h.elim
theorem RepO.there {c : LC} {P H : Hp} {d : D} {v : Option V} {S : FP} (h : RepO c P H d v S) : ∀ a, 0 < S a → H a ≠ none := by
  cases v with
  | none => intro a p; rw [h.2] at p; simp [fz] at p
  | some v => exact Rep.there d v S h
theorem RepE.there {c : LC} {P H : Hp} : ∀ (ρ : List D) (σ : St) (S : FP), RepE c P H ρ σ S → ∀ a, 0 < S a → H a ≠ none
  | [], [], S, h => fun a p => by rw [show S = fz from h] at p; simp [fz] at p
  | d :: ds, v :: σ, S, ⟨T, U, r, rs, f⟩ => fun a p => by
    rw [f] at p
    by_cases z : 0 < T a
    · exact r.there a z
    · exact RepE.there ds σ U rs a (by simp only [fa] at p; omega)
  | [], _ :: _, _, h => h.elim
  | _ :: _, [], _, h => h.elim
section
variable {c : LC} {E : En} {P P' : Hp} {S T : FP} {σ : St} {H H' : Hp} {ρ : List D}
theorem Wd.grow (w : Wd c E P S T σ H ρ) (g : Gr P H P' H') : Wd c E P' S T σ H' ρ where
  env := w.env.mono g.p ρ σ S (fun a o _ h => g.h a o h)
  le := w.le
  out := fun a h => by
    cases z : P' a with
    | none => rfl
    | some o =>
      rcases g.new a (by rw [z]; simp) with q | q
      · exact absurd (w.out a h) q
      · by_cases hT : 0 < T a
        · exact absurd q (w.th a hT)
        · exact absurd q (RepE.there ρ σ S w.env a (by omega))
  th := fun a h z => by
    cases q : H a with
    | none => exact w.th a h q
    | some o => rw [g.h a o q] at z; cases z
  ph := g.ph
  p0 := w.p0.trans g.p
  fr := fun a o h1 h2 => g.h a o (w.fr a o h1 h2)
  np := fun a h => by
    rcases g.new a h with q | q
    · exact w.np a q
    · cases z : E.H0 a with
      | none => exact .inr (.inr rfl)
      | some o =>
        by_cases hs : E.S0 a = 0
        · rw [w.fr a o hs z] at q; cases q
        · exact .inr (.inl (by omega))
  ns := w.ns
  kp := w.kp
theorem Wd.aside (w : Wd c E P S T σ H ρ) (g : Gr P H P' H') {U : FP} (h1 : ∀ a, U a ≤ 1) (h2 : ∀ a, 0 < U a → H a = none ∧ P' a = none) (h3 : ∀ a, 0 < U a → H' a ≠ none) : Wd c E P' S (fa T U) σ H' ρ := by
  have w' := w.grow g
  have hS : ∀ a, 0 < U a → S a = 0 ∧ T a = 0 := fun a h => by
    have n := (h2 a h).1
    refine ⟨?_, ?_⟩
    · rcases Nat.eq_zero_or_pos (S a) with z | z
      · exact z
      · exact absurd n (RepE.there ρ σ S w.env a z)
    · rcases Nat.eq_zero_or_pos (T a) with z | z
      · exact z
      · exact absurd n (w.th a z)
  refine ⟨w'.env, fun a => ?_, fun a h => ?_, fun a h => ?_, w'.ph, w'.p0, w'.fr, w'.np, fun a h => ?_, w'.kp⟩
  · by_cases z : 0 < U a
    · have := hS a z; have := h1 a; simp only [fa]; omega
    · have := w.le a; simp only [fa]; omega
  · by_cases z : 0 < U a
    · exact (h2 a z).2
    · exact w'.out a (by simp only [fa] at h; omega)
  · by_cases z : 0 < U a
    · exact h3 a z
    · exact w'.th a (by simp only [fa] at h; omega)
  · by_cases z : 0 < U a
    · have n := (h2 a z).1
      cases q : E.H0 a with
      | none => exact .inr rfl
      | some o =>
        by_cases hs : E.S0 a = 0
        · rw [w.fr a o hs q] at n; cases n
        · exact .inl (by omega)
    · exact w'.ns a (by simp only [fa] at h; omega)
end

abbrev RM := List D → Option D
abbrev GM := List D → Option (D × List D)
abbrev BM := List D → Option Bool
abbrev BGM := List D → Option (Bool × List D)
def RQ (c : LC) (P H : Hp) (d : D) (Q : VK) : Prop := ∀ v H' P' U, Gr P H P' H' → Rep c P' H' d v U → Q v H'
def FQ (c : LC) (P H : Hp) (d : D) (Q : VK) : Prop := ∀ v H' P' U, Gr P H P' H' → Rep c P' H' d v U → (∀ a, U a ≤ 1) → (∀ a, 0 < U a → H a = none ∧ P' a = none) → Q v H'
def tR (c : LC) (E : En) (m : RM) : TE := fun σ H Q => ∃ P S T ρ d, Wd c E P S T σ H ρ ∧ m ρ = some d ∧ RQ c P H d Q
def tF (c : LC) (E : En) (m : RM) : TE := fun σ H Q => ∃ P S T ρ d, Wd c E P S T σ H ρ ∧ m ρ = some d ∧ FQ c P H d Q
def tG (c : LC) (E : En) (m : GM) : TE := fun σ H Q => ∃ P S T ρ d ρ', Wd c E P S T σ H ρ ∧ m ρ = some (d, ρ') ∧
  ∀ v H' P' S' U, Wd c E P' S' (fa T U) σ H' ρ' → Ex P P' → Rep c P' H' d v U → (∀ a o, 0 < T a → H a = some o → H' a = some o) → Q v H'
def tT (c : LC) (E : En) (m : BM) : TT := fun σ H Q => ∃ P S T ρ b, Wd c E P S T σ H ρ ∧ m ρ = some b ∧ ∀ H' P', Gr P H P' H' → Q b H'
theorem PE_imp {X : Cx} {e : Expr} {t t' : TE} (h : PE X e t) (k : ∀ σ H Q, t' σ H Q → t σ H Q) : PE X e t' := ⟨fun pins s σ H Q I q => h.run pins s σ H Q I (k σ H Q q)⟩
theorem PT_imp {X : Cx} {e : Expr} {t t' : TT} (h : PT X e t) (k : ∀ σ H Q, t' σ H Q → t σ H Q) : PT X e t' := ⟨fun pins s σ H Q I q => h.run pins s σ H Q I (k σ H Q q)⟩
theorem PW_imp {X : Cx} {e : Expr} {t t' : TT} (h : PW X e t) (k : ∀ σ H Q, t' σ H Q → t σ H Q) : PW X e t' := ⟨fun whole pins s σ H Q I q => h.run whole pins s σ H Q I (k σ H Q q)⟩
theorem PA_imp {X : Cx} {e : List Expr} {t t' : TA} (h : PA X e t) (k : ∀ σ H Q, t' σ H Q → t σ H Q) : PA X e t' := ⟨fun pos pins s σ H Q I q => h.run pos pins s σ H Q I (k σ H Q q)⟩
theorem PS_imp {X : Cx} {e : Stmt} {t t' : TS} (h : PS X e t) (k : ∀ D σ H, t' D σ H → t D σ H) : PS X e t' := ⟨fun pins s σ H D I q => h.run pins s σ H D I (k D σ H q)⟩
theorem PSs_imp {X : Cx} {e : List Stmt} {t t' : TS} (h : PSs X e t) (k : ∀ D σ H, t' D σ H → t D σ H) : PSs X e t' := ⟨fun pins s σ H D I q => h.run pins s σ H D I (k D σ H q)⟩

section
variable {c : LC} {E : En} {P P' : Hp} {S T : FP} {σ : St} {H H' : Hp} {ρ : List D} {X : Cx} {e : Expr} {m : RM}
theorem FQ.of_R {d : D} {Q : VK} (h : RQ c P H d Q) : FQ c P H d Q := fun v H' P' U g r _ _ => h v H' P' U g r
theorem FQ.flat {d : D} {v : V} {Q : VK} (h : FQ c P H d Q) (e : Ex P H) (r : Rep c P H d v fz) : Q v H :=
  h v H P fz (.refl e) r (fun _ => Nat.zero_le _) fun a p => by simp [fz] at p
theorem r_f (h : PE X e (tF c E m)) : PE X e (tR c E m) := PE_imp h fun σ H Q ⟨P, S, T, ρ, d, w, hm, q⟩ => ⟨P, S, T, ρ, d, w, hm, .of_R q⟩
def upF (m : RM) : GM := fun ρ => (m ρ).map fun d => (d, ρ)
def upR (m : RM) : GM := fun ρ => (m ρ).bind fun d => if frz d = true then some (d, ρ) else none
theorem g_f (h : PE X e (tF c E m)) : PE X e (tG c E (upF m)) := PE_imp h fun σ H Q ⟨P, S, T, ρ, d, ρ', w, hm, q⟩ => by
  unfold upF at hm
  cases hd : m ρ with
  | none => rw [hd] at hm; cases hm
  | some d1 =>
    rw [hd] at hm
    cases hm
    exact ⟨P, S, T, ρ, d, w, hd, fun v H' P' U g r u1 u2 => q v H' P' S U (w.aside g u1 u2 (Rep.there d v U r)) g.p r fun a o _ h => g.h a o h⟩
theorem g_r (h : PE X e (tR c E m)) : PE X e (tG c E (upR m)) := PE_imp h fun σ H Q ⟨P, S, T, ρ, d, ρ', w, hm, q⟩ => by
  unfold upR at hm
  cases hd : m ρ with
  | none => rw [hd] at hm; cases hm
  | some d1 =>
    rw [hd] at hm
    simp only [Option.bind_some] at hm
    split at hm
    · rename_i hf
      cases hm
      refine ⟨P, S, T, ρ, d, w, hd, fun v H' P' U g r => ?_⟩
      have e := Rep.frz0 d v U hf r
      subst e
      exact q v H' P' S fz (w.aside g (fun _ => Nat.zero_le _) (fun a p => by simp [fz] at p) (fun a p => by simp [fz] at p)) g.p r fun a o _ h => g.h a o h
    · cases hm
def coldM (m : RM) : RM := fun ρ => (m ρ).map ice
theorem f_cold (h : PE X e (tF c E m)) : PE X e (tF c E (coldM m)) := PE_imp h fun σ H Q ⟨P, S, T, ρ, d, w, hm, q⟩ => by
  unfold coldM at hm
  cases hd : m ρ with
  | none => rw [hd] at hm; cases hm
  | some d1 =>
    rw [hd] at hm
    cases hm
    refine ⟨P, S, T, ρ, d1, w, hd, fun v H' P' U g r u1 u2 => ?_⟩
    have r2 : Rep c (fun a => if 0 < U a then H' a else P' a) H' (ice d1) v fz := Rep.ice (fun a o z => by
        by_cases hu : 0 < U a
        · rw [(u2 a hu).2] at z; cases z
        · simp [hu, z]) d1 v U (fun a o hu hh => by simp [hu, hh]) r
    refine q v H' _ fz ⟨fun a o z => ?_, g.h, fun a o z => ?_, fun a z => ?_⟩ r2 (fun _ => Nat.zero_le _) (fun a p => by simp [fz] at p)
    · by_cases hu : 0 < U a
      · have := (u2 a hu).2; rw [g.p a o z] at this; cases this
      · simp [hu, g.p a o z]
    · by_cases hu : 0 < U a
      · simpa [hu] using z
      · exact g.ph a o (by simpa [hu] using z)
    · by_cases hu : 0 < U a
      · exact .inr (u2 a hu).1
      · exact g.new a (by simpa [hu] using z)
end
end LI

namespace LI
open PySem L2

def LIM : Nat := 4000000
theorem lim_le {n : Nat} (h : n ≤ LIM) : n ≤ sizeLine := Nat.le_trans h (by decide)
theorem lim_lt {n : Nat} (h : n < LIM) : n < sizeLine := Nat.lt_of_lt_of_le h (by decide)

theorem RepL.length {c : LC} {P H : Hp} : ∀ {ds : List D} {xs : List V} {S : FP}, RepL c P H ds xs S → ds.length = xs.length
  | [], xs, S, h => by rw [h.1]; rfl
  | d :: ds, xs, S, ⟨y, ys, T, U, e, _, rs, _⟩ => by rw [e]; simp [RepL.length rs]
theorem RepL.append {c : LC} {P H : Hp} : ∀ {ds es : List D} {xs ys : List V} {S T : FP}, RepL c P H ds xs S → RepL c P H es ys T → RepL c P H (ds ++ es) (xs ++ ys) (fa S T)
  | [], es, xs, ys, S, T, h, k => by rw [h.1, h.2, fz_fa]; exact k
  | d :: ds, es, xs, ys, S, T, ⟨y, zs, A, B, e, r, rs, f⟩, k => by
    rw [e, f]
    exact ⟨y, zs ++ ys, A, fa B T, rfl, r, RepL.append rs k, by funext a; simp only [fa]; omega⟩
theorem RepL.get {c : LC} {P H : Hp} : ∀ {ds : List D} {xs : List V} {S : FP} {i : Nat} {d : D}, RepL c P H ds xs S → ds[i]? = some d → ∃ x T, xs[i]? = some x ∧ Rep c P H d x T ∧ ∀ a, T a ≤ S a
  | [], xs, S, i, d, h, e => by simp at e
  | d0 :: ds, xs, S, 0, d, ⟨y, zs, A, B, e, r, rs, f⟩, q => by
    simp at q; subst q
    exact ⟨y, A, by rw [e]; rfl, r, fun a => by rw [f]; simp only [fa]; omega⟩
  | d0 :: ds, xs, S, i + 1, d, ⟨y, zs, A, B, e, r, rs, f⟩, q => by
    obtain ⟨x, T, h1, h2, h3⟩ := RepL.get (i := i) (d := d) rs (by simpa using q)
    exact ⟨x, T, by rw [e]; simpa using h1, h2, fun a => by have := h3 a; rw [f]; simp only [fa]; omega⟩
theorem frzL_iff : ∀ {ds : List D}, frzL ds = true ↔ ∀ d ∈ ds, frz d = true
  | [] => by simp [frzL]
  | d :: ds => by simp [frzL, frzL_iff (ds := ds)]
theorem RepL.drop {c : LC} {P H : Hp} : ∀ {ds : List D} {xs : List V} (n : Nat), RepL c P H ds xs fz → RepL c P H (ds.drop n) (xs.drop n) fz
  | ds, xs, 0, h => h
  | [], xs, n + 1, h => by rw [h.1]; exact ⟨rfl, rfl⟩
  | d :: ds, xs, n + 1, ⟨y, zs, A, B, e, r, rs, f⟩ => by
    have hB : B = fz := by
      funext a
      have := congrFun f a
      simp only [fa, fz] at this ⊢
      omega
    subst hB
    rw [e]
    exact RepL.drop n rs
theorem RepL.take {c : LC} {P H : Hp} : ∀ {ds : List D} {xs : List V} (n : Nat), RepL c P H ds xs fz → RepL c P H (ds.take n) (xs.take n) fz
  | ds, xs, 0, h => ⟨rfl, rfl⟩
  | [], xs, n + 1, h => by rw [h.1]; exact ⟨rfl, rfl⟩
  | d :: ds, xs, n + 1, ⟨y, zs, A, B, e, r, rs, f⟩ => by
    have hB : A = fz ∧ B = fz := by
      refine ⟨?_, ?_⟩ <;> funext a <;> (have := congrFun f a; simp only [fa, fz] at this ⊢; omega)
    obtain ⟨rfl, rfl⟩ := hB
    rw [e]
    exact ⟨y, zs.take n, fz, fz, rfl, r, RepL.take n rs, (fa_fz fz).symm⟩
theorem RepL.rep {c : LC} {P H : Hp} {ds : List D} {xs : List V} (h : RepL c P H ds xs fz) : ∀ n : Nat, RepL c P H (List.replicate n ds).flatten (List.replicate n xs).flatten fz
  | 0 => ⟨rfl, rfl⟩
  | n + 1 => by
    have := RepL.append h (RepL.rep h n)
    rw [fa_fz] at this
    simpa [List.replicate_succ] using this

section
variable {c : LC} {P H : Hp} {Q : VK}
theorem none_of {a : Addr} (e : Ex P H) (h : H a = none) : P a = none := by
  cases z : P a with
  | none => rfl
  | some o => rw [e a o z] at h; cases h
theorem ex_new {p : Addr} {o : HO} (h : H p = none) : Ex H (upd H p o) := fun a u e => by
  rw [upd_ne (ne_of_none e h)]; exact e
theorem one_le {p : Addr} : ∀ a, one p a ≤ 1 := fun a => by unfold one; split <;> omega
theorem one_pos {p a : Addr} (h : 0 < one p a) : a = p := by unfold one at h; split at h <;> first | assumption | omega
theorem FQ.lst {ds : List D} {xs : List V} (h : FQ c P H (.lst true ds) Q) (e : Ex P H) (r : RepL c P H ds xs fz) : ∀ p, H p = none → Q (.ref p) (upd H p (.lst xs)) := fun p hp => by
  refine h _ _ P (one p) ⟨.refl _, ex_new hp, e.trans (ex_new hp), fun _ z => .inl z⟩ ⟨p, xs, fz, rfl, upd_same, RepL.mono (.refl _) ds xs fz (fun a o z _ => by simp [fz] at z) r, (fa_fz _).symm⟩ one_le fun a z => ?_
  rw [one_pos z]
  exact ⟨hp, none_of e hp⟩
theorem FQ.tup {ds : List D} {xs : List V} (h : FQ c P H (.tup ds) Q) (e : Ex P H) (r : RepL c P H ds xs fz) : ∀ p, H p = none → Q (.ref p) (upd H p (.tup xs)) := fun p hp => by
  have hP := none_of e hp
  refine h _ _ (upd P p (.tup xs)) fz ⟨ex_new hP, ex_new hp, fun a o z => ?_, fun a z => ?_⟩ ⟨p, xs, rfl, .inl (.inl upd_same), RepL.mono (ex_new hP) ds xs fz (fun a o z _ => by simp [fz] at z) r⟩ (fun _ => Nat.zero_le _) (fun a z => by simp [fz] at z)
  · by_cases q : a = p
    · subst q; rw [upd_same] at z ⊢; exact z
    · rw [upd_ne q] at z ⊢; exact e a o z
  · by_cases q : a = p
    · subst q; exact .inr hp
    · rw [upd_ne q] at z; exact .inl z
theorem FQ.grow {P2 H2 : Hp} {d : D} (h : FQ c P H d Q) (g : Gr P H P2 H2) : FQ c P2 H2 d Q := fun v H' P' U g2 r u1 u2 => h v H' P' U (g.trans g2) r u1 fun a z => by
  obtain ⟨n1, n2⟩ := u2 a z
  refine ⟨?_, n2⟩
  cases q : H a with
  | none => rfl
  | some o => rw [g.h a o q] at n1; cases n1
theorem Rep.gr {P2 H2 : Hp} {d : D} {v : V} {S : FP} (r : Rep c P H d v S) (g : Gr P H P2 H2) : Rep c P2 H2 d v S := Rep.mono g.p d v S (fun a o _ h => g.h a o h) r
theorem RepL.gr {P2 H2 : Hp} {d : List D} {v : List V} {S : FP} (r : RepL c P H d v S) (g : Gr P H P2 H2) : RepL c P2 H2 d v S := RepL.mono g.p d v S (fun a o _ h => g.h a o h) r
end

def m2 (f : D → D → Option D) (ma mb : RM) : RM := fun ρ => (ma ρ).bind fun x => (mb ρ).bind fun y => f x y
def m1 (f : D → Option D) (ma : RM) : RM := fun ρ => (ma ρ).bind f
def Op2 (c : LC) (r : R2) (f : D → D → Option D) : Prop := ∀ (P H : Hp), Ex P H → ∀ da db d x y U1 U2, f da db = some d → Rep c P H da x U1 → Rep c P H db y U2 → ∀ Q, FQ c P H d Q → r x y H Q
section
variable {X : Cx} {cl : Nat → Addr} {E : En} {a b : Expr} {pos : Pos} {ma mb : RM} {r : R2} {f : D → D → Option D}
theorem op2_run (hf : Op2 ⟨X.K, cl, X.w⟩ r f) {σ : L2.St} {H : Hp} {Q : VK} (h : tF ⟨X.K, cl, X.w⟩ E (m2 f ma mb) σ H Q) : tOp r (tR ⟨X.K, cl, X.w⟩ E ma) (tR ⟨X.K, cl, X.w⟩ E mb) σ H Q := by
  obtain ⟨P, S, T, ρ, d, w, hm, q⟩ := h
  unfold m2 at hm
  cases ea : ma ρ with
  | none => rw [ea] at hm; cases hm
  | some da =>
    cases eb : mb ρ with
    | none => rw [ea, eb] at hm; cases hm
    | some db =>
      rw [ea, eb] at hm
      refine ⟨P, S, T, ρ, da, w, ea, fun x H1 P1 U1 g1 r1 => ⟨P1, S, T, ρ, db, w.grow g1, eb, fun y H2 P2 U2 g2 r2 => ?_⟩⟩
      exact hf P2 H2 g2.ph _ _ _ _ _ _ _ hm (r1.gr g2) r2 Q (q.grow (g1.trans g2))
theorem f_bin {op : Operator} (ho : OpR X (binaryOp op) r) (hf : Op2 ⟨X.K, cl, X.w⟩ r f) (ha : PE X a (tR ⟨X.K, cl, X.w⟩ E ma)) (hb : PE X b (tR ⟨X.K, cl, X.w⟩ E mb)) : PE X (.BinOp a op b pos) (tF ⟨X.K, cl, X.w⟩ E (m2 f ma mb)) :=
  PE_imp (pe_op ho ha hb) fun _ _ _ h => op2_run hf h
theorem f_cmp {op : CmpOp} (ho : OpR X (compareOp op) r) (hf : Op2 ⟨X.K, cl, X.w⟩ r f) (ha : PE X a (tR ⟨X.K, cl, X.w⟩ E ma)) (hb : PE X b (tR ⟨X.K, cl, X.w⟩ E mb)) (hm : behindInMarks op b = false) : PE X (.Compare a [op] [b] pos) (tF ⟨X.K, cl, X.w⟩ E (m2 f ma mb)) :=
  PE_imp (pe_cmpR ho ha hb hm) fun _ _ _ h => op2_run hf h
def bM (m : RM) : BM := fun ρ => (m ρ).bind fun d => match d with | .bl b => some b | _ => none
theorem bM_some {m : RM} {ρ : List D} {b : Bool} (h : bM m ρ = some b) : m ρ = some (.bl b) := by
  unfold bM at h
  cases e : m ρ with
  | none => rw [e] at h; cases h
  | some d =>
    rw [e] at h
    cases d with
    | bl k => simp at h; rw [h]
    | _ => simp at h
theorem t_test {e : Expr} {m : RM} {t : TE} (h : PT X e (tTest t)) (k : ∀ σ H Q, tF ⟨X.K, cl, X.w⟩ E m σ H Q → t σ H Q) : PT X e (tT ⟨X.K, cl, X.w⟩ E (bM m)) :=
  PT_imp h fun σ H Q ⟨P, S, T, ρ, b, w, hm, q⟩ => k σ H _ ⟨P, S, T, ρ, .bl b, w, bM_some hm, fun v H' P' U g r _ _ => ⟨b, r.1, q H' P' g⟩⟩
theorem t_cmp {op : CmpOp} (ho : OpR X (compareOp op) r) (hf : Op2 ⟨X.K, cl, X.w⟩ r f) (ha : PE X a (tR ⟨X.K, cl, X.w⟩ E ma)) (hb : PE X b (tR ⟨X.K, cl, X.w⟩ E mb)) (hm : behindInMarks op b = false) : PT X (.Compare a [op] [b] pos) (tT ⟨X.K, cl, X.w⟩ E (bM (m2 f ma mb))) :=
  t_test (pt_cmpR ho ha hb hm) fun _ _ _ h => op2_run hf h
end
theorem OpR_or {X : Cx} {g : Value → Value → Sem Value} {r r' : R2} (h : OpR X g r) (h' : OpR X g r') : OpR X g (fun x y H Q => r x y H Q ∨ r' x y H Q) := fun pins s σ H x y v u Q I rx ry q => q.elim (h pins s σ H x y v u Q I rx ry) (h' pins s σ H x y v u Q I rx ry)

def addD : D → D → Option D
  | .int a, .int b => some (.int (a + b))
  | .str a, .str b => if a.length + b.length ≤ LIM then some (.str (a ++ b)) else none
  | .lst _ a, .lst _ b => if (frzL a && frzL b) = true ∧ a.length + b.length ≤ LIM then some (.lst true (a ++ b)) else none
  | .tup a, .tup b => if (frzL a && frzL b) = true ∧ a.length + b.length ≤ LIM then some (.tup (a ++ b)) else none
  | _, _ => none
def rAddA (K : PySem.W.Frag) : R2 := fun x y H Q => (rI0 (fun i j => .int (i + j))) x y H Q ∨ (∃ i j, x = .str i ∧ y = .str j ∧ i.length + j.length ≤ sizeLine ∧ Q (.str (i ++ j)) H) ∨ rCat x y H Q ∨ rCatA K x y H Q
section
variable {X : Cx} {c : LC}
theorem opr_add : OpR X (binaryOp .Add) (rAddA X.K) := OpR_or op_add (OpR_or op_add_str (OpR_or op_cat op_catA))
theorem lst_heap {P H : Hp} (e : Ex P H) {o : Bool} {ds : List D} {v : V} {U : FP} (r : Rep c P H (.lst o ds) v U) : ∃ a xs T, v = .ref a ∧ H a = some (.lst xs) ∧ RepL c P H ds xs T ∧ ∀ a, T a ≤ U a := by
  cases o with
  | true =>
    obtain ⟨a, xs, T, e1, h, rl, f⟩ := r
    exact ⟨a, xs, T, e1, h, rl, fun b => by rw [f]; simp only [fa]; omega⟩
  | false =>
    obtain ⟨a, xs, e1, h, rl⟩ := r
    exact ⟨a, xs, U, e1, e _ _ h, rl, fun _ => Nat.le_refl _⟩
theorem lst_heap0 {P H : Hp} (e : Ex P H) {o : Bool} {ds : List D} {v : V} {U : FP} (r : Rep c P H (.lst o ds) v U) (hf : frzL ds = true) : ∃ a xs, v = .ref a ∧ H a = some (.lst xs) ∧ RepL c P H ds xs fz := by
  obtain ⟨a, xs, T, e1, h, rl, _⟩ := lst_heap e r
  have z := RepL.frz0 ds xs T hf rl
  subst z
  exact ⟨a, xs, e1, h, rl⟩
theorem tup_heap0 {P H : Hp} (e : Ex P H) {ds : List D} {v : V} {U : FP} (r : Rep c P H (.tup ds) v U) (hf : frzL ds = true) : ∃ a xs, v = .ref a ∧ SqT c.K H a xs ∧ SqT c.K P a xs ∧ RepL c P H ds xs fz := by
  obtain ⟨a, xs, e1, h, rl⟩ := r
  have z := RepL.frz0 ds xs U hf rl
  subst z
  exact ⟨a, xs, e1, sqt_mono e h, h, rl⟩
theorem str_app (a b : List Nat) : (⟨a.toArray⟩ : Str) ++ (⟨b.toArray⟩ : Str) = ⟨(a ++ b).toArray⟩ := by
  show (Str.mk (a.toArray ++ b.toArray)) = _
  simp
theorem str_len (a : List Nat) : (⟨a.toArray⟩ : Str).length = a.length := by
  show a.toArray.size = _
  simp
theorem op_addD : Op2 c (rAddA c.K) addD := by
  intro P H e da db d x y U1 U2 hf r1 r2 Q q
  unfold addD at hf
  split at hf
  · rename_i a b
    cases hf
    exact .inl ⟨a, b, r1.1, r2.1, q.flat e ⟨rfl, rfl⟩⟩
  · rename_i a b
    split at hf
    · rename_i hl
      cases hf
      refine .inr (.inl ⟨_, _, r1.1, r2.1, ?_, ?_⟩)
      · rw [str_len, str_len]; exact lim_le hl
      · rw [str_app]; exact q.flat e ⟨rfl, rfl⟩
    · cases hf
  · rename_i o1 a o2 b
    split at hf
    · rename_i hl
      obtain ⟨hz, hl⟩ := hl
      simp only [Bool.and_eq_true] at hz
      cases hf
      obtain ⟨p1, xs, rfl, h1, l1⟩ := lst_heap0 e r1 hz.1
      obtain ⟨p2, ys, rfl, h2, l2⟩ := lst_heap0 e r2 hz.2
      refine .inr (.inr (.inl ⟨p1, p2, xs, ys, rfl, rfl, h1, h2, ?_, q.lst e ?_⟩))
      · rw [← l1.length, ← l2.length]; exact lim_le hl
      · have := l1.append l2; rwa [fa_fz] at this
    · cases hf
  · rename_i a b
    split at hf
    · rename_i hl
      obtain ⟨hz, hl⟩ := hl
      simp only [Bool.and_eq_true] at hz
      cases hf
      obtain ⟨p1, xs, rfl, h1, h1', l1⟩ := tup_heap0 e r1 hz.1
      obtain ⟨p2, ys, rfl, h2, h2', l2⟩ := tup_heap0 e r2 hz.2
      have ll := l1.append l2
      rw [fa_fz] at ll
      refine .inr (.inr (.inr ⟨p1, p2, xs, ys, rfl, rfl, h1, h2, ?_, ?_⟩))
      · rw [← l1.length, ← l2.length]; exact lim_le hl
      · refine ⟨fun z => ?_, fun _ z => ?_, fun _ _ => q.tup e ll⟩
        · subst z
          have h0 : a = [] := by have := l1.length; simpa using this
          subst h0
          exact q.flat e ⟨p2, ys, rfl, h2', l2⟩
        · subst z
          have h0 : b = [] := by have := l2.length; simpa using this
          subst h0
          exact q.flat e ⟨p1, xs, rfl, h1', by simpa using l1⟩
    · cases hf
  · cases hf

theorem op_i0 {g : Int → Int → V} {gd : Int → Int → D} {f : D → D → Option D} (hf : ∀ a b d, f a b = some d → ∃ i j, a = .int i ∧ b = .int j ∧ d = gd i j) (hg : ∀ (P H : Hp) i j, Rep c P H (gd i j) (g i j) fz) : Op2 c (rI0 g) f := by
  intro P H e da db d x y U1 U2 h r1 r2 Q q
  obtain ⟨i, j, rfl, rfl, rfl⟩ := hf _ _ _ h
  exact ⟨i, j, r1.1, r2.1, q.flat e (hg P H i j)⟩
theorem op_i {C : Int → Int → Prop} {g : Int → Int → V} {gd : Int → Int → D} {f : D → D → Option D} (hf : ∀ a b d, f a b = some d → ∃ i j, a = .int i ∧ b = .int j ∧ d = gd i j ∧ C i j) (hg : ∀ (P H : Hp) i j, Rep c P H (gd i j) (g i j) fz) : Op2 c (rI C g) f := by
  intro P H e da db d x y U1 U2 h r1 r2 Q q
  obtain ⟨i, j, rfl, rfl, rfl, hc⟩ := hf _ _ _ h
  exact ⟨i, j, r1.1, r2.1, hc, q.flat e (hg P H i j)⟩
def subD : D → D → Option D
  | .int a, .int b => some (.int (a - b))
  | _, _ => none
theorem op_subD : Op2 c (rI0 fun i j => .int (i - j)) subD := op_i0 (gd := fun i j => .int (i - j)) (fun a b d h => by
  unfold subD at h; split at h
  · cases h; exact ⟨_, _, rfl, rfl, rfl⟩
  · cases h) fun _ _ _ _ => ⟨rfl, rfl⟩
def fdivD : D → D → Option D
  | .int a, .int b => if 0 < b ∧ b.natAbs.log2 < 9000 then some (.int (a / b)) else none
  | _, _ => none
theorem op_fdivD : Op2 c (rI CDivW fun i j => .int (i / j)) fdivD := op_i (gd := fun i j => .int (i / j)) (fun a b d h => by
  unfold fdivD at h; split at h
  · split at h
    · cases h; exact ⟨_, _, rfl, rfl, rfl, by assumption⟩
    · cases h
  · cases h) fun _ _ _ _ => ⟨rfl, rfl⟩
def modD : D → D → Option D
  | .int a, .int b => if 0 < b then some (.int (a % b)) else none
  | _, _ => none
theorem op_modD : Op2 c (rI (fun _ j => 0 < j) fun i j => .int (i % j)) modD := op_i (gd := fun i j => .int (i % j)) (fun a b d h => by
  unfold modD at h; split at h
  · split at h
    · cases h; exact ⟨_, _, rfl, rfl, rfl, by assumption⟩
    · cases h
  · cases h) fun _ _ _ _ => ⟨rfl, rfl⟩
def powD : D → D → Option D
  | .int a, .int b => if 0 ≤ b ∧ b ≤ 1000000 ∧ a.natAbs < 2 ^ 64 then some (.int (a ^ b.toNat)) else none
  | _, _ => none
theorem op_powD : Op2 c (rI CPow fun i j => .int (i ^ j.toNat)) powD := op_i (gd := fun i j => .int (i ^ j.toNat)) (fun a b d h => by
  unfold powD at h; split at h
  · split at h
    · cases h; exact ⟨_, _, rfl, rfl, rfl, by assumption⟩
    · cases h
  · cases h) fun _ _ _ _ => ⟨rfl, rfl⟩

def mulD : D → D → Option D
  | .int a, .int b => if (-(2 ^ 64) < a ∧ a < 2 ^ 64) ∨ (-(2 ^ 64) < b ∧ b < 2 ^ 64) then some (.int (a * b)) else none
  | .lst _ a, .int k => if frzL a = true ∧ k ≤ 1000000 ∧ -1000000 ≤ k ∧ a.length * k.toNat ≤ LIM then some (.lst true (List.replicate k.toNat a).flatten) else none
  | .str a, .int k => if k ≤ 1000000 ∧ -1000000 ≤ k ∧ a.length * k.toNat ≤ LIM then some (.str (List.replicate k.toNat a).flatten) else none
  | _, _ => none
def rRepS : R2 := fun x y H Q => ∃ z k, x = .str z ∧ y = .int k ∧ MulOk z k ∧ Q (.str (Txt.mul z k)) H
theorem op_repS : OpR X (binaryOp .Mult) rRepS := by
  intro pins s σ H x y v u Q I rx ry h
  obtain ⟨z, k, rfl, rfl, hk, q⟩ := h
  obtain ⟨t, rfl⟩ := rx
  obtain ⟨t', rfl⟩ := ry
  exact PySem.SB.mul hk fun t' k => ⟨.str _, H, I.tok _, ⟨_, rfl⟩, q⟩
def rMulA : R2 := fun x y H Q => rI CMul (fun i j => .int (i * j)) x y H Q ∨ rRep x y H Q ∨ rRepS x y H Q
theorem opr_mul : OpR X (binaryOp .Mult) rMulA := OpR_or op_mul (OpR_or op_rep op_repS)
theorem foldl_app (a : Array Nat) : ∀ (n : Nat) (b : Array Nat), (List.replicate n a).foldl (· ++ ·) b = (b.toList ++ (List.replicate n a.toList).flatten).toArray
  | 0, b => by simp
  | n + 1, b => by
    rw [List.replicate_succ, List.foldl_cons, foldl_app a n]
    simp [List.replicate_succ]
theorem str_mul {a : List Nat} {k : Int} (h1 : k ≤ 1000000) (h2 : -1000000 ≤ k) (h3 : a.length * k.toNat ≤ LIM) : MulOk ⟨a.toArray⟩ k ∧ Txt.mul ⟨a.toArray⟩ k = ⟨(List.replicate k.toNat a).flatten.toArray⟩ := by
  refine ⟨⟨?_, fun n1 n2 => ?_, fun n1 n2 => ?_⟩, ?_⟩
  · rw [Bool.or_eq_false_iff, decide_eq_false_iff_not, decide_eq_false_iff_not]; omega
  · rw [str_len]
    have h4 : (a.length : Int) * k ≤ 2 ^ 63 - 1 := by
      have e1 : (k.toNat : Int) = k := by omega
      have e2 : ((a.length * k.toNat : Nat) : Int) = (a.length : Int) * k := by rw [Int.natCast_mul, e1]
      unfold LIM at h3
      omega
    have := Int.le_ediv_of_mul_le (by omega) h4
    omega
  · rw [str_len]
    have := lim_le h3
    unfold Builtin.Str.tooLong
    simp; omega
  · unfold Txt.mul
    by_cases n1 : k < 1
    · rw [if_pos n1, show k.toNat = 0 by omega]; rfl
    · rw [if_neg n1]
      by_cases n2 : (k == 1 || (⟨a.toArray⟩ : Str).length == 0) = true
      · rw [if_pos n2]
        rw [str_len] at n2
        simp only [Bool.or_eq_true, beq_iff_eq] at n2
        rcases n2 with n2 | n2
        · subst n2; simp
        · have : a = [] := List.length_eq_zero_iff.mp n2
          subst this; simp
      · rw [if_neg n2, foldl_app]; simp
theorem op_mulD : Op2 c rMulA mulD := by
  intro P H e da db d x y U1 U2 hf r1 r2 Q q
  unfold mulD at hf
  split at hf
  · rename_i a b
    split at hf
    · rename_i hc
      cases hf
      exact .inl ⟨a, b, r1.1, r2.1, hc, q.flat e ⟨rfl, rfl⟩⟩
    · cases hf
  · rename_i o a k
    split at hf
    · rename_i hl
      obtain ⟨hz, h1, h2, h3⟩ := hl
      cases hf
      obtain ⟨p1, xs, rfl, hh, l1⟩ := lst_heap0 e r1 hz
      refine .inr (.inl ⟨p1, k, xs, rfl, r2.1, hh, by omega, by omega, ?_, q.lst e (l1.rep _)⟩)
      rw [← l1.length]; exact lim_le h3
    · cases hf
  · rename_i a k
    split at hf
    · rename_i hl
      obtain ⟨h1, h2, h3⟩ := hl
      cases hf
      obtain ⟨m1, m2⟩ := str_mul h1 h2 h3
      exact .inr (.inr ⟨_, k, r1.1, r2.1, m1, by rw [m2]; exact q.flat e ⟨rfl, rfl⟩⟩)
    · cases hf
  · cases hf

def cmpD (fi : Int → Int → Bool) (fs : List Nat → List Nat → Bool) : D → D → Option D
  | .int a, .int b => some (.bl (fi a b))
  | .str a, .str b => some (.bl (fs a b))
  | _, _ => none
theorem op_cmpD {fi : Int → Int → Bool} {fs : List Nat → List Nat → Bool} : Op2 c (fun x y H Q => rI0 (fun i j => .bl (fi i j)) x y H Q ∨ ∃ i j, x = .str i ∧ y = .str j ∧ Q (.bl (fs i.cps.toList j.cps.toList)) H) (cmpD fi fs) := by
  intro P H e da db d x y U1 U2 hf r1 r2 Q q
  unfold cmpD at hf
  split at hf
  · cases hf
    exact .inl ⟨_, _, r1.1, r2.1, q.flat e ⟨rfl, rfl⟩⟩
  · rename_i a b
    cases hf
    exact .inr ⟨_, _, r1.1, r2.1, q.flat e ⟨by simp, rfl⟩⟩
  · cases hf
def ltD : D → D → Option D := cmpD (fun i j => decide (i < j)) fun i j => decide (i < j)
def leD : D → D → Option D := cmpD (fun i j => decide (i ≤ j)) fun i j => !decide (j < i)
def gtD : D → D → Option D := cmpD (fun i j => decide (j < i)) fun i j => decide (j < i)
def geD : D → D → Option D := cmpD (fun i j => decide (j ≤ i)) fun i j => !decide (i < j)
theorem opr_lt : OpR X (compareOp .Lt) (fun x y H Q => rI0 (fun i j => .bl (decide (i < j))) x y H Q ∨ ∃ i j, x = .str i ∧ y = .str j ∧ Q (.bl (decide (i.cps.toList < j.cps.toList))) H) := OpR_or op_lt op_lt_str
theorem opr_le : OpR X (compareOp .LtE) (fun x y H Q => rI0 (fun i j => .bl (decide (i ≤ j))) x y H Q ∨ ∃ i j, x = .str i ∧ y = .str j ∧ Q (.bl (!decide (j.cps.toList < i.cps.toList))) H) := OpR_or op_le op_le_str
theorem opr_gt : OpR X (compareOp .Gt) (fun x y H Q => rI0 (fun i j => .bl (decide (j < i))) x y H Q ∨ ∃ i j, x = .str i ∧ y = .str j ∧ Q (.bl (decide (j.cps.toList < i.cps.toList))) H) := OpR_or op_gt op_gt_str
def keyP : Key → PyData
  | .inl i => .int i
  | .inr s => .str s
def kD : Key → D
  | .inl i => .int i
  | .inr s => .str s.cps.toList
theorem kD_rep {c : LC} {P H : Hp} : ∀ k : Key, Rep c P H (kD k) (kV k) fz
  | .inl i => ⟨rfl, rfl⟩
  | .inr s => ⟨by cases s; simp [kV], rfl⟩
mutual
def toP : D → Option PyData
  | .non => some .none
  | .bl b => some (.bool b)
  | .int i => some (.int i)
  | .str s => some (.str ⟨s.toArray⟩)
  | .scr ns => some (.list (ns.map .int))
  | .kst ss => some (.tuple (ss.map fun s => .str ⟨s.toArray⟩))
  | .key ks => some (.tuple (ks.map keyP))
  | .tup ds => (toPL ds).map .tuple
  | .lst _ ds => (toPL ds).map .list
  | _ => none
def toPL : List D → Option (List PyData)
  | [] => some []
  | d :: ds => (toP d).bind fun p => (toPL ds).map fun ps => p :: ps
end
theorem dp_scr {K : PySem.W.Frag} {H : Hp} : ∀ ns : List Int, DpAll K H (ns.map V.int) (ns.map PyData.int)
  | [] => .nil
  | n :: ns => .cons (.int n) (dp_scr ns)
theorem dp_kst {K : PySem.W.Frag} {H : Hp} : ∀ ss : List (List Nat), DpAll K H (ss.map fun s => V.str ⟨s.toArray⟩) (ss.map fun s => PyData.str ⟨s.toArray⟩)
  | [] => .nil
  | s :: ss => .cons (.str _) (dp_kst ss)
theorem dp_key {K : PySem.W.Frag} {H : Hp} : ∀ ks : List Key, DpAll K H (ks.map kV) (ks.map keyP)
  | [] => .nil
  | .inl i :: ks => .cons (.int i) (dp_key ks)
  | .inr s :: ks => .cons (.str s) (dp_key ks)
mutual
theorem dp_of {P H : Hp} (e : Ex P H) : ∀ (d : D) (v : V) (U : FP) (p : PyData), toP d = some p → Rep c P H d v U → Dp c.K H v p
  | .non, v, U, p, h, r => by cases h; rw [r.1]; exact .non
  | .bl b, v, U, p, h, r => by cases h; rw [r.1]; exact .bl b
  | .int b, v, U, p, h, r => by cases h; rw [r.1]; exact .int b
  | .str b, v, U, p, h, r => by cases h; rw [r.1]; exact .str _
  | .scr ns, v, U, p, h, ⟨a, e1, q, _⟩ => by cases h; rw [e1]; exact .lst (sql_mono e q) (dp_scr ns)
  | .kst ss, v, U, p, h, ⟨a, e1, q, _⟩ => by cases h; rw [e1]; exact .tup (sqt_mono e q) (dp_kst ss)
  | .key ks, v, U, p, h, ⟨a, e1, q, _⟩ => by cases h; rw [e1]; exact .tup (.inl (.inl (e _ _ q))) (dp_key ks)
  | .tup ds, v, U, p, h, ⟨a, xs, e1, q, r⟩ => by
    unfold toP at h
    cases z : toPL ds with
    | none => rw [z] at h; cases h
    | some ps => rw [z] at h; cases h; rw [e1]; exact .tup (sqt_mono e q) (dp_all e ds xs U ps z r)
  | .lst true ds, v, U, p, h, ⟨a, xs, T, e1, q, r, _⟩ => by
    unfold toP at h
    cases z : toPL ds with
    | none => rw [z] at h; cases h
    | some ps => rw [z] at h; cases h; rw [e1]; exact .lst (.inl (.inl q)) (dp_all e ds xs T ps z r)
  | .lst false ds, v, U, p, h, ⟨a, xs, e1, q, r⟩ => by
    unfold toP at h
    cases z : toPL ds with
    | none => rw [z] at h; cases h
    | some ps => rw [z] at h; cases h; rw [e1]; exact .lst (.inl (.inl (e _ _ q))) (dp_all e ds xs U ps z r)
  | .gone, _, _, _, h, _ => by cases h
  | .dK .., _, _, _, h, _ => by cases h
  | .dT .., _, _, _, h, _ => by cases h
  | .dN .., _, _, _, h, _ => by cases h
  | .obj .., _, _, _, h, _ => by cases h
theorem dp_all {P H : Hp} (e : Ex P H) : ∀ (ds : List D) (vs : List V) (U : FP) (ps : List PyData), toPL ds = some ps → RepL c P H ds vs U → DpAll c.K H vs ps
  | [], vs, U, ps, h, r => by cases h; rw [r.1]; exact .nil
  | d :: ds, vs, U, ps, h, ⟨y, ys, T, T2, e1, r, rs, _⟩ => by
    unfold toPL at h
    cases z : toP d with
    | none => rw [z] at h; cases h
    | some q =>
      cases z2 : toPL ds with
      | none => rw [z, z2] at h; cases h
      | some qs => rw [z, z2] at h; cases h; rw [e1]; exact .cons (dp_of e d y T q z r) (dp_all e ds ys T2 qs z2 rs)
end
def eqB (a b : D) : Option Bool := (toP a).bind fun p => (toP b).bind fun q => if SeqAt.shaped p = true ∧ SeqAt.shaped q = true then some (PyData.eqv p q) else none
def eqD (a b : D) : Option D := (eqB a b).map .bl
def neD (a b : D) : Option D := (eqB a b).map fun k => .bl (!k)
theorem eqB_dp {P H : Hp} (e : Ex P H) {a b : D} {x y : V} {U1 U2 : FP} {k : Bool} (h : eqB a b = some k) (r1 : Rep c P H a x U1) (r2 : Rep c P H b y U2) :
    ∃ p q, Dp c.K H x p ∧ Dp c.K H y q ∧ SeqAt.shaped p = true ∧ SeqAt.shaped q = true ∧ PyData.eqv p q = k := by
  unfold eqB at h
  cases z1 : toP a with
  | none => rw [z1] at h; cases h
  | some p =>
    cases z2 : toP b with
    | none => rw [z1, z2] at h; cases h
    | some q =>
      rw [z1, z2] at h
      simp only [Option.bind_some] at h
      split at h
      · rename_i hs
        cases h
        exact ⟨p, q, dp_of e _ _ _ _ z1 r1, dp_of e _ _ _ _ z2 r2, hs.1, hs.2, rfl⟩
      · cases h
theorem op_eqqD : Op2 c (rEqD c.K) eqD := by
  intro P H e da db d x y U1 U2 hf r1 r2 Q q
  unfold eqD at hf
  cases z : eqB da db with
  | none => rw [z] at hf; cases hf
  | some k =>
    rw [z] at hf; cases hf
    obtain ⟨p, p2, d1, d2, s1, s2, rfl⟩ := eqB_dp e z r1 r2
    exact ⟨p, p2, d1, d2, s1, s2, q.flat e ⟨rfl, rfl⟩⟩
theorem op_neqD : Op2 c (rNeD c.K) neD := by
  intro P H e da db d x y U1 U2 hf r1 r2 Q q
  unfold neD at hf
  cases z : eqB da db with
  | none => rw [z] at hf; cases hf
  | some k =>
    rw [z] at hf; cases hf
    obtain ⟨p, p2, d1, d2, s1, s2, rfl⟩ := eqB_dp e z r1 r2
    exact ⟨p, p2, d1, d2, s1, s2, q.flat e ⟨rfl, rfl⟩⟩

def isNo : D → Option Bool
  | .non => some true
  | .gone => none
  | _ => some false
def isD : D → D → Option D
  | a, .non => (isNo a).map .bl
  | .bl a, .bl b => some (.bl (a == b))
  | _, _ => none
def nisD : D → D → Option D
  | a, .non => (isNo a).map fun k => .bl (!k)
  | .bl a, .bl b => some (.bl (!(a == b)))
  | _, _ => none
theorem isNo_v {P H : Hp} : ∀ {a : D} {x : V} {U : FP} {k : Bool}, isNo a = some k → Rep c P H a x U → decide (x = .non) = k
  | .non, x, U, k, h, r => by cases h; rw [r.1]; rfl
  | .bl _, x, U, k, h, r => by cases h; rw [r.1]; rfl
  | .int _, x, U, k, h, r => by cases h; rw [r.1]; rfl
  | .str _, x, U, k, h, r => by cases h; rw [r.1]; rfl
  | .scr _, x, U, k, h, ⟨_, e, _⟩ => by cases h; rw [e]; rfl
  | .kst _, x, U, k, h, ⟨_, e, _⟩ => by cases h; rw [e]; rfl
  | .key _, x, U, k, h, ⟨_, e, _⟩ => by cases h; rw [e]; rfl
  | .tup _, x, U, k, h, ⟨_, _, e, _⟩ => by cases h; rw [e]; rfl
  | .lst true _, x, U, k, h, ⟨_, _, _, e, _⟩ => by cases h; rw [e]; rfl
  | .lst false _, x, U, k, h, ⟨_, _, e, _⟩ => by cases h; rw [e]; rfl
  | .dK true _ _, x, U, k, h, ⟨_, _, _, e, _⟩ => by cases h; rw [e]; rfl
  | .dK false _ _, x, U, k, h, ⟨_, _, e, _⟩ => by cases h; rw [e]; rfl
  | .dT true _ _, x, U, k, h, ⟨_, _, _, e, _⟩ => by cases h; rw [e]; rfl
  | .dT false _ _, x, U, k, h, ⟨_, _, e, _⟩ => by cases h; rw [e]; rfl
  | .dN true _ _, x, U, k, h, ⟨_, _, _, _, e, _⟩ => by cases h; rw [e]; rfl
  | .dN false _ _, x, U, k, h, ⟨_, _, _, e, _⟩ => by cases h; rw [e]; rfl
  | .obj true _ _ _, x, U, k, h, ⟨_, _, _, _, e, _⟩ => by cases h; rw [e]; rfl
  | .obj false _ _ _, x, U, k, h, ⟨_, _, _, e, _⟩ => by cases h; rw [e]; rfl
theorem opr_is : OpR X (compareOp .Is) (fun x y H Q => (y = .non ∧ Q (.bl (decide (x = .non))) H) ∨ rIsB x y H Q) := OpR_or op_isN op_isBl
theorem opr_nis : OpR X (compareOp .IsNot) (fun x y H Q => (y = .non ∧ Q (.bl (!decide (x = .non))) H) ∨ rNotB x y H Q) := OpR_or op_notN op_notBl
theorem op_isD : Op2 c (fun x y H Q => (y = .non ∧ Q (.bl (decide (x = .non))) H) ∨ rIsB x y H Q) isD := by
  intro P H e da db d x y U1 U2 hf r1 r2 Q q
  unfold isD at hf
  split at hf
  · cases z : isNo da with
    | none => rw [z] at hf; cases hf
    | some k =>
      rw [z] at hf; cases hf
      exact .inl ⟨r2.1, by rw [isNo_v z r1]; exact q.flat e ⟨rfl, rfl⟩⟩
  · cases hf
    exact .inr ⟨_, _, r1.1, r2.1, q.flat e ⟨by congr 1, rfl⟩⟩
  · cases hf
theorem op_nisD : Op2 c (fun x y H Q => (y = .non ∧ Q (.bl (!decide (x = .non))) H) ∨ rNotB x y H Q) nisD := by
  intro P H e da db d x y U1 U2 hf r1 r2 Q q
  unfold nisD at hf
  split at hf
  · cases z : isNo da with
    | none => rw [z] at hf; cases hf
    | some k =>
      rw [z] at hf; cases hf
      exact .inl ⟨r2.1, by rw [isNo_v z r1]; exact q.flat e ⟨rfl, rfl⟩⟩
  · cases hf
    exact .inr ⟨_, _, r1.1, r2.1, q.flat e ⟨by congr 1, rfl⟩⟩
  · cases hf
end
end LI

namespace LI
open PySem L2

theorem RepE.get {c : LC} {P H : Hp} : ∀ {ρ : List D} {σ : St} {S : FP} {i : Nat} {d : D}, RepE c P H ρ σ S → ρ[i]? = some d → ∃ ov T, σ[i]? = some ov ∧ RepO c P H d ov T ∧ ∀ a, T a ≤ S a
  | [], [], _, i, d, _, e => by simp at e
  | d0 :: ds, v0 :: σ, S, 0, d, ⟨T, U, r, rs, f⟩, e => by
    simp at e; subst e
    exact ⟨v0, T, rfl, r, fun a => by rw [f]; simp only [fa]; omega⟩
  | d0 :: ds, v0 :: σ, S, i + 1, d, ⟨T, U, r, rs, f⟩, e => by
    obtain ⟨ov, T2, h1, h2, h3⟩ := RepE.get (i := i) (d := d) rs (by simpa using e)
    exact ⟨ov, T2, by simpa using h1, h2, fun a => by have := h3 a; rw [f]; simp only [fa]; omega⟩
  | [], _ :: _, _, _, _, h, _ => h.elim
  | _ :: _, [], _, _, _, h, _ => h.elim
def notGone : D → Bool
  | .gone => false
  | _ => true
def vM (i : Nat) : RM := fun ρ => (ρ[i]?).bind fun d => if notGone d = true then some d else none
section
variable {X : Cx} {cl : Nat → Addr} {E : En} {e a b : Expr} {pos : Pos} {m ma mb : RM}
theorem tvar_run {c : LC} {i : Nat} {σ : St} {H : Hp} {Q : VK} (h : tR c E (vM i) σ H Q) : tVar i σ H Q := by
  obtain ⟨P, S, T, ρ, d, w, hm, q⟩ := h
  unfold vM at hm
  cases e : ρ[i]? with
  | none => rw [e] at hm; cases hm
  | some d1 =>
    rw [e] at hm
    simp only [Option.bind_some] at hm
    split at hm
    · rename_i hn
      cases hm
      obtain ⟨ov, T2, h1, h2, _⟩ := w.env.get e
      cases ov with
      | none => rw [h2.1] at hn; cases hn
      | some v => exact ⟨v, h1, q v H P T2 (.refl w.ph) h2⟩
    · cases hm
theorem r_v (i : Nat) {x : Str} (hN : X.N[i]? = some x := by rfl) (hv : Vis X.env.scope x := by first | exact Or.inl rfl | exact Or.inr (Or.inl rfl) | exact Or.inr (Or.inr rfl)) (hd : (x == ("__debug__" : Str)) = false := by decide)
    (hcd : (x == ("__classdict__" : Str)) = false := by decide) : PE X (.Name x pos) (tR ⟨X.K, cl, X.w⟩ E (vM i)) := PE_imp (pe_var hN hv hd hcd) fun _ _ _ h => tvar_run h

def kM (d : D) : RM := fun _ => some d
theorem tc_run {c : LC} {d : D} {v : V} (hr : ∀ P H, Ex P H → Rep c P H d v fz) {σ : St} {H : Hp} {Q : VK} (h : tF c E (kM d) σ H Q) : tC v σ H Q := by
  obtain ⟨P, S, T, ρ, d1, w, hm, q⟩ := h
  cases hm
  exact q.flat w.ph (hr P H w.ph)
theorem f_int {i : Int} {j} : PE X (.Constant (.int i) j pos) (tF ⟨X.K, cl, X.w⟩ E (kM (.int i))) := PE_imp pe_int fun _ _ _ h => tc_run (c := ⟨X.K, cl, X.w⟩) (d := .int i) (v := .int i) (fun _ _ _ => ⟨rfl, rfl⟩) h
theorem f_bl {k : Bool} {j} : PE X (.Constant (.bool k) j pos) (tF ⟨X.K, cl, X.w⟩ E (kM (.bl k))) := PE_imp pe_bl fun _ _ _ h => tc_run (c := ⟨X.K, cl, X.w⟩) (d := .bl k) (v := .bl k) (fun _ _ _ => ⟨rfl, rfl⟩) h
theorem f_non {j} : PE X (.Constant .none j pos) (tF ⟨X.K, cl, X.w⟩ E (kM .non)) := PE_imp pe_non fun _ _ _ h => tc_run (c := ⟨X.K, cl, X.w⟩) (d := .non) (v := .non) (fun _ _ _ => ⟨rfl, rfl⟩) h
theorem f_str {x : Str} {j} (s : List Nat) (hs : x = ⟨s.toArray⟩ := by rfl) : PE X (.Constant (.str x) j pos) (tF ⟨X.K, cl, X.w⟩ E (kM (.str s))) := PE_imp pe_str fun _ _ _ h => tc_run (c := ⟨X.K, cl, X.w⟩) (d := .str s) (v := .str x) (fun _ _ _ => ⟨by rw [hs], rfl⟩) h
theorem f_glob {x : Str} {v : V} {u : Value} (d : D) (hg : Gl X x) (hm : X.mg x = some u) (r : RelV v u) (hr : ∀ P H, Ex P H → Rep ⟨X.K, cl, X.w⟩ P H d v fz) (hd : (x == ("__debug__" : Str)) = false := by decide) : PE X (.Name x pos) (tF ⟨X.K, cl, X.w⟩ E (kM d)) :=
  PE_imp (pe_glob hg hm r hd) fun _ _ _ h => tc_run hr h

def negD : D → Option D
  | .int a => some (.int (-a))
  | _ => none
theorem f_neg (ha : PE X a (tR ⟨X.K, cl, X.w⟩ E ma)) : PE X (.UnaryOp .USub a pos) (tF ⟨X.K, cl, X.w⟩ E (m1 negD ma)) := PE_imp (pe_un un_neg ha) fun σ H Q ⟨P, S, T, ρ, d, w, hm, q⟩ => by
  unfold m1 at hm
  cases ea : ma ρ with
  | none => rw [ea] at hm; cases hm
  | some da =>
    rw [ea] at hm
    cases da with
    | int i =>
      cases hm
      refine ⟨P, S, T, ρ, .int i, w, ea, fun v H' P' U g r => ⟨i, r.1, ?_⟩⟩
      exact q _ H' P' fz g ⟨rfl, rfl⟩ (fun _ => Nat.zero_le _) fun a z => by simp [fz] at z
    | _ => cases hm

abbrev AM := List D → Option (List D)
def tAR (c : LC) (E : En) (m : AM) : TA := fun σ H Q => ∃ P S T ρ ds, Wd c E P S T σ H ρ ∧ m ρ = some ds ∧ ∀ vs H' P' U, Gr P H P' H' → RepL c P' H' ds vs U → Q vs H'
def nilM : AM := fun _ => some []
def consM (m : RM) (ms : AM) : AM := fun ρ => (m ρ).bind fun d => (ms ρ).map fun ds => d :: ds
theorem a_nil : PA X [] (tAR ⟨X.K, cl, X.w⟩ E nilM) := PA_imp pa_nil fun σ H Q ⟨P, S, T, ρ, ds, w, hm, q⟩ => by
  cases hm
  exact q [] H P fz (.refl w.ph) ⟨rfl, rfl⟩
theorem a_cons {es : List Expr} {ms : AM} (h : PE X e (tR ⟨X.K, cl, X.w⟩ E m)) (hr : PA X es (tAR ⟨X.K, cl, X.w⟩ E ms)) (hs : starEach (e :: es) X.env = (false, eval e X.env) :: starEach es X.env := by rfl) : PA X (e :: es) (tAR ⟨X.K, cl, X.w⟩ E (consM m ms)) :=
  PA_imp (pa_cons h hr hs) fun σ H Q ⟨P, S, T, ρ, ds, w, hm, q⟩ => by
    unfold consM at hm
    cases e1 : m ρ with
    | none => rw [e1] at hm; cases hm
    | some d =>
      cases e2 : ms ρ with
      | none => rw [e1, e2] at hm; cases hm
      | some ds' =>
        rw [e1, e2] at hm
        cases hm
        exact ⟨P, S, T, ρ, d, w, e1, fun v H1 P1 U1 g1 r1 => ⟨P1, S, T, ρ, ds', w.grow g1, e2, fun vs H2 P2 U2 g2 r2 => q (v :: vs) H2 P2 (fa U1 U2) (g1.trans g2) ⟨v, vs, U1, U2, rfl, r1.gr g2, r2, rfl⟩⟩⟩
def tupM (ms : AM) : RM := fun ρ => (ms ρ).bind fun ds => if frzL ds = true ∧ ds.length ≤ LIM then some (.tup ds) else none
def lstM (ms : AM) : RM := fun ρ => (ms ρ).bind fun ds => if frzL ds = true ∧ ds.length ≤ LIM then some (.lst true ds) else none
theorem f_tup {es : List Expr} {ms : AM} {x1} (h : PA X es (tAR ⟨X.K, cl, X.w⟩ E ms)) : PE X (.Tuple es x1 pos) (tF ⟨X.K, cl, X.w⟩ E (tupM ms)) := PE_imp (pe_tup h) fun σ H Q ⟨P, S, T, ρ, d, w, hm, q⟩ => by
  unfold tupM at hm
  cases e1 : ms ρ with
  | none => rw [e1] at hm; cases hm
  | some ds =>
    rw [e1] at hm
    simp only [Option.bind_some] at hm
    split at hm
    · rename_i hf
      cases hm
      refine ⟨P, S, T, ρ, ds, w, e1, fun vs H' P' U g r => ⟨by rw [← r.length]; exact lim_le hf.2, ?_⟩⟩
      have z := RepL.frz0 ds vs U hf.1 r
      subst z
      exact (q.grow g).tup g.ph r
    · cases hm
theorem f_lst {es : List Expr} {ms : AM} (h : PA X es (tAR ⟨X.K, cl, X.w⟩ E ms)) : PE X (.List es pos) (tF ⟨X.K, cl, X.w⟩ E (lstM ms)) := PE_imp (pe_lst h) fun σ H Q ⟨P, S, T, ρ, d, w, hm, q⟩ => by
  unfold lstM at hm
  cases e1 : ms ρ with
  | none => rw [e1] at hm; cases hm
  | some ds =>
    rw [e1] at hm
    simp only [Option.bind_some] at hm
    split at hm
    · rename_i hf
      cases hm
      refine ⟨P, S, T, ρ, ds, w, e1, fun vs H' P' U g r => ⟨by rw [← r.length]; exact lim_le hf.2, ?_⟩⟩
      have z := RepL.frz0 ds vs U hf.1 r
      subst z
      exact (q.grow g).lst g.ph r
    · cases hm

def keyD : D → Option Key
  | .int i => some (.inl i)
  | .str s => some (.inr ⟨s.toArray⟩)
  | _ => none
def keyDs : List D → Option (List Key)
  | [] => some []
  | d :: ds => (keyD d).bind fun k => (keyDs ds).map fun ks => k :: ks
theorem keyD_v {c : LC} {P H : Hp} {d : D} {v : V} {U : FP} {k : Key} (h : keyD d = some k) (r : Rep c P H d v U) : v = kV k := by
  unfold keyD at h
  split at h
  · cases h; exact r.1
  · cases h; exact r.1
  · cases h
theorem keyDs_v {c : LC} {P H : Hp} : ∀ {ds : List D} {vs : List V} {U : FP} {ks : List Key}, keyDs ds = some ks → RepL c P H ds vs U → vs = ks.map kV
  | [], vs, U, ks, h, r => by cases h; rw [r.1]; rfl
  | d :: ds, vs, U, ks, h, ⟨y, ys, T, T2, e1, r, rs, _⟩ => by
    unfold keyDs at h
    cases z : keyD d with
    | none => rw [z] at h; cases h
    | some k =>
      cases z2 : keyDs ds with
      | none => rw [z, z2] at h; cases h
      | some ks' =>
        rw [z, z2] at h; cases h
        rw [e1, keyD_v z r, keyDs_v z2 rs]; rfl
def under {κ : Type} [DecidableEq κ] : List κ → List D → κ → Option D
  | k :: ks, d :: ds, x => if k = x then some d else under ks ds x
  | _, _, _ => none
def ixD : D → D → Option D
  | .lst _ ds, .int i => atI ds i
  | .tup ds, .int i => atI ds i
  | .scr ns, .int i => (atI ns i).map .int
  | .str s, .int i => if s.length ≤ LIM then (atI s i).map fun k => .str [k] else none
  | .dK _ ks ds, k => (keyD k).bind fun k => under ks ds k
  | _, _ => none
theorem atI_rep {c : LC} {P H : Hp} {ds : List D} {xs : List V} {S : FP} {i : Int} {d : D} (r : RepL c P H ds xs S) (h : atI ds i = some d) : ∃ x T, atI xs i = some x ∧ Rep c P H d x T ∧ ∀ a, T a ≤ S a := by
  unfold atI at h ⊢
  rw [← r.length]
  cases e : ixN ds.length i with
  | none => rw [e] at h; cases h
  | some j => rw [e] at h; exact r.get h
theorem atI_map {α β : Type} (f : α → β) (xs : List α) (i : Int) : atI (xs.map f) i = (atI xs i).map f := by
  unfold atI
  rw [List.length_map]
  cases ixN xs.length i with
  | none => rfl
  | some j => simp
end
theorem under_rep {c : LC} {P H : Hp} {κ : Type} [DecidableEq κ] : ∀ {ks : List κ} {ds : List D} {xs : List V} {S : FP} {k : κ} {d : D}, RepL c P H ds xs S → ks.length = xs.length → under ks ds k = some d → ∃ x T, (ks.zip xs).find? (fun p => decide (p.1 = k)) = some (k, x) ∧ Rep c P H d x T ∧ ∀ a, T a ≤ S a
  | [], ds, xs, S, k, d, r, n, h => by simp [under] at h
  | k0 :: ks, [], xs, S, k, d, r, n, h => by simp [under] at h
  | k0 :: ks, d0 :: ds, xs, S, k, d, ⟨y, ys, T, T2, e1, r, rs, f⟩, n, h => by
    subst e1
    unfold under at h
    by_cases q : k0 = k
    · rw [if_pos q] at h
      cases h
      exact ⟨y, T, by simp [q], r, fun a => by rw [f]; simp only [fa]; omega⟩
    · rw [if_neg q] at h
      obtain ⟨x, T3, h1, h2, h3⟩ := under_rep rs (by simpa using n) h
      exact ⟨x, T3, by simp [q, h1], h2, fun a => by have := h3 a; rw [f]; simp only [fa]; omega⟩
end LI

namespace LI
open PySem L2

theorem PE_or {X : Cx} {e : Expr} {t u : TE} (h : PE X e t) (k : PE X e u) : PE X e (fun σ H Q => t σ H Q ∨ u σ H Q) := ⟨fun pins s σ H Q I q => q.elim (h.run pins s σ H Q I) (k.run pins s σ H Q I)⟩
theorem PT_or {X : Cx} {e : Expr} {t u : TT} (h : PT X e t) (k : PT X e u) : PT X e (fun σ H Q => t σ H Q ∨ u σ H Q) := ⟨fun pins s σ H Q I q => q.elim (h.run pins s σ H Q I) (k.run pins s σ H Q I)⟩

theorem dict_under {c : LC} {P H : Hp} (e : Ex P H) {dt : D} {x y : V} {U1 U2 : FP} {dk : D} :
    (∀ o ks ds, dt = .dK o ks ds → ∀ k, keyD dk = some k → Rep c P H dt x U1 → Rep c P H dk y U2 → ∃ a xs, x = .ref a ∧ H a = some (.dK (ks.zip xs)) ∧ ks.length = xs.length ∧ y = kV k ∧ ∃ T, RepL c P H ds xs T) := by
  refine fun o ks ds hd k hk r1 r2 => ?_
  · subst hd
    cases o with
    | true => obtain ⟨a, xs, T, e1, h, n, rl, _⟩ := r1; exact ⟨a, xs, e1, h, n, keyD_v hk r2, T, rl⟩
    | false => obtain ⟨a, xs, e1, h, n, rl⟩ := r1; exact ⟨a, xs, e1, e _ _ h, n, keyD_v hk r2, U1, rl⟩
theorem under_val {c : LC} {P H : Hp} {κ : Type} [DecidableEq κ] {ks : List κ} {ds : List D} {xs : List V} {S : FP} {k : κ} {d : D} (r : RepL c P H ds xs S) (n : ks.length = xs.length) (h : under ks ds k = some d) : ∃ x T, valV (ks.zip xs) k = some x ∧ Rep c P H d x T := by
  obtain ⟨x, T, h1, h2, _⟩ := under_rep r n h
  exact ⟨x, T, by unfold valV; rw [h1]; rfl, h2⟩
theorem under_none {c : LC} {P H : Hp} {κ : Type} [DecidableEq κ] : ∀ {ks : List κ} {ds : List D} {xs : List V} {S : FP} {k : κ}, RepL c P H ds xs S → ks.length = xs.length → under ks ds k = none → valV (ks.zip xs) k = none
  | [], ds, xs, S, k, r, n, h => by simp [valV]
  | k0 :: ks, [], xs, S, k, r, n, h => by rw [r.1] at n; simp at n
  | k0 :: ks, d0 :: ds, xs, S, k, ⟨y, ys, T, T2, e1, r, rs, f⟩, n, h => by
    subst e1
    unfold under at h
    by_cases q : k0 = k
    · rw [if_pos q] at h; cases h
    · rw [if_neg q] at h
      have := under_none rs (by simpa using n) h
      rw [List.zip_cons_cons, valV_neg (by simpa using q)]
      exact this
section
variable {X : Cx} {cl : Nat → Addr} {E : En} {e a b : Expr} {pos : Pos} {m ma mb : RM}
theorem r_ix (hu : X.A.units + 64 < cLine) (ha : PE X a (tR ⟨X.K, cl, X.w⟩ E ma)) (hb : PE X b (tR ⟨X.K, cl, X.w⟩ E mb)) (hs : PlainIx b := by exact fun _ _ => rfl) : PE X (.Subscript a b pos) (tR ⟨X.K, cl, X.w⟩ E (m2 ixD ma mb)) := by
  refine PE_imp (PE_or (pe_ix ix_seq ha hb hs) (pe_dget (Nat.lt_of_le_of_lt (by omega) hu) ha hb hs)) fun σ H Q ⟨P, S, T, ρ, d, w, hm, q⟩ => ?_
  unfold m2 at hm
  cases ea : ma ρ with
  | none => rw [ea] at hm; cases hm
  | some da =>
    cases eb : mb ρ with
    | none => rw [ea, eb] at hm; cases hm
    | some db =>
      rw [ea, eb] at hm
      replace hm : ixD da db = some d := hm
      unfold ixD at hm
      split at hm
      · rename_i o ds i
        left
        refine ⟨P, S, T, ρ, .lst o ds, w, ea, fun x H1 P1 U1 g1 r1 => ⟨P1, S, T, ρ, .int i, w.grow g1, eb, fun y H2 P2 U2 g2 r2 => ?_⟩⟩
        obtain ⟨p, xs, T', e1, hh, rl, _⟩ := lst_heap g2.ph (r1.gr g2)
        obtain ⟨z, T2, h1, h2, _⟩ := atI_rep rl hm
        exact .inl ⟨p, xs, i, z, e1, r2.1, .inl (.inl hh), h1, q z H2 P2 T2 (g1.trans g2) h2⟩
      · rename_i ds i
        left
        refine ⟨P, S, T, ρ, .tup ds, w, ea, fun x H1 P1 U1 g1 r1 => ⟨P1, S, T, ρ, .int i, w.grow g1, eb, fun y H2 P2 U2 g2 r2 => ?_⟩⟩
        obtain ⟨p, xs, e1, hh, rl⟩ := r1.gr g2
        obtain ⟨z, T2, h1, h2, _⟩ := atI_rep rl hm
        exact .inr (.inl ⟨p, xs, i, z, e1, r2.1, sqt_mono g2.ph hh, h1, q z H2 P2 T2 (g1.trans g2) h2⟩)
      · rename_i ns i
        left
        refine ⟨P, S, T, ρ, .scr ns, w, ea, fun x H1 P1 U1 g1 r1 => ⟨P1, S, T, ρ, .int i, w.grow g1, eb, fun y H2 P2 U2 g2 r2 => ?_⟩⟩
        obtain ⟨p, e1, hh, _⟩ := r1.gr g2
        cases z : atI ns i with
        | none => rw [z] at hm; cases hm
        | some k =>
          rw [z] at hm; cases hm
          exact .inl ⟨p, _, i, .int k, e1, r2.1, sql_mono g2.ph hh, by rw [atI_map, z]; rfl, q _ H2 P2 fz (g1.trans g2) ⟨rfl, rfl⟩⟩
      · rename_i s i
        split at hm
        · rename_i hl
          left
          refine ⟨P, S, T, ρ, .str s, w, ea, fun x H1 P1 U1 g1 r1 => ⟨P1, S, T, ρ, .int i, w.grow g1, eb, fun y H2 P2 U2 g2 r2 => ?_⟩⟩
          cases z : atI s i with
          | none => rw [z] at hm; cases hm
          | some k =>
            rw [z] at hm; cases hm
            exact .inr (.inr ⟨⟨s.toArray⟩, i, k, r1.1, r2.1, by rw [str_len]; exact lim_le hl, by simpa using z, q _ H2 P2 fz (g1.trans g2) ⟨rfl, rfl⟩⟩)
        · cases hm
      · rename_i o ks ds
        right
        cases z : keyD db with
        | none => rw [z] at hm; cases hm
        | some k =>
          rw [z] at hm
          refine ⟨P, S, T, ρ, .dK o ks ds, w, ea, fun x H1 P1 U1 g1 r1 => ⟨P1, S, T, ρ, _, w.grow g1, eb, fun y H2 P2 U2 g2 r2 => ?_⟩⟩
          obtain ⟨p, xs, e1, hh, n, ey, T', rl⟩ := (dict_under g2.ph) o ks ds rfl k z (r1.gr g2) r2
          obtain ⟨v, T2, h1, h2⟩ := under_val rl n hm
          exact ⟨p, v, e1, .inl ⟨_, k, .inl hh, ey, h1.symm⟩, q v H2 P2 T2 (g1.trans g2) h2⟩
      · cases hm

def cutL {α : Type} (xs : List α) (lo hi : Option Int) : List α := (xs.drop (HT.sIx xs.length 0 lo)).take (HT.sIx xs.length xs.length hi - HT.sIx xs.length 0 lo)
def slD (lo hi : Option Int) : D → Option D
  | .lst _ ds => if frzL ds = true then some (.lst true (cutL ds lo hi)) else none
  | .tup ds => if frzL ds = true then some (.tup (cutL ds lo hi)) else none
  | .scr ns => some (.lst true ((cutL ns lo hi).map .int))
  | .str s => if s.length ≤ LIM then some (.str (cutL s lo hi)) else none
  | _ => none
abbrev OM := List D → Option (Option Int)
def noM : OM := fun _ => some none
def soM (m : RM) : OM := fun ρ => (m ρ).bind fun d => match d with | .int i => some (some i) | _ => none
def slM (m : RM) (lo hi : OM) : RM := fun ρ => (m ρ).bind fun d => (lo ρ).bind fun l => (hi ρ).bind fun h => slD l h d
def tOM (c : LC) (E : En) (m : OM) : TO := fun σ H Q => ∃ P S T ρ o, Wd c E P S T σ H ρ ∧ m ρ = some o ∧ ∀ H' P', Gr P H P' H' → Q o H'
theorem o_none : PO X none (tOM ⟨X.K, cl, X.w⟩ E noM) := ⟨fun pins s σ H Q I ⟨P, S, T, ρ, o, w, hm, q⟩ => by
  cases hm
  exact po_none.run pins s σ H Q I (q H P (.refl w.ph))⟩
theorem o_some (h : PE X e (tR ⟨X.K, cl, X.w⟩ E m)) : PO X (some e) (tOM ⟨X.K, cl, X.w⟩ E (soM m)) := ⟨fun pins s σ H Q I ⟨P, S, T, ρ, o, w, hm, q⟩ => by
  refine (po_some h).run pins s σ H Q I ?_
  unfold soM at hm
  cases ea : m ρ with
  | none => rw [ea] at hm; cases hm
  | some da =>
    rw [ea] at hm
    cases da with
    | int i =>
      cases hm
      exact ⟨P, S, T, ρ, .int i, w, ea, fun v H' P' U g r => ⟨i, r.1, q H' P' g⟩⟩
    | _ => cases hm⟩
theorem RepL.cut {c : LC} {P H : Hp} {ds : List D} {xs : List V} (r : RepL c P H ds xs fz) (lo hi : Option Int) : RepL c P H (cutL ds lo hi) (cutV xs lo hi) fz := by
  unfold cutL cutV
  rw [r.length]
  exact (r.drop _).take _
theorem cutL_map {α β : Type} (f : α → β) (xs : List α) (lo hi : Option Int) : cutL (xs.map f) lo hi = (cutL xs lo hi).map f := by
  unfold cutL
  rw [List.length_map, ← List.map_drop, ← List.map_take]
theorem repL_ints {c : LC} {P H : Hp} : ∀ ns : List Int, RepL c P H (ns.map .int) (ns.map .int) fz
  | [] => ⟨rfl, rfl⟩
  | n :: ns => ⟨.int n, _, fz, fz, rfl, ⟨rfl, rfl⟩, repL_ints ns, (fa_fz fz).symm⟩
theorem f_sl {lo hi : Option Expr} {ml mh : OM} {p2 : Pos} (ha : PE X a (tR ⟨X.K, cl, X.w⟩ E ma)) (hl : PO X lo (tOM ⟨X.K, cl, X.w⟩ E ml)) (hh : PO X hi (tOM ⟨X.K, cl, X.w⟩ E mh)) : PE X (.Subscript a (.Slice lo hi none p2) pos) (tF ⟨X.K, cl, X.w⟩ E (slM ma ml mh)) := by
  refine PE_imp (pe_slice (SlR.or sl_list (SlR.or sl_tupA sl_str)) ha hl hh) fun σ H Q ⟨P, S, T, ρ, d, w, hm, q⟩ => ?_
  unfold slM at hm
  cases ea : ma ρ with
  | none => rw [ea] at hm; cases hm
  | some da =>
    cases el : ml ρ with
    | none => rw [ea, el] at hm; cases hm
    | some l =>
      cases eh : mh ρ with
      | none => rw [ea, el, eh] at hm; cases hm
      | some h =>
        rw [ea, el, eh] at hm
        replace hm : slD l h da = some d := hm
        refine ⟨P, S, T, ρ, da, w, ea, fun x H1 P1 U1 g1 r1 => ⟨P1, S, T, ρ, l, w.grow g1, el, fun H2 P2 g2 => ⟨P2, S, T, ρ, h, (w.grow g1).grow g2, eh, fun H3 P3 g3 => ?_⟩⟩⟩
        have r3 := (r1.gr g2).gr g3
        have gg := (g1.trans g2).trans g3
        unfold slD at hm
        split at hm
        · rename_i o ds
          split at hm
          · rename_i hf
            cases hm
            obtain ⟨p, xs, e1, hh, rl⟩ := lst_heap0 g3.ph r3 hf
            exact .inl ⟨p, xs, e1, .inl (.inl hh), (q.grow gg).lst g3.ph (rl.cut l h)⟩
          · cases hm
        · rename_i ds
          split at hm
          · rename_i hf
            cases hm
            obtain ⟨p, xs, e1, hh, hp, rl⟩ := tup_heap0 g3.ph r3 hf
            refine .inr (.inl ⟨p, xs, e1, hh, fun z => ?_, fun _ => (q.grow gg).tup g3.ph (rl.cut l h)⟩)
            have e2 : cutL ds l h = ds := by
              unfold cutL
              rw [rl.length, z.1, z.2, List.drop_zero, Nat.sub_zero, ← rl.length, List.take_length]
            rw [e2] at q
            exact (q.grow gg).flat g3.ph ⟨p, xs, e1 ▸ rfl, hp, rl⟩
          · cases hm
        · rename_i ns
          cases hm
          obtain ⟨p, e1, hh, _⟩ := r3
          refine .inl ⟨p, _, e1, sql_mono g3.ph hh, ?_⟩
          have := (q.grow gg).lst (xs := (cutL ns l h).map .int) g3.ph (repL_ints _)
          have e2 : cutV (ns.map V.int) l h = (cutL ns l h).map .int := cutL_map V.int ns l h
          rw [e2]
          exact this
        · rename_i s
          split at hm
          · rename_i hl
            cases hm
            refine .inr (.inr ⟨⟨s.toArray⟩, r3.1, by rw [str_len]; exact lim_le hl, (q.grow gg).flat g3.ph ⟨?_, rfl⟩⟩)
            unfold cutS cutL
            rw [str_len]
          · cases hm
        · cases hm

def flatD : D → Bool
  | .non => true | .bl _ => true | .int _ => true | .str _ => true | _ => false
def eqF : D → D → Bool
  | .non, .non => true
  | .bl a, .bl b => a == b
  | .bl a, .int b => (if a then 1 else 0) == b
  | .int a, .bl b => a == (if b then 1 else 0)
  | .int a, .int b => a == b
  | .str a, .str b => a == b
  | _, _ => false
theorem flat_v {c : LC} {P H : Hp} : ∀ {d : D} {v : V} {U : FP}, flatD d = true → Rep c P H d v U → flatV v = true
  | .non, v, U, _, r => by rw [r.1]; rfl
  | .bl _, v, U, _, r => by rw [r.1]; rfl
  | .int _, v, U, _, r => by rw [r.1]; rfl
  | .str _, v, U, _, r => by rw [r.1]; rfl
theorem str_beq (a b : List Nat) : ((⟨a.toArray⟩ : Str) == ⟨b.toArray⟩) = (a == b) := by
  rw [Bool.eq_iff_iff, beq_iff_eq, beq_iff_eq]
  exact ⟨fun h => by have := congrArg (fun z : Str => z.cps.toList) h; simpa using this, fun h => by rw [h]⟩
theorem eqF_v {c : LC} {P H : Hp} {d e : D} {v u : V} {U1 U2 : FP} (h1 : flatD d = true) (h2 : flatD e = true) (r1 : Rep c P H d v U1) (r2 : Rep c P H e u U2) : eqV v u = eqF d e := by
  cases d <;> first | cases h1 | skip
  all_goals (cases e <;> first | cases h2 | skip)
  all_goals (rw [r1.1, r2.1])
  all_goals first
    | rfl
    | exact str_beq _ _
theorem any_v {c : LC} {P H : Hp} {d : D} {v : V} {U1 : FP} (h1 : flatD d = true) (r1 : Rep c P H d v U1) : ∀ {ds : List D} {xs : List V} {U2 : FP}, ds.all flatD = true → RepL c P H ds xs U2 → xs.all flatV = true ∧ inV v xs = ds.any (fun y => eqF y d)
  | [], xs, U2, _, r => by rw [r.1]; exact ⟨rfl, rfl⟩
  | e :: ds, xs, U2, h, ⟨y, ys, T, T2, e1, r, rs, _⟩ => by
    simp only [List.all_cons, Bool.and_eq_true] at h
    obtain ⟨k1, k2⟩ := any_v h1 r1 h.2 rs
    subst e1
    refine ⟨by rw [List.all_cons, flat_v h.1 r, k1]; rfl, ?_⟩
    unfold inV at k2 ⊢
    rw [List.any_cons, List.any_cons, k2, eqF_v h.1 h1 r r1]
def inB : D → D → Option Bool
  | .str [k], .str z => some (decide (k ∈ z))
  | x, .lst _ ds => if flatD x = true ∧ ds.all flatD = true then some (ds.any fun y => eqF y x) else none
  | x, .tup ds => if flatD x = true ∧ ds.all flatD = true then some (ds.any fun y => eqF y x) else none
  | .str x, .kst ss => some (ss.any fun y => y == x)
  | x, .dK _ ks ds => (keyD x).map fun k => (under ks ds k).isSome
  | _, _ => none
def inD (x y : D) : Option D := (inB x y).map .bl
def ninD (x y : D) : Option D := (inB x y).map fun k => .bl (!k)
theorem kst_any {x : List Nat} : ∀ ss : List (List Nat), (ss.map fun s => V.str ⟨s.toArray⟩).all flatV = true ∧ inV (.str ⟨x.toArray⟩) (ss.map fun s => V.str ⟨s.toArray⟩) = ss.any fun y => y == x
  | [] => ⟨rfl, rfl⟩
  | s :: ss => by
    obtain ⟨h1, h2⟩ := kst_any (x := x) ss
    refine ⟨by rw [List.map_cons, List.all_cons, h1]; rfl, ?_⟩
    unfold inV at h2 ⊢
    rw [List.map_cons, List.any_cons, List.any_cons, h2]
    show ((⟨s.toArray⟩ : Str) == ⟨x.toArray⟩ || _) = _
    rw [str_beq]
theorem isSome_under {c : LC} {P H : Hp} {κ : Type} [DecidableEq κ] {ks : List κ} {ds : List D} {xs : List V} {S : FP} {k : κ} (r : RepL c P H ds xs S) (n : ks.length = xs.length) : (valV (ks.zip xs) k).isSome = (under ks ds k).isSome := by
  cases h : under ks ds k with
  | none => rw [under_none r n h]; rfl
  | some d => obtain ⟨x, T, h1, _⟩ := under_val r n h; rw [h1]; rfl
def tIn (K : PySem.W.Frag) (neg : Bool) (ta tb : TE) : TE := fun σ H Q =>
  tOp (fun x y H Q => (∃ (c : Nat) (z : Str), x = .str ⟨#[c]⟩ ∧ y = .str z ∧ Q (.bl (if neg then !decide (c ∈ z.cps.toList) else decide (c ∈ z.cps.toList))) H) ∨ rIn K neg x y H Q) ta tb σ H Q ∨ (if neg then tDNotIn ta tb else tDIn ta tb) σ H Q
theorem tIn_run {c : LC} {neg : Bool} {σ : St} {H : Hp} {Q : VK} {P : Hp} {S T : FP} {ρ : List D} {da db : D} {k : Bool} (w : Wd c E P S T σ H ρ) (ea : ma ρ = some da) (eb : mb ρ = some db) (hm : inB da db = some k)
    (q : ∀ H' P', Gr P H P' H' → Q (.bl (if neg then !k else k)) H') : tIn c.K neg (tR c E ma) (tR c E mb) σ H Q := by
  have seq : ∀ (hf : flatD da = true) (ds : List D), ds.all flatD = true → (k = ds.any fun y => eqF y da) → ∀ H2 P2 x y U1, Gr P H P2 H2 → Rep c P2 H2 da x U1 → (∃ p xs U2, y = V.ref p ∧ (SqL c.K H2 p xs ∨ SqT c.K H2 p xs) ∧ RepL c P2 H2 ds xs U2) → rIn c.K neg x y H2 Q := by
    intro hf ds hds hk H2 P2 x y U1 g r1 ⟨p, xs, U2, e1, hs, rl⟩
    obtain ⟨k1, k2⟩ := any_v hf r1 hds rl
    refine ⟨p, xs, e1, hs, flat_v hf r1, k1, ?_⟩
    rw [k2, ← hk]
    exact q H2 P2 g
  unfold inB at hm
  split at hm
  · rename_i j z
    cases hm
    refine .inl ⟨P, S, T, ρ, _, w, ea, fun x H1 P1 U1 g1 r1 => ⟨P1, S, T, ρ, _, w.grow g1, eb, fun y H2 P2 U2 g2 r2 => .inl ⟨j, _, r1.1, r2.1, by simpa using q H2 P2 (g1.trans g2)⟩⟩⟩
  · rename_i o ds
    split at hm
    · rename_i hf
      cases hm
      refine .inl ⟨P, S, T, ρ, _, w, ea, fun x H1 P1 U1 g1 r1 => ⟨P1, S, T, ρ, _, w.grow g1, eb, fun y H2 P2 U2 g2 r2 => .inr ?_⟩⟩
      obtain ⟨p, xs, T', e1, hh, rl, _⟩ := lst_heap g2.ph r2
      exact seq hf.1 ds hf.2 rfl H2 P2 x y U1 (g1.trans g2) (r1.gr g2) ⟨p, xs, T', e1, .inl (.inl (.inl hh)), rl⟩
    · cases hm
  · rename_i ds
    split at hm
    · rename_i hf
      cases hm
      refine .inl ⟨P, S, T, ρ, _, w, ea, fun x H1 P1 U1 g1 r1 => ⟨P1, S, T, ρ, _, w.grow g1, eb, fun y H2 P2 U2 g2 r2 => .inr ?_⟩⟩
      obtain ⟨p, xs, e1, hh, rl⟩ := r2
      exact seq hf.1 ds hf.2 rfl H2 P2 x y U1 (g1.trans g2) (r1.gr g2) ⟨p, xs, U2, e1, .inr (sqt_mono g2.ph hh), rl⟩
    · cases hm
  · rename_i x0 ss
    cases hm
    refine .inl ⟨P, S, T, ρ, _, w, ea, fun x H1 P1 U1 g1 r1 => ⟨P1, S, T, ρ, _, w.grow g1, eb, fun y H2 P2 U2 g2 r2 => .inr ?_⟩⟩
    obtain ⟨p, e1, hh, _⟩ := r2
    obtain ⟨k1, k2⟩ := kst_any (x := x0) ss
    refine ⟨p, _, e1, .inr (sqt_mono g2.ph hh), by rw [r1.1]; rfl, k1, ?_⟩
    rw [r1.1, k2]
    exact q H2 P2 (g1.trans g2)
  · rename_i o ks ds
    cases z : keyD da with
    | none => rw [z] at hm; cases hm
    | some kk =>
      rw [z] at hm
      cases hm
      right
      have run : ∀ H2 P2 x y U1 U2, Gr P H P2 H2 → Rep c P2 H2 da x U1 → Rep c P2 H2 (.dK o ks ds) y U2 → ∃ a o', y = V.ref a ∧ DGet H2 a x o' ∧ o'.isSome = (under ks ds kk).isSome := by
        intro H2 P2 x y U1 U2 g r1 r2
        obtain ⟨p, xs, e1, hh, n, ey, T', rl⟩ := (dict_under g.ph) o ks ds rfl kk z r2 r1
        exact ⟨p, _, e1, .inl ⟨_, kk, .inl hh, ey, rfl⟩, isSome_under rl n⟩
      cases neg with
      | true =>
        refine ⟨P, S, T, ρ, _, w, ea, fun x H1 P1 U1 g1 r1 => ⟨P1, S, T, ρ, _, w.grow g1, eb, fun y H2 P2 U2 g2 r2 => ?_⟩⟩
        obtain ⟨a, o', e1, dg, es⟩ := run H2 P2 x y U1 U2 (g1.trans g2) (r1.gr g2) r2
        exact ⟨a, o', e1, dg, by rw [es]; exact q H2 P2 (g1.trans g2)⟩
      | false =>
        refine ⟨P, S, T, ρ, _, w, ea, fun x H1 P1 U1 g1 r1 => ⟨P1, S, T, ρ, _, w.grow g1, eb, fun y H2 P2 U2 g2 r2 => ?_⟩⟩
        obtain ⟨a, o', e1, dg, es⟩ := run H2 P2 x y U1 U2 (g1.trans g2) (r1.gr g2) r2
        exact ⟨a, o', e1, dg, by rw [es]; exact q H2 P2 (g1.trans g2)⟩
  · cases hm
theorem opr_inS : OpR X (compareOp .In) (fun x y H Q => (∃ (c : Nat) (z : Str), x = .str ⟨#[c]⟩ ∧ y = .str z ∧ Q (.bl (if false = true then !decide (c ∈ z.cps.toList) else decide (c ∈ z.cps.toList))) H) ∨ rIn X.K false x y H Q) := OpR_or op_in_sign op_in_seq
theorem m2_split {f : D → D → Option D} {ρ : List D} {d : D} (h : m2 f ma mb ρ = some d) : ∃ da db, ma ρ = some da ∧ mb ρ = some db ∧ f da db = some d := by
  unfold m2 at h
  cases ea : ma ρ with
  | none => rw [ea] at h; cases h
  | some da =>
    cases eb : mb ρ with
    | none => rw [ea, eb] at h; cases h
    | some db => rw [ea, eb] at h; exact ⟨da, db, rfl, rfl, h⟩
theorem inD_split {x y d : D} (h : inD x y = some d) : ∃ k, inB x y = some k ∧ d = .bl k := by
  unfold inD at h
  cases z : inB x y with
  | none => rw [z] at h; cases h
  | some k => rw [z] at h; cases h; exact ⟨k, rfl, rfl⟩
theorem f_in (hu : X.A.units + 64 < cLine) (ha : PE X a (tR ⟨X.K, cl, X.w⟩ E ma)) (hb : PE X b (tR ⟨X.K, cl, X.w⟩ E mb)) (hm : behindInMarks .In b = false := by rfl) : PE X (.Compare a [.In] [b] pos) (tF ⟨X.K, cl, X.w⟩ E (m2 inD ma mb)) :=
  PE_imp (PE_or (pe_cmpR opr_inS ha hb hm) (pe_cmp (pc_din (Nat.lt_of_le_of_lt (by omega) hu) ha hb) hm)) fun σ H Q ⟨P, S, T, ρ, d, w, h, q⟩ => by
    obtain ⟨da, db, ea, eb, h⟩ := m2_split h
    obtain ⟨k, h2, rfl⟩ := inD_split h
    exact tIn_run (neg := false) w ea eb h2 fun H' P' g => q _ H' P' fz g ⟨rfl, rfl⟩ (fun _ => Nat.zero_le _) fun a z => by simp [fz] at z
theorem t_in (hu : X.A.units + 64 < cLine) (ha : PE X a (tR ⟨X.K, cl, X.w⟩ E ma)) (hb : PE X b (tR ⟨X.K, cl, X.w⟩ E mb)) (hm : behindInMarks .In b = false := by rfl) : PT X (.Compare a [.In] [b] pos) (tT ⟨X.K, cl, X.w⟩ E (bM (m2 inD ma mb))) :=
  PT_imp (PT_or (pt_cmpR opr_inS ha hb hm) (pt_cmp (pc_din (Nat.lt_of_le_of_lt (by omega) hu) ha hb) hm)) fun σ H Q ⟨P, S, T, ρ, d, w, h, q⟩ => by
    obtain ⟨da, db, ea, eb, h⟩ := m2_split (bM_some h)
    obtain ⟨k, h2, e⟩ := inD_split h
    cases e
    exact tIn_run (neg := false) (Q := fun x H' => ∃ k, x = .bl k ∧ Q k H') w ea eb h2 fun H' P' g => ⟨_, rfl, q H' P' g⟩
end
end LI

namespace LI
open PySem L2

section
variable {X : Cx} {cl : Nat → Addr} {E : En} {e a b : Expr} {pos : Pos} {m ma mb : RM}
def truD : D → Option Bool
  | .non => some false
  | .bl b => some b
  | .int i => some (i != 0)
  | .str s => if s.length ≤ LIM then some (!s.isEmpty) else none
  | .tup ds => some (!ds.isEmpty)
  | .lst _ ds => some (!ds.isEmpty)
  | .scr ns => some (!ns.isEmpty)
  | _ => none
def truM (m : RM) : BM := fun ρ => (m ρ).bind truD
theorem emp_eq {α β : Type} {xs : List α} {ys : List β} (h : xs.length = ys.length) : xs.isEmpty = ys.isEmpty := by
  cases xs <;> cases ys <;> first | rfl | (simp at h)
theorem truD_v {c : LC} {P H : Hp} (e : Ex P H) : ∀ {d : D} {v : V} {U : FP} {k : Bool}, truD d = some k → Rep c P H d v U → TruV c.K v H k
  | .non, v, U, k, h, r => by cases h; rw [r.1]; rfl
  | .bl b, v, U, k, h, r => by cases h; rw [r.1]; rfl
  | .int b, v, U, k, h, r => by cases h; rw [r.1]; rfl
  | .str s, v, U, k, h, r => by
    replace h : (if s.length ≤ LIM then some (!s.isEmpty) else none) = some k := h
    by_cases hl : s.length ≤ LIM
    · rw [if_pos hl] at h
      cases h
      rw [r.1]
      refine ⟨by rw [str_len]; exact lim_le hl, ?_⟩
      rw [str_len]
      cases s with
      | nil => rfl
      | cons x s =>
        have : ((x :: s).length : Int) ≠ 0 := by rw [List.length_cons]; omega
        simp [bne, this]
        omega
    · rw [if_neg hl] at h; cases h
  | .tup ds, v, U, k, h, ⟨a, xs, e1, hp, rl⟩ => by cases h; rw [e1]; exact .inr (.inl ⟨xs, sqt_mono e hp, by rw [emp_eq rl.length]⟩)
  | .lst o ds, v, U, k, h, r => by
    cases h
    obtain ⟨p, xs, T, e1, hh, rl, _⟩ := lst_heap e r
    rw [e1]
    exact .inl ⟨xs, .inl (.inl hh), by rw [emp_eq rl.length]⟩
  | .scr ns, v, U, k, h, ⟨a, e1, hp, _⟩ => by cases h; rw [e1]; exact .inl ⟨_, sql_mono e hp, by rw [emp_eq (List.length_map (f := V.int))]⟩
  | .gone, _, _, _, h, _ => by cases h
  | .kst _, _, _, _, h, _ => by cases h
  | .dK .., _, _, _, h, _ => by cases h
  | .dT .., _, _, _, h, _ => by cases h
  | .dN .., _, _, _, h, _ => by cases h
  | .obj .., _, _, _, h, _ => by cases h
theorem t_val (ha : PE X a (tR ⟨X.K, cl, X.w⟩ E m)) (he : ∀ whole, isTrue a X.env whole = (do let v ← whole; standAt a.pos; holding [v] (truthy v)) := by intro _; rfl) : PT X a (tT ⟨X.K, cl, X.w⟩ E (truM m)) :=
  PT_imp (pt_truth ha he) fun σ H Q ⟨P, S, T, ρ, b, w, hm, q⟩ => by
    unfold truM at hm
    cases ea : m ρ with
    | none => rw [ea] at hm; cases hm
    | some d =>
      rw [ea] at hm
      exact ⟨P, S, T, ρ, d, w, ea, fun v H' P' U g r => ⟨b, truD_v g.ph hm r, q H' P' g⟩⟩
def notB (m : BM) : BM := fun ρ => (m ρ).map not
def andB (ma mb : BM) : BM := fun ρ => (ma ρ).bind fun k => if k = true then mb ρ else some false
def orB (ma mb : BM) : BM := fun ρ => (ma ρ).bind fun k => if k = true then some true else mb ρ
theorem t_not {m : BM} (h : PT X a (tT ⟨X.K, cl, X.w⟩ E m)) : PT X (.UnaryOp .Not a pos) (tT ⟨X.K, cl, X.w⟩ E (notB m)) := PT_imp (pt_not h) fun σ H Q ⟨P, S, T, ρ, b, w, hm, q⟩ => by
  unfold notB at hm
  cases ea : m ρ with
  | none => rw [ea] at hm; cases hm
  | some k =>
    rw [ea] at hm
    cases hm
    exact ⟨P, S, T, ρ, k, w, ea, q⟩
theorem w_and1 {m : BM} (h : PT X a (tT ⟨X.K, cl, X.w⟩ E m)) : PW X (.BoolOp .And [a] pos) (tT ⟨X.K, cl, X.w⟩ E m) := pw_and1 h
theorem w_or1 {m : BM} (h : PT X a (tT ⟨X.K, cl, X.w⟩ E m)) : PW X (.BoolOp .Or [a] pos) (tT ⟨X.K, cl, X.w⟩ E m) := pw_or1 h
theorem w_and {ma mb : BM} {rest : List Expr} (h : PT X a (tT ⟨X.K, cl, X.w⟩ E ma)) (k : PW X (.BoolOp .And (b :: rest) pos) (tT ⟨X.K, cl, X.w⟩ E mb)) : PW X (.BoolOp .And (a :: b :: rest) pos) (tT ⟨X.K, cl, X.w⟩ E (andB ma mb)) :=
  PW_imp (pw_and h k) fun σ H Q ⟨P, S, T, ρ, d, w, hm, q⟩ => by
    unfold andB at hm
    cases ea : ma ρ with
    | none => rw [ea] at hm; cases hm
    | some x =>
      rw [ea] at hm
      refine ⟨P, S, T, ρ, x, w, ea, fun H' P' g => ?_⟩
      cases x with
      | true => exact iteT ⟨P', S, T, ρ, d, w.grow g, hm, fun H2 P2 g2 => q H2 P2 (g.trans g2)⟩
      | false => cases hm; exact iteF (q H' P' g)
theorem w_or {ma mb : BM} {rest : List Expr} (h : PT X a (tT ⟨X.K, cl, X.w⟩ E ma)) (k : PW X (.BoolOp .Or (b :: rest) pos) (tT ⟨X.K, cl, X.w⟩ E mb)) : PW X (.BoolOp .Or (a :: b :: rest) pos) (tT ⟨X.K, cl, X.w⟩ E (orB ma mb)) :=
  PW_imp (pw_or h k) fun σ H Q ⟨P, S, T, ρ, d, w, hm, q⟩ => by
    unfold orB at hm
    cases ea : ma ρ with
    | none => rw [ea] at hm; cases hm
    | some x =>
      rw [ea] at hm
      refine ⟨P, S, T, ρ, x, w, ea, fun H' P' g => ?_⟩
      cases x with
      | true => cases hm; exact iteT (q H' P' g)
      | false => exact iteF ⟨P', S, T, ρ, d, w.grow g, hm, fun H2 P2 g2 => q H2 P2 (g.trans g2)⟩
theorem t_w {m : BM} (h : PW X a (tT ⟨X.K, cl, X.w⟩ E m)) : PT X a (tT ⟨X.K, cl, X.w⟩ E m) := h.pt

def notD (m : RM) : RM := fun ρ => ((m ρ).bind truD).map fun k => .bl (!k)
def andM (ma mb : RM) : RM := fun ρ => (bM ma ρ).bind fun k => if k = true then mb ρ else some (.bl false)
def orM (ma mb : RM) : RM := fun ρ => (bM ma ρ).bind fun k => if k = true then some (.bl true) else mb ρ
theorem f_not (ha : PE X a (tR ⟨X.K, cl, X.w⟩ E m)) : PE X (.UnaryOp .Not a pos) (tF ⟨X.K, cl, X.w⟩ E (notD m)) := PE_imp (pe_notT ha) fun σ H Q ⟨P, S, T, ρ, d, w, hm, q⟩ => by
  unfold notD at hm
  cases ea : m ρ with
  | none => rw [ea] at hm; cases hm
  | some da =>
    rw [ea] at hm
    cases et : truD da with
    | none => rw [Option.bind_some, et] at hm; cases hm
    | some k =>
      rw [Option.bind_some, et] at hm
      cases hm
      exact ⟨P, S, T, ρ, da, w, ea, fun v H' P' U g r => ⟨k, truD_v g.ph et r, (q.grow g).flat g.ph ⟨rfl, rfl⟩⟩⟩
theorem f_one {op} {m : RM} (h : PE X a (tF ⟨X.K, cl, X.w⟩ E m)) : PE X (.BoolOp op [a] pos) (tF ⟨X.K, cl, X.w⟩ E m) := pe_one h
theorem f_and {rest : List Expr} (ha : PE X a (tR ⟨X.K, cl, X.w⟩ E ma)) (hb : PE X (.BoolOp .And (b :: rest) pos) (tF ⟨X.K, cl, X.w⟩ E mb)) : PE X (.BoolOp .And (a :: b :: rest) pos) (tF ⟨X.K, cl, X.w⟩ E (andM ma mb)) := PE_imp (pe_and ha hb) fun σ H Q ⟨P, S, T, ρ, d, w, hm, q⟩ => by
  unfold andM at hm
  cases ea : bM ma ρ with
  | none => rw [ea] at hm; cases hm
  | some k =>
    rw [ea] at hm
    refine ⟨P, S, T, ρ, .bl k, w, bM_some ea, fun v H' P' U g r => ⟨k, r.1, ?_⟩⟩
    cases k with
    | true => exact iteT ⟨P', S, T, ρ, d, w.grow g, hm, q.grow g⟩
    | false => cases hm; exact iteF ((q.grow g).flat g.ph ⟨rfl, rfl⟩)
def iteM (mc : BM) (ma mb : RM) : RM := fun ρ => (mc ρ).bind fun k => if k = true then ma ρ else mb ρ
def chM (f g : D → D → Option D) (ma mb mc : RM) : RM := fun ρ => (ma ρ).bind fun x => (mb ρ).bind fun y => (f x y).bind fun z => match z with | .bl true => (mc ρ).bind fun u => g y u | .bl false => some (.bl false) | _ => none
theorem ch_run {r r' : R2} {f g : D → D → Option D} {mc : RM} (hf : Op2 ⟨X.K, cl, X.w⟩ r f) (hg : Op2 ⟨X.K, cl, X.w⟩ r' g) {σ : St} {H : Hp} {Q : VK} (h : tF ⟨X.K, cl, X.w⟩ E (chM f g ma mb mc) σ H Q) : tChain r r' (tR ⟨X.K, cl, X.w⟩ E ma) (tR ⟨X.K, cl, X.w⟩ E mb) (tR ⟨X.K, cl, X.w⟩ E mc) σ H Q := by
  obtain ⟨P, S, T, ρ, d, w, hm, q⟩ := h
  unfold chM at hm
  cases ea : ma ρ with
  | none => rw [ea] at hm; cases hm
  | some da =>
    cases eb : mb ρ with
    | none => rw [ea, eb] at hm; cases hm
    | some db =>
      rw [ea, eb] at hm
      simp only [Option.bind_some] at hm
      cases ez : f da db with
      | none => rw [ez] at hm; cases hm
      | some z =>
        rw [ez, Option.bind_some] at hm
        refine ⟨P, S, T, ρ, da, w, ea, fun x H1 P1 U1 g1 r1 => ⟨P1, S, T, ρ, db, w.grow g1, eb, fun y H2 P2 U2 g2 r2 => ?_⟩⟩
        refine hf P2 H2 g2.ph _ _ _ _ _ _ _ ez (r1.gr g2) r2 _ fun v H3 P3 U3 g3 r3 _ _ => ?_
        split at hm
        · cases ec : mc ρ with
          | none => rw [ec] at hm; cases hm
          | some dc =>
            rw [ec] at hm
            refine ⟨true, r3.1, iteT ⟨P3, S, T, ρ, dc, ((w.grow g1).grow g2).grow g3, ec, fun u H4 P4 U4 g4 r4 => ?_⟩⟩
            exact hg P4 H4 g4.ph _ _ _ _ _ _ _ hm ((r2.gr g3).gr g4) r4 Q (q.grow (((g1.trans g2).trans g3).trans g4))
        · cases hm
          exact ⟨false, r3.1, iteF ((q.grow ((g1.trans g2).trans g3)).flat g3.ph ⟨rfl, rfl⟩)⟩
        · cases hm
theorem f_ch {r r' : R2} {f g : D → D → Option D} {mc : RM} {op op' : CmpOp} {c0 : Expr} (ho : OpR X (compareOp op) r) (hf : Op2 ⟨X.K, cl, X.w⟩ r f) (ho' : OpR X (compareOp op') r') (hg : Op2 ⟨X.K, cl, X.w⟩ r' g)
    (ha : PE X a (tR ⟨X.K, cl, X.w⟩ E ma)) (hb : PE X b (tR ⟨X.K, cl, X.w⟩ E mb)) (hc : PE X c0 (tR ⟨X.K, cl, X.w⟩ E mc)) (hm : lastMarks [op, op'] [b, c0] = false := by with_unfolding_all rfl) : PE X (.Compare a [op, op'] [b, c0] pos) (tF ⟨X.K, cl, X.w⟩ E (chM f g ma mb mc)) :=
  PE_imp (pe_chain ho ho' ha hb hc hm) fun _ _ _ h => ch_run hf hg h
def mA (f : List D → Option D) (ms : AM) : RM := fun ρ => (ms ρ).bind f
def OpA (c : LC) (r : List V → Hp → VK → Prop) (f : List D → Option D) : Prop := ∀ (P H : Hp), Ex P H → ∀ ds d vs U, f ds = some d → RepL c P H ds vs U → ∀ Q, FQ c P H d Q → r vs H Q
theorem opA_run {r : List V → Hp → VK → Prop} {f : List D → Option D} {ms : AM} (hf : OpA ⟨X.K, cl, X.w⟩ r f) {σ : St} {H : Hp} {Q : VK} (h : tF ⟨X.K, cl, X.w⟩ E (mA f ms) σ H Q) : tCB r (tAR ⟨X.K, cl, X.w⟩ E ms) σ H Q := by
  obtain ⟨P, S, T, ρ, d, w, hm, q⟩ := h
  unfold mA at hm
  cases ea : ms ρ with
  | none => rw [ea] at hm; cases hm
  | some ds =>
    rw [ea] at hm
    exact ⟨P, S, T, ρ, ds, w, ea, fun vs H1 P1 U1 g1 r1 => hf P1 H1 g1.ph ds d vs U1 hm r1 Q (q.grow g1)⟩
theorem f_blt {r : List V → Hp → VK → Prop} {f : List D → Option D} {ms : AM} {id : String} {x : Str} {es : List Expr} {p : Pos} (hc : CallR X (.builtin id) r) (hf : OpA ⟨X.K, cl, X.w⟩ r f) (hg : Gl X x) (hm : X.mg x = none) (hv : bootBuiltins x = some (.builtin id)) (ha : PA X (e :: es) (tAR ⟨X.K, cl, X.w⟩ E ms)) (hn : x ≠ "__name__" := by decide) (hdb : (x == ("__debug__" : Str)) = false := by decide)
    (he : starEach (e :: es) X.env = (false, eval e X.env) :: starEach es X.env := by rfl) (hpl : (backTo pos (starEach es X.env)).any (·.1) = false := by rfl) : PE X (.Call (.Name x p) (e :: es) [] pos) (tF ⟨X.K, cl, X.w⟩ E (mA f ms)) :=
  PE_imp (pe_callB hc hg hm hv ha hn hdb he hpl) fun _ _ _ h => opA_run hf h
theorem f_bty {r : List V → Hp → VK → Prop} {f : List D → Option D} {ms : AM} {id : String} {x : Str} {es : List Expr} {p : Pos} (hc : CallR X (.type id) r) (hf : OpA ⟨X.K, cl, X.w⟩ r f) (hg : Gl X x) (hm : X.mg x = none) (hv : bootBuiltins x = some (.type id)) (ha : PA X (e :: es) (tAR ⟨X.K, cl, X.w⟩ E ms)) (hn : x ≠ "__name__" := by decide) (hdb : (x == ("__debug__" : Str)) = false := by decide)
    (he : starEach (e :: es) X.env = (false, eval e X.env) :: starEach es X.env := by rfl) (hpl : (backTo pos (starEach es X.env)).any (·.1) = false := by rfl) : PE X (.Call (.Name x p) (e :: es) [] pos) (tF ⟨X.K, cl, X.w⟩ E (mA f ms)) :=
  PE_imp (pe_callTy hc hg hm hv ha hn hdb he hpl) fun _ _ _ h => opA_run hf h
theorem repL1 {c : LC} {P H : Hp} {d : D} {vs : List V} {U : FP} (r : RepL c P H [d] vs U) : ∃ v T, vs = [v] ∧ Rep c P H d v T := by
  obtain ⟨y, ys, T, T2, e, r1, r2, _⟩ := r
  rw [r2.1] at e
  exact ⟨y, T, e, r1⟩
theorem repL2 {c : LC} {P H : Hp} {d d2 : D} {vs : List V} {U : FP} (r : RepL c P H [d, d2] vs U) : ∃ v v2 T T2, vs = [v, v2] ∧ Rep c P H d v T ∧ Rep c P H d2 v2 T2 := by
  obtain ⟨y, ys, T, T2, e, r1, r2, _⟩ := r
  obtain ⟨v2, T3, e2, r3⟩ := repL1 r2
  rw [e2] at e
  exact ⟨y, v2, T, T3, e, r1, r3⟩
def lenD : List D → Option D
  | [.str s] => if s.length ≤ LIM then some (.int s.length) else none
  | [.tup ds] => some (.int ds.length)
  | [.lst _ ds] => some (.int ds.length)
  | [.scr ns] => some (.int ns.length)
  | [.dK _ ks _] => some (.int ks.length)
  | _ => none
def rLenA (K : PySem.W.Frag) : List V → Hp → VK → Prop := fun xs H Q => (∃ x n, xs = [x] ∧ LenV K x H n ∧ Q (.int n) H) ∨ (∃ a kvs, xs = [V.ref a] ∧ H a = some (.dK kvs) ∧ Q (.int kvs.length) H)
theorem cr_len : CallR X (.builtin "len") (rLenA X.K) := call_len.or call_lenD
theorem op_lenD {c : LC} : OpA c (rLenA c.K) lenD := by
  intro P H e ds d vs U hf r Q q
  unfold lenD at hf
  split at hf
  · split at hf
    · rename_i s hl
      cases hf
      obtain ⟨v, T, rfl, r1⟩ := repL1 r
      exact .inl ⟨_, _, rfl, by rw [r1.1]; exact ⟨by rw [str_len]; exact lim_le hl, by rw [str_len]⟩, q.flat e ⟨rfl, rfl⟩⟩
    · cases hf
  · cases hf
    obtain ⟨v, T, rfl, a, xs, rfl, h, rl⟩ := repL1 r
    exact .inl ⟨_, _, rfl, .inr ⟨xs, sqt_mono e h, rfl⟩, by rw [← rl.length]; exact q.flat e ⟨rfl, rfl⟩⟩
  · cases hf
    obtain ⟨v, T, rfl, r1⟩ := repL1 r
    obtain ⟨a, xs, T', rfl, h, rl, _⟩ := lst_heap e r1
    exact .inl ⟨_, _, rfl, .inl ⟨xs, .inl (.inl h), rfl⟩, by rw [← rl.length]; exact q.flat e ⟨rfl, rfl⟩⟩
  · cases hf
    obtain ⟨v, T, rfl, a, rfl, h, _⟩ := repL1 r
    exact .inl ⟨_, _, rfl, .inl ⟨_, sql_mono e h, rfl⟩, by rw [List.length_map]; exact q.flat e ⟨rfl, rfl⟩⟩
  · rename_i o ks ds'
    cases hf
    obtain ⟨v, T, rfl, r1⟩ := repL1 r
    right
    have : ∃ a xs, v = .ref a ∧ H a = some (.dK (ks.zip xs)) ∧ ks.length = xs.length := by
      cases o with
      | true => obtain ⟨a, xs, T, e1, h, n, _⟩ := r1; exact ⟨a, xs, e1, h, n⟩
      | false => obtain ⟨a, xs, e1, h, n, _⟩ := r1; exact ⟨a, xs, e1, e _ _ h, n⟩
    obtain ⟨a, xs, rfl, h, n⟩ := this
    refine ⟨a, _, rfl, h, ?_⟩
    rw [List.length_zip, ← n, Nat.min_self]
    exact q.flat e ⟨rfl, rfl⟩
  · cases hf
def max2D : List D → Option D
  | [.int i, .int j] => some (.int (if j > i then j else i))
  | _ => none
def min2D : List D → Option D
  | [.int i, .int j] => some (.int (if j < i then j else i))
  | _ => none
theorem op_max2D {c : LC} : OpA c (fun xs H Q => ∃ i j, xs = [.int i, .int j] ∧ Q (.int (if j > i then j else i)) H) max2D := by
  intro P H e ds d vs U hf r Q q
  unfold max2D at hf
  split at hf
  · cases hf
    obtain ⟨v, v2, T, T2, rfl, r1, r2⟩ := repL2 r
    exact ⟨_, _, by rw [r1.1, r2.1], q.flat e ⟨rfl, rfl⟩⟩
  · cases hf
theorem op_min2D {c : LC} : OpA c (fun xs H Q => ∃ i j, xs = [.int i, .int j] ∧ Q (.int (if j < i then j else i)) H) min2D := by
  intro P H e ds d vs U hf r Q q
  unfold min2D at hf
  split at hf
  · cases hf
    obtain ⟨v, v2, T, T2, rfl, r1, r2⟩ := repL2 r
    exact ⟨_, _, by rw [r1.1, r2.1], q.flat e ⟨rfl, rfl⟩⟩
  · cases hf
def intD : List D → Option D
  | [.int i] => some (.int i)
  | [.bl k] => some (.int (if k then 1 else 0))
  | _ => none
theorem op_intD {c : LC} : OpA c (fun xs H Q => (∃ i, xs = [.int i] ∧ Q (.int i) H) ∨ ∃ k, xs = [.bl k] ∧ Q (.int (if k then 1 else 0)) H) intD := by
  intro P H e ds d vs U hf r Q q
  unfold intD at hf
  split at hf
  · cases hf
    obtain ⟨v, T, rfl, r1⟩ := repL1 r
    exact .inl ⟨_, by rw [r1.1], q.flat e ⟨rfl, rfl⟩⟩
  · cases hf
    obtain ⟨v, T, rfl, r1⟩ := repL1 r
    exact .inr ⟨_, by rw [r1.1], q.flat e ⟨rfl, rfl⟩⟩
  · cases hf
def intsD : List D → Option (List Int)
  | [] => some []
  | .int i :: ds => (intsD ds).map fun is => i :: is
  | _ :: _ => none
theorem ints_v {c : LC} {P H : Hp} : ∀ {ds : List D} {xs : List V} {U : FP} {is : List Int}, intsD ds = some is → RepL c P H ds xs U → xs = is.map .int
  | [], xs, U, is, h, r => by cases h; exact r.1
  | .int i :: ds, xs, U, is, h, ⟨y, ys, T, T2, e1, r, rs, _⟩ => by
    unfold intsD at h
    cases z : intsD ds with
    | none => rw [z] at h; cases h
    | some js => rw [z] at h; cases h; rw [e1, r.1, ints_v z rs]; rfl
  | .gone :: _, _, _, _, h, _ | .non :: _, _, _, _, h, _ | .bl _ :: _, _, _, _, h, _ | .str _ :: _, _, _, _, h, _ | .scr _ :: _, _, _, _, h, _ | .kst _ :: _, _, _, _, h, _ | .tup _ :: _, _, _, _, h, _ | .lst .. :: _, _, _, _, h, _ | .dK .. :: _, _, _, _, h, _ | .dT .. :: _, _, _, _, h, _ | .dN .. :: _, _, _, _, h, _ | .obj .. :: _, _, _, _, h, _ => by simp [intsD] at h
def sumD : List D → Option D
  | [.lst _ ds] => (intsD ds).map fun is => .int is.sum
  | _ => none
theorem op_sumD {c : LC} : OpA c (rSum c.K) sumD := by
  intro P H e ds d vs U hf r Q q
  unfold sumD at hf
  split at hf
  · rename_i o ds'
    obtain ⟨v, T, rfl, r1⟩ := repL1 r
    obtain ⟨a, xs, T', rfl, h, rl, _⟩ := lst_heap e r1
    cases z : intsD ds' with
    | none => rw [z] at hf; cases hf
    | some is =>
      rw [z] at hf; cases hf
      have := ints_v z rl
      subst this
      exact ⟨a, is, rfl, .inl (.inl h), q.flat e ⟨rfl, rfl⟩⟩
  · cases hf
def listD : List D → Option D
  | [.lst _ ds] => if frzL ds = true then some (.lst true ds) else none
  | [.tup ds] => if frzL ds = true then some (.lst true ds) else none
  | [.scr ns] => some (.lst true (ns.map .int))
  | _ => none
theorem op_listD {c : LC} : OpA c (fun xs H Q => ∃ p ys, xs = [.ref p] ∧ (SqL c.K H p ys ∨ SqT c.K H p ys) ∧ ∀ l, H l = none → Q (.ref l) (upd H l (.lst ys))) listD := by
  intro P H e ds d vs U hf r Q q
  unfold listD at hf
  split at hf
  · split at hf
    · rename_i hl
      cases hf
      obtain ⟨v, T, rfl, r1⟩ := repL1 r
      obtain ⟨p, xs, rfl, hh, rl⟩ := lst_heap0 e r1 hl
      exact ⟨p, xs, rfl, .inl (.inl (.inl hh)), q.lst e rl⟩
    · cases hf
  · split at hf
    · rename_i hl
      cases hf
      obtain ⟨v, T, rfl, r1⟩ := repL1 r
      obtain ⟨p, xs, rfl, hh, _, rl⟩ := tup_heap0 e r1 hl
      exact ⟨p, xs, rfl, .inr hh, q.lst e rl⟩
    · cases hf
  · cases hf
    obtain ⟨v, T, rfl, p, rfl, hh, _⟩ := repL1 r
    exact ⟨p, _, rfl, .inl (sql_mono e hh), q.lst e (repL_ints _)⟩
  · cases hf
def tyD : D → Option String
  | .non => some "NoneType"
  | .bl _ => some "bool"
  | .int _ => some "int"
  | .str _ => some "str"
  | .scr _ => some "list"
  | .lst .. => some "list"
  | .tup _ => some "tuple"
  | .dK .. => some "dict"
  | .dT .. => some "dict"
  | _ => none
theorem ty_v {c : LC} {P H : Hp} (e : Ex P H) : ∀ {d : D} {v : V} {U : FP} {t : String}, tyD d = some t → Rep c P H d v U → TyX c.K H v (.type t)
  | .non, v, U, t, h, r => by cases h; rw [r.1]; exact .base .non
  | .bl b, v, U, t, h, r => by cases h; rw [r.1]; exact .base (.bl b)
  | .int b, v, U, t, h, r => by cases h; rw [r.1]; exact .base (.int b)
  | .str b, v, U, t, h, r => by cases h; rw [r.1]; exact .base (.str _)
  | .scr ns, v, U, t, h, ⟨a, e1, q, _⟩ => by
    cases h; rw [e1]
    rcases q with (q | ⟨o, q⟩) | ⟨o, its, n, q, q2, _⟩
    · exact .base (.lst (e _ _ q))
    · exact .base (.frz (e _ _ q))
    · exact .kList q q2
  | .tup ds, v, U, t, h, ⟨a, xs, e1, q, _⟩ => by
    cases h; rw [e1]
    rcases q with (q | ⟨o, q⟩) | ⟨o, its, n, q, q2, _⟩
    · exact .base (.tup (e _ _ q))
    · exact .fTuple (e _ _ q)
    · exact .kTuple q q2
  | .lst o ds, v, U, t, h, r => by
    cases h
    obtain ⟨a, xs, T, e1, hh, _⟩ := lst_heap e r
    rw [e1]; exact .base (.lst hh)
  | .dK true _ _, v, U, t, h, ⟨a, _, _, e1, q, _⟩ => by cases h; rw [e1]; exact .base (.dK q)
  | .dK false _ _, v, U, t, h, ⟨a, _, e1, q, _⟩ => by cases h; rw [e1]; exact .base (.dK (e _ _ q))
  | .dT true _ _, v, U, t, h, ⟨a, _, _, e1, q, _⟩ => by cases h; rw [e1]; exact .base (.dT q)
  | .dT false _ _, v, U, t, h, ⟨a, _, e1, q, _⟩ => by cases h; rw [e1]; exact .base (.dT (e _ _ q))
def isiM (ty : String) (m : RM) : RM := fun ρ => (m ρ).bind fun d => (tyD d).bind fun t => (kitB t ty).map .bl
theorem f_isi {ty : String} {b0 : Expr} {x : Str} {p : Pos} (hg : Gl X x) (hm : X.mg x = none) (hv : bootBuiltins x = some (.builtin "isinstance")) (ha : PE X a (tR ⟨X.K, cl, X.w⟩ E ma)) (hb : PE X b0 (tC (.ty ty)))
    (hn : x ≠ "__name__" := by decide) (hdb : (x == ("__debug__" : Str)) = false := by decide)
    (hs1 : starEach [a, b0] X.env = (false, eval a X.env) :: starEach [b0] X.env := by rfl) (hs2 : starEach [b0] X.env = (false, eval b0 X.env) :: starEach [] X.env := by rfl) (hpl : (backTo pos (starEach [b0] X.env)).any (·.1) = false := by rfl) : PE X (.Call (.Name x p) [a, b0] [] pos) (tF ⟨X.K, cl, X.w⟩ E (isiM ty ma)) :=
  PE_imp (pe_callB call_isi hg hm hv (pa_cons ha (pa_cons hb pa_nil hs2) hs1) hn hdb hs1 hpl) fun σ H Q ⟨P, S, T, ρ, d, w, h, q⟩ => by
    unfold isiM at h
    cases ea : ma ρ with
    | none => rw [ea] at h; cases h
    | some da =>
      rw [ea, Option.bind_some] at h
      cases et : tyD da with
      | none => rw [et] at h; cases h
      | some t =>
        rw [et, Option.bind_some] at h
        cases ek : kitB t ty with
        | none => rw [ek] at h; cases h
        | some k =>
          rw [ek] at h
          cases h
          exact ⟨P, S, T, ρ, da, w, ea, fun v H1 P1 U1 g1 r1 => ⟨v, .ty ty, .type t, .type ty, k, rfl, .ty ty, ty_v g1.ph et r1, kit_ty ek, (q.grow g1).flat g1.ph ⟨rfl, rfl⟩⟩⟩
end
end LI

namespace LI
open PySem L2

def IterOK (c : LC) (P : Hp) (J : It) (ds : List D) : Prop := ∃ (G : Hp → Prop) (Y : Nat → Hp → V → Hp → Prop), Walk J ds.length G Y ∧ (∀ P2 H2, Ex P P2 → Ex P2 H2 → G H2) ∧
  ∀ i P2 H2 x H3, Ex P P2 → Ex P2 H2 → i < ds.length → Y i H2 x H3 → ∃ P3 d, Gr P2 H2 P3 H3 ∧ ds[i]? = some d ∧ Rep c P3 H3 d x fz
def tI (c : LC) (E : En) (m : AM) : TI := fun σ H R => ∃ P S T ρ ds, Wd c E P S T σ H ρ ∧ m ρ = some ds ∧ ∀ J H' P', Gr P H P' H' → IterOK c P' J ds → R J H'
theorem PI_imp {X : Cx} {tg e : Expr} {t t' : TI} (h : PI X tg e t) (k : ∀ σ H R, t' σ H R → t σ H R) : PI X tg e t' := ⟨fun pins s σ H R I q => h.run pins s σ H R I (k σ H R q)⟩
theorem PI_or {X : Cx} {tg e : Expr} {t u : TI} (h : PI X tg e t) (k : PI X tg e u) : PI X tg e (fun σ H Q => t σ H Q ∨ u σ H Q) := ⟨fun pins s σ H Q I q => q.elim (h.run pins s σ H Q I) (k.run pins s σ H Q I)⟩
def strsD (s : List Nat) : List D := s.map fun k => .str [k]
def itemsD : D → Option (List D)
  | .lst false ds => if frzL ds = true then some ds else none
  | .tup ds => if frzL ds = true then some ds else none
  | .scr ns => some (ns.map .int)
  | .str s => some (strsD s)
  | _ => none
def itM (m : RM) : AM := fun ρ => (m ρ).bind itemsD
theorem rep_get0 {c : LC} {P H : Hp} {ds : List D} {xs : List V} {i : Nat} {x : V} (r : RepL c P H ds xs fz) (h : xs[i]? = some x) : ∃ d, ds[i]? = some d ∧ Rep c P H d x fz := by
  have hi : i < ds.length := by rw [r.length]; exact (List.getElem?_eq_some_iff.mp h).1
  obtain ⟨y, T, h1, h2, h3⟩ := r.get (List.getElem?_eq_getElem hi)
  rw [h1] at h
  cases h
  have : T = fz := by funext a; have := h3 a; simp only [fz] at this ⊢; omega
  subst this
  exact ⟨_, List.getElem?_eq_getElem hi, h2⟩
theorem iter_lst {c : LC} {P : Hp} {a : Addr} {xs : List V} {ds : List D} {H : Hp} (h : SqL c.K P a xs) (r : RepL c P H ds xs fz) (hp : ∀ H', RepL c P H' ds xs fz) : IterOK c P (Itl c.K a) ds := by
  refine ⟨_, _, by rw [r.length]; exact walk_list (xs := xs), fun P2 H2 e1 e2 => sql_mono e2 (sql_mono e1 h), fun i P2 H2 x H3 e1 e2 hi y => ?_⟩
  obtain ⟨rfl, hx⟩ := y
  obtain ⟨d, h1, h2⟩ := rep_get0 (hp H3) hx
  exact ⟨P2, d, .refl e2, h1, Rep.mono e1 d x fz (fun a o z _ => by simp [fz] at z) h2⟩
theorem iter_tup {c : LC} {P : Hp} {a : Addr} {xs : List V} {ds : List D} {H : Hp} (h : SqT c.K P a xs) (r : RepL c P H ds xs fz) (hp : ∀ H', RepL c P H' ds xs fz) : IterOK c P (Itt c.K a) ds := by
  refine ⟨_, _, by rw [r.length]; exact walk_tup (xs := xs), fun P2 H2 e1 e2 => sqt_mono e2 (sqt_mono e1 h), fun i P2 H2 x H3 e1 e2 hi y => ?_⟩
  obtain ⟨rfl, hx⟩ := y
  obtain ⟨d, h1, h2⟩ := rep_get0 (hp H3) hx
  exact ⟨P2, d, .refl e2, h1, Rep.mono e1 d x fz (fun a o z _ => by simp [fz] at z) h2⟩
theorem repL_h {c : LC} {P H H' : Hp} {ds : List D} {xs : List V} (r : RepL c P H ds xs fz) : RepL c P H' ds xs fz := RepL.mono (.refl _) ds xs fz (fun a o z _ => by simp [fz] at z) r
section
variable {X : Cx} {cl : Nat → Addr} {E : En} {e a b tg : Expr} {pos : Pos} {m ma mb : RM}
theorem i_seq (h : PE X e (tR ⟨X.K, cl, X.w⟩ E m)) : PI X tg e (tI ⟨X.K, cl, X.w⟩ E (itM m)) := by
  refine PI_imp (PI_or (pi_list h) (PI_or (pi_tup h) (pi_str h))) fun σ H R ⟨P, S, T, ρ, ds, w, hm, q⟩ => ?_
  unfold itM at hm
  cases ea : m ρ with
  | none => rw [ea] at hm; cases hm
  | some d =>
    rw [ea] at hm
    replace hm : itemsD d = some ds := hm
    unfold itemsD at hm
    split at hm
    · split at hm
      · rename_i hf
        cases hm
        refine .inl ⟨P, S, T, ρ, _, w, ea, fun v H1 P1 U1 g1 r1 => ?_⟩
        obtain ⟨p, xs, e1, hp, rl⟩ := r1
        have z := RepL.frz0 _ xs _ hf rl
        subst z
        exact ⟨p, e1, ⟨xs, .inl (.inl (g1.ph _ _ hp))⟩, q _ H1 P1 g1 (iter_lst (.inl (.inl hp)) rl fun _ => repL_h rl)⟩
      · cases hm
    · split at hm
      · rename_i hf
        cases hm
        refine .inr (.inl ⟨P, S, T, ρ, _, w, ea, fun v H1 P1 U1 g1 r1 => ?_⟩)
        obtain ⟨p, xs, e1, hp, rl⟩ := r1
        have z := RepL.frz0 _ xs _ hf rl
        subst z
        exact ⟨p, e1, ⟨xs, sqt_mono g1.ph hp⟩, q _ H1 P1 g1 (iter_tup hp rl fun _ => repL_h rl)⟩
      · cases hm
    · cases hm
      refine .inl ⟨P, S, T, ρ, _, w, ea, fun v H1 P1 U1 g1 r1 => ?_⟩
      obtain ⟨p, e1, hp, _⟩ := r1
      exact ⟨p, e1, ⟨_, sql_mono g1.ph hp⟩, q _ H1 P1 g1 (iter_lst (H := H1) hp (repL_ints _) fun _ => repL_ints _)⟩
    · rename_i s
      cases hm
      refine .inr (.inr ⟨P, S, T, ρ, _, w, ea, fun v H1 P1 U1 g1 r1 => ⟨_, r1.1, q _ H1 P1 g1 ?_⟩⟩)
      refine ⟨_, _, by rw [show (strsD s).length = (⟨s.toArray⟩ : Str).cps.size by simp [strsD]]; exact walk_str, fun _ _ _ _ => True.intro, fun i P2 H2 x H3 e1 e2 hi y => ?_⟩
      obtain ⟨rfl, k, hk, rfl⟩ := y
      refine ⟨P2, .str [k], .refl e2, ?_, ⟨rfl, rfl⟩⟩
      have hk' : s[i]? = some k := by simpa using hk
      simp [strsD, hk']
    · cases hm
def upD (lo : Int) (n : Nat) : List D := (List.range n).map fun (k : Nat) => D.int (lo + (k : Int))
def rng1M (m : RM) : AM := fun ρ => (m ρ).bind fun d => match d with | .int j => if -(2 ^ 62) ≤ j ∧ j < 2 ^ 62 then some (upD 0 j.toNat) else none | _ => none
def rng2M (ma mb : RM) : AM := fun ρ => (ma ρ).bind fun x => (mb ρ).bind fun y => match x, y with | .int i, .int j => if -(2 ^ 62) ≤ i ∧ i < 2 ^ 62 ∧ -(2 ^ 62) ≤ j ∧ j < 2 ^ 62 then some (upD i (j - i).toNat) else none | _, _ => none
theorem iter_rng {c : LC} {P : Hp} (lo : Int) (n : Nat) : IterOK c P (Itr lo n) (upD lo n) := by
  refine ⟨_, _, by rw [show (upD lo n).length = n by simp [upD]]; exact walk_range, fun _ _ _ _ => True.intro, fun i P2 H2 x H3 e1 e2 hi y => ?_⟩
  obtain ⟨rfl, rfl⟩ := y
  have hi' : i < n := by simpa [upD] using hi
  refine ⟨P2, .int (lo + (i : Int)), .refl e2, ?_, ⟨rfl, rfl⟩⟩
  simp [upD, hi']
theorem i_rng1 {p : Pos} (hg : Gl X "range") (hm : X.mg "range" = none) (ha : PE X a (tR ⟨X.K, cl, X.w⟩ E m)) (hs : starEach [a] X.env = [(false, eval a X.env)] := by rfl) : PI X tg (.Call (.Name "range" p) [a] [] pos) (tI ⟨X.K, cl, X.w⟩ E (rng1M m)) :=
  PI_imp (pi_range1 hg hm (pa_cons ha pa_nil hs) hs) fun σ H R ⟨P, S, T, ρ, ds, w, h, q⟩ => by
    unfold rng1M at h
    cases ea : m ρ with
    | none => rw [ea] at h; cases h
    | some d =>
      rw [ea] at h
      cases d with
      | int j =>
        simp only [Option.bind_some] at h
        split at h
        · rename_i hb
          cases h
          exact ⟨P, S, T, ρ, _, w, ea, fun v H1 P1 U1 g1 r1 => ⟨j, by rw [r1.1], hb.1, hb.2, q _ H1 P1 g1 (iter_rng 0 _)⟩⟩
        · cases h
      | _ => cases h
theorem i_rng2 {p : Pos} (hg : Gl X "range") (hm : X.mg "range" = none) (ha : PE X a (tR ⟨X.K, cl, X.w⟩ E ma)) (hb : PE X b (tR ⟨X.K, cl, X.w⟩ E mb)) (hs : starEach [a, b] X.env = [(false, eval a X.env), (false, eval b X.env)] := by rfl) (hs2 : starEach [b] X.env = [(false, eval b X.env)] := by rfl) :
    PI X tg (.Call (.Name "range" p) [a, b] [] pos) (tI ⟨X.K, cl, X.w⟩ E (rng2M ma mb)) :=
  PI_imp (pi_range2 hg hm (pa_cons ha (pa_cons hb pa_nil hs2) (by rw [hs, hs2])) hs hs2) fun σ H R ⟨P, S, T, ρ, ds, w, h, q⟩ => by
    unfold rng2M at h
    cases ea : ma ρ with
    | none => rw [ea] at h; cases h
    | some d =>
      cases eb : mb ρ with
      | none => rw [ea, eb] at h; cases h
      | some d2 =>
        rw [ea, eb] at h
        cases d with
        | int i =>
          cases d2 with
          | int j =>
            simp only [Option.bind_some] at h
            split at h
            · rename_i hb
              cases h
              exact ⟨P, S, T, ρ, _, w, ea, fun v H1 P1 U1 g1 r1 => ⟨P1, S, T, ρ, _, w.grow g1, eb, fun v2 H2 P2 U2 g2 r2 => ⟨i, j, by rw [r1.1, r2.1], ⟨hb.1, hb.2.1, hb.2.2.1, hb.2.2.2⟩, q _ H2 P2 (g1.trans g2) (iter_rng i _)⟩⟩⟩
            · cases h
          | _ => cases h
        | _ => cases h

abbrev TgM := D → List D → Option (List D)
theorem fa_assoc (S T U : FP) : fa (fa S T) U = fa S (fa T U) := by funext a; simp only [fa]; omega
theorem fa_comm (S T : FP) : fa S T = fa T S := by funext a; simp only [fa]; omega
theorem Wd.shrink {c : LC} {P H : Hp} {S S' T T' : FP} {σ σ' : St} {ρ ρ' : List D} (w : Wd c E P S T σ H ρ) (he : RepE c P H ρ' σ' S') (hl : ∀ a, S' a + T' a ≤ S a + T a) (ht : ∀ a, T' a ≤ T a) (hk : ∀ (i : Nat) (v : V), E.kp[i]? = some true → E.vs[i]? = some v → σ'[i]? = some (some v)) : Wd c E P S' T' σ' H ρ' :=
  ⟨he, fun a => Nat.le_trans (hl a) (w.le a), fun a h => w.out a (Nat.lt_of_lt_of_le h (hl a)), fun a h => w.th a (Nat.lt_of_lt_of_le h (ht a)), w.ph, w.p0, w.fr, w.np, fun a h => w.ns a (Nat.lt_of_lt_of_le h (hl a)), hk⟩
theorem Wd.drop {c : LC} {P H : Hp} {S T U : FP} {σ : St} {ρ : List D} (w : Wd c E P S (fa T U) σ H ρ) : Wd c E P S T σ H ρ := w.shrink w.env (fun a => by simp only [fa]; omega) (fun a => by simp only [fa]; omega) w.kp
theorem RepE.set {c : LC} {P H : Hp} {d : D} {v : V} {U : FP} (r : Rep c P H d v U) : ∀ {ρ : List D} {σ : St} {S : FP} (i : Nat), RepE c P H ρ σ S → ∃ S', RepE c P H (ρ.set i d) (σ.set i (some v)) S' ∧ ∀ a, S' a ≤ S a + U a
  | [], [], S, i, h => ⟨S, h, fun a => by omega⟩
  | d0 :: ρ, v0 :: σ, S, 0, ⟨T, T2, h1, h2, f⟩ => ⟨fa U T2, ⟨U, T2, r, h2, rfl⟩, fun a => by rw [f]; simp only [fa]; omega⟩
  | d0 :: ρ, v0 :: σ, S, i + 1, ⟨T, T2, h1, h2, f⟩ => by
    obtain ⟨S', k1, k2⟩ := RepE.set r i h2
    exact ⟨fa T S', ⟨T, S', h1, k1, rfl⟩, fun a => by have := k2 a; rw [f]; simp only [fa]; omega⟩
  | [], _ :: _, _, _, h => h.elim
  | _ :: _, [], _, _, h => h.elim
theorem Wd.store {c : LC} {P H : Hp} {S T U : FP} {σ : St} {ρ : List D} {d : D} {v : V} (w : Wd c E P S (fa T U) σ H ρ) (r : Rep c P H d v U) (i : Nat) (hk : E.kp[i]? ≠ some true) : ∃ S', Wd c E P S' T (σ.set i (some v)) H (ρ.set i d) := by
  obtain ⟨S', h1, h2⟩ := RepE.set r i w.env
  refine ⟨S', w.shrink h1 (fun a => by have := h2 a; simp only [fa]; omega) (fun a => by simp only [fa]; omega) fun j u h3 h4 => ?_⟩
  have : j ≠ i := fun z => hk (z ▸ h3)
  rw [List.getElem?_set_ne (Ne.symm this)]
  exact w.kp j u h3 h4
def tPG (c : LC) (E : En) (tl : List Nat) (f : TgM) : TG := fun v σ H Q => ∃ P S T U ρ d ρ', Wd c E P S (fa T U) σ H ρ ∧ Rep c P H d v U ∧ f d ρ = some ρ' ∧
  ∀ σ' S', Wd c E P S' T σ' H ρ' → σ'.length = σ.length → (∀ j, j ∉ tl → σ'[j]? = σ[j]?) → Q σ' H
def tPGs (c : LC) (E : En) (tl : List Nat) (f : List D → List D → Option (List D)) : TGs := fun vs σ H Q => ∃ P S T U ρ ds ρ', Wd c E P S (fa T U) σ H ρ ∧ RepL c P H ds vs U ∧ f ds ρ = some ρ' ∧
  ∀ σ' S', Wd c E P S' T σ' H ρ' → σ'.length = σ.length → (∀ j, j ∉ tl → σ'[j]? = σ[j]?) → Q σ' H
theorem PG_imp {t t' : TG} (h : PG X e t) (k : ∀ v σ H Q, t' v σ H Q → t v σ H Q) : PG X e t' := ⟨fun pins s σ H v u Q I r q => h.run pins s σ H v u Q I r (k v σ H Q q)⟩
theorem PGs_imp {es : List Expr} {t t' : TGs} (h : PGs X es t) (k : ∀ v σ H Q, t' v σ H Q → t v σ H Q) : PGs X es t' := ⟨fun pins s σ H v u Q I r q => h.run pins s σ H v u Q I r (k v σ H Q q)⟩
def nameT (i : Nat) : TgM := fun d ρ => some (ρ.set i d)
def tupT (f : List D → List D → Option (List D)) : TgM := fun d ρ => match d with | .tup ds => f ds ρ | _ => none
def nilT : List D → List D → Option (List D) := fun ds ρ => match ds with | [] => some ρ | _ => none
def consT (f : TgM) (g : List D → List D → Option (List D)) : List D → List D → Option (List D) := fun ds ρ => match ds with | d :: ds => (f d ρ).bind fun ρ => g ds ρ | _ => none
theorem g_name (i : Nat) {x : Str} (hN : X.N.Nodup) (hi : X.N[i]? = some x) (hx : Loc X.env.scope x) (hk : E.kp[i]? ≠ some true) (hf : X.fn x = true ∨ X.env.scope.names.lookup x = some .local := by first | exact .inl rfl | exact .inr rfl | assumption) : PG X (.Name x pos) (tPG ⟨X.K, cl, X.w⟩ E [i] (nameT i)) :=
  PG_imp (pg_name hN hi hx hf) fun v σ H Q ⟨P, S, T, U, ρ, d, ρ', w, r, hm, q⟩ => by
    cases hm
    obtain ⟨S', w'⟩ := w.store r i hk
    exact q _ S' w' (by simp) fun j hj => List.getElem?_set_ne (fun z => hj (by simp [z]))
theorem gs_nil : PGs X [] (tPGs ⟨X.K, cl, X.w⟩ E [] nilT) := PGs_imp pgs_nil fun v σ H Q ⟨P, S, T, U, ρ, ds, ρ', w, r, hm, q⟩ => by
  cases ds with
  | nil => cases hm; exact ⟨r.1, q σ S (w.drop) rfl fun _ _ => rfl⟩
  | cons _ _ => cases hm
theorem gs_cons {es : List Expr} {tl tl2 : List Nat} {f : TgM} {g : List D → List D → Option (List D)} (h1 : PG X e (tPG ⟨X.K, cl, X.w⟩ E tl f)) (h2 : PGs X es (tPGs ⟨X.K, cl, X.w⟩ E tl2 g))
    (hs : (assignEach (e :: es) X.env).map (·.2) = assign e X.env :: (assignEach es X.env).map (·.2) := by rfl) : PGs X (e :: es) (tPGs ⟨X.K, cl, X.w⟩ E (tl ++ tl2) (consT f g)) := PGs_imp (pgs_cons h1 h2 hs) fun v σ H Q ⟨P, S, T, U, ρ, ds, ρ', w, r, hm, q⟩ => by
  cases ds with
  | nil => cases hm
  | cons d ds =>
    obtain ⟨y, ys, U1, U2, e1, r1, r2, hu⟩ := r
    subst hu
    replace hm : ((f d ρ).bind fun ρ => g ds ρ) = some ρ' := hm
    cases ef : f d ρ with
    | none => rw [ef] at hm; cases hm
    | some ρ1 =>
      rw [ef] at hm
      refine ⟨y, ys, e1, P, S, fa T U2, U1, ρ, d, ρ1, ?_, r1, ef, fun σ1 S1 w1 l1 k1 => ⟨P, S1, T, U2, ρ1, ds, ρ', w1, r2, hm, fun σ2 S2 w2 l2 k2 => q σ2 S2 w2 (l2.trans l1) fun j hj => ?_⟩⟩
      · have : fa (fa T U2) U1 = fa T (fa U1 U2) := by rw [fa_assoc, fa_comm U2 U1]
        rw [this]; exact w
      · simp only [List.mem_append, not_or] at hj
        rw [k2 j hj.2, k1 j hj.1]
theorem g_tup {es : List Expr} {k : Nat} {tl : List Nat} {f : List D → List D → Option (List D)} {n : Nat} (hc : X.calm = true) (h : PGs X es (tPGs ⟨X.K, cl, X.w⟩ E tl f))
    (hn : (assignEach es X.env).length = n := by rfl) (hst : (assignEach es X.env).findIdx? (·.1) = none := by rfl) (hlen : ∀ ds ρ ρ', f ds ρ = some ρ' → ds.length = n := by intro ds ρ ρ' h; rcases ds with _ | ⟨_, ds⟩ <;> simp_all) : PG X (.Tuple es k pos) (tPG ⟨X.K, cl, X.w⟩ E tl (tupT f)) := PG_imp (pg_tup hc h hn hst) fun v σ H Q ⟨P, S, T, U, ρ, d, ρ', w, r, hm, q⟩ => by
  cases d with
  | tup ds =>
    obtain ⟨a, xs, e1, hp, rl⟩ := r
    exact ⟨a, xs, e1, sqt_mono w.ph hp, by rw [← rl.length]; exact hlen ds ρ ρ' hm, P, S, T, U, ρ, ds, ρ', w, rl, hm, q⟩
  | _ => cases hm
theorem len_nil {ds ρ ρ' : List D} (h : nilT ds ρ = some ρ') : ds.length = 0 := by cases ds <;> first | rfl | cases h
theorem len_cons {f : TgM} {g : List D → List D → Option (List D)} {n : Nat} (hg : ∀ ds ρ ρ', g ds ρ = some ρ' → ds.length = n) (ds ρ ρ' : List D) (h : consT f g ds ρ = some ρ') : ds.length = n + 1 := by
  cases ds with
  | nil => cases h
  | cons d ds =>
    replace h : ((f d ρ).bind fun ρ => g ds ρ) = some ρ' := h
    cases ef : f d ρ with
    | none => rw [ef] at h; cases h
    | some ρ1 => rw [ef] at h; rw [List.length_cons, hg ds ρ1 ρ' h]
end

def goneAt (ρ : List D) : List Nat → List D
  | [] => ρ
  | v :: vs => (goneAt ρ vs).set v .gone
section
variable {X : Cx} {cl : Nat → Addr} {E : En} {e a b tg : Expr} {pos : Pos} {m ma mb : RM}
theorem RepE.gone {c : LC} {P H : Hp} : ∀ {ρ : List D} {σ : St} {S : FP} (i : Nat), RepE c P H ρ σ S → ∃ S', RepE c P H (ρ.set i .gone) (σ.set i none) S' ∧ ∀ a, S' a ≤ S a
  | [], [], S, i, h => ⟨S, h, fun a => Nat.le_refl _⟩
  | d0 :: ρ, v0 :: σ, S, 0, ⟨T, T2, h1, h2, f⟩ => ⟨fa fz T2, ⟨fz, T2, ⟨rfl, rfl⟩, h2, rfl⟩, fun a => by rw [f]; simp only [fa, fz]; omega⟩
  | d0 :: ρ, v0 :: σ, S, i + 1, ⟨T, T2, h1, h2, f⟩ => by
    obtain ⟨S', k1, k2⟩ := RepE.gone i h2
    exact ⟨fa T S', ⟨T, S', h1, k1, rfl⟩, fun a => by have := k2 a; rw [f]; simp only [fa]; omega⟩
  | [], _ :: _, _, _, h => h.elim
  | _ :: _, [], _, _, h => h.elim
theorem RepE.wipe {c : LC} {P H : Hp} {ρ : List D} {σ : St} {S : FP} (h : RepE c P H ρ σ S) : ∀ vs : List Nat, ∃ S', RepE c P H (goneAt ρ vs) (L2.wipe σ vs) S' ∧ ∀ a, S' a ≤ S a
  | [] => ⟨S, h, fun _ => Nat.le_refl _⟩
  | v :: vs => by
    obtain ⟨S1, h1, h2⟩ := RepE.wipe h vs
    obtain ⟨S2, h3, h4⟩ := RepE.gone v h1
    exact ⟨S2, h3, fun a => Nat.le_trans (h4 a) (h2 a)⟩
theorem wipe_at {σ : St} : ∀ {vs : List Nat} {j : Nat}, j ∉ vs → (L2.wipe σ vs)[j]? = σ[j]?
  | [], j, _ => rfl
  | v :: vs, j, h => by
    simp only [List.mem_cons, not_or] at h
    unfold L2.wipe
    rw [List.getElem?_set_ne (fun z => h.1 z.symm), wipe_at h.2]
theorem wipe_in {σ : St} : ∀ {vs : List Nat} {j : Nat}, j ∈ vs → j < σ.length → (L2.wipe σ vs)[j]? = some none
  | v :: vs, j, h, hl => by
    unfold L2.wipe
    by_cases z : v = j
    · subst z; rw [List.getElem?_set_self (by rw [wipe_length]; exact hl)]
    · rw [List.getElem?_set_ne z]
      exact wipe_in (by simpa [Ne.symm z] using h) hl
theorem wipe_eq {σ σ' : St} {vs : List Nat} (hl : σ'.length = σ.length) (h : ∀ j, j ∉ vs → σ'[j]? = σ[j]?) : L2.wipe σ' vs = L2.wipe σ vs := by
  apply List.ext_getElem?
  intro j
  by_cases hj : j ∈ vs
  · by_cases z : j < σ.length
    · rw [wipe_in hj (by omega), wipe_in hj z]
    · rw [List.getElem?_eq_none (by rw [wipe_length]; omega), List.getElem?_eq_none (by rw [wipe_length]; omega)]
  · rw [wipe_at hj, wipe_at hj, h j hj]
theorem wipe_wipe (σ : St) (vs : List Nat) : L2.wipe (L2.wipe σ vs) vs = L2.wipe σ vs := wipe_eq (wipe_length _ _) fun j hj => wipe_at hj
theorem Wd.wipe {c : LC} {P H : Hp} {S T : FP} {σ : St} {ρ : List D} (w : Wd c E P S T σ H ρ) (vs : List Nat) (hk : ∀ j ∈ vs, E.kp[j]? ≠ some true) : ∃ S', Wd c E P S' T (L2.wipe σ vs) H (goneAt ρ vs) := by
  obtain ⟨S', h1, h2⟩ := RepE.wipe w.env vs
  refine ⟨S', w.shrink h1 (fun a => by have := h2 a; omega) (fun _ => Nat.le_refl _) fun i v h3 h4 => ?_⟩
  rw [wipe_at fun z => hk i z h3]
  exact w.kp i v h3 h4
def compL (f : TgM) (mc : BM) (me : RM) (ρ0 : List D) : List D → Option (List D)
  | [] => some []
  | d :: ds => (f d ρ0).bind fun ρ1 => (mc ρ1).bind fun k => if k = true then (me ρ1).bind fun y => if frz y = true then (compL f mc me ρ0 ds).map fun ys => y :: ys else none else compL f mc me ρ0 ds
def compM (vs : List Nat) (f : TgM) (mc : BM) (me : RM) (ms : AM) : RM := fun ρ => (ms ρ).bind fun ds => if ds.length ≤ LIM then (compL f mc me (goneAt ρ vs) ds).map (.lst true) else none
def yesB : BM := fun _ => some true
theorem compL_len {f : TgM} {mc : BM} {me : RM} {ρ0 : List D} : ∀ {ds ys : List D}, compL f mc me ρ0 ds = some ys → ys.length ≤ ds.length
  | [], ys, h => by cases h; exact Nat.le_refl _
  | d :: ds, ys, h => by
    unfold compL at h
    cases e1 : f d ρ0 with
    | none => rw [e1] at h; cases h
    | some ρ1 =>
      cases e2 : mc ρ1 with
      | none => rw [e1, Option.bind_some, e2] at h; cases h
      | some k =>
        rw [e1, Option.bind_some, e2, Option.bind_some] at h
        split at h
        · cases e3 : me ρ1 with
          | none => rw [e3] at h; cases h
          | some y =>
            rw [e3, Option.bind_some] at h
            split at h
            · cases e4 : compL f mc me ρ0 ds with
              | none => rw [e4] at h; cases h
              | some zs => rw [e4] at h; cases h; have := compL_len e4; simp; omega
            · cases h
        · have := compL_len h; simp; omega
theorem compL_turn {f : TgM} {mc : BM} {me : RM} {ρ0 : List D} : ∀ {ds ys : List D} {i : Nat} {d : D}, compL f mc me ρ0 ds = some ys → ds[i]? = some d → ∃ zs ρ1 k, compL f mc me ρ0 (ds.take i) = some zs ∧ f d ρ0 = some ρ1 ∧ mc ρ1 = some k ∧
    (k = true → ∃ y, me ρ1 = some y ∧ frz y = true ∧ compL f mc me ρ0 (ds.take (i + 1)) = some (zs ++ [y])) ∧ (k = false → compL f mc me ρ0 (ds.take (i + 1)) = some zs)
  | [], ys, i, d, h, e => by simp at e
  | d0 :: ds, ys, i, d, h, e => by
    unfold compL at h
    cases e1 : f d0 ρ0 with
    | none => rw [e1] at h; cases h
    | some ρ1 =>
      cases e2 : mc ρ1 with
      | none => rw [e1, Option.bind_some, e2] at h; cases h
      | some k =>
        rw [e1, Option.bind_some, e2, Option.bind_some] at h
        cases i with
        | zero =>
          simp at e; subst e
          refine ⟨[], ρ1, k, rfl, e1, e2, fun hk => ?_, fun hk => ?_⟩
          · subst hk
            rw [if_pos rfl] at h
            cases e3 : me ρ1 with
            | none => rw [e3] at h; cases h
            | some y =>
              rw [e3, Option.bind_some] at h
              split at h
              · rename_i hf
                exact ⟨y, rfl, hf, by simp [compL, e1, e2, e3, hf]⟩
              · cases h
          · subst hk; simp [compL, e1, e2]
        | succ i =>
          have e' : ds[i]? = some d := by simpa using e
          cases k with
          | true =>
            rw [if_pos rfl] at h
            cases e3 : me ρ1 with
            | none => rw [e3] at h; cases h
            | some y =>
              rw [e3, Option.bind_some] at h
              split at h
              · rename_i hf
                cases e4 : compL f mc me ρ0 ds with
                | none => rw [e4] at h; cases h
                | some ws =>
                  obtain ⟨zs, ρ2, k2, h1, h2, h3, h4, h5⟩ := compL_turn e4 e'
                  refine ⟨y :: zs, ρ2, k2, by simp [compL, e1, e2, e3, hf, h1], h2, h3, fun z => ?_, fun z => ?_⟩
                  · obtain ⟨y2, k3, k4, k5⟩ := h4 z
                    exact ⟨y2, k3, k4, by simp [compL, e1, e2, e3, hf, k5]⟩
                  · simp [compL, e1, e2, e3, hf, h5 z]
              · cases h
          | false =>
            rw [if_neg (by decide)] at h
            obtain ⟨zs, ρ2, k2, h1, h2, h3, h4, h5⟩ := compL_turn h e'
            refine ⟨zs, ρ2, k2, by simp [compL, e1, e2, h1], h2, h3, fun z => ?_, fun z => ?_⟩
            · obtain ⟨y2, k3, k4, k5⟩ := h4 z
              exact ⟨y2, k3, k4, by simp [compL, e1, e2, k5]⟩
            · simp [compL, e1, e2, h5 z]
def tTs (c : LC) (E : En) (mc : BM) : TT := tT c E mc
theorem ts_nil : PTs X [] (tTs ⟨X.K, cl, X.w⟩ E yesB) := ⟨fun pins s σ H Q I ⟨P, S, T, ρ, b, w, hm, q⟩ => by
  cases hm
  exact pts_nil.run pins s σ H Q I (q H P (.refl w.ph))⟩
theorem ts_one {c0 : Expr} {mc : BM} (h : PT X c0 (tT ⟨X.K, cl, X.w⟩ E mc)) : PTs X [c0] (tTs ⟨X.K, cl, X.w⟩ E mc) := pts_one h
end
end LI

namespace LI
open PySem L2

inductive Fl where
  | nx | rt (d : D) | bk | ct | ex (n : Nat) (fs : List Str) (es : List D)
def XE1 (c : LC) (W : WX) (n : Nat) (fs : List Str) (vs : List V) (σ' : St) (H' : Hp) : Prop :=
  (fs = [] → W (.ref (c.cl n)) none σ' H') ∧ (fs ≠ [] → ∀ dd, H' dd = none → W (.ref (c.cl n)) (some dd) σ' (upd H' dd (.xd (fs.zip vs))))
abbrev SM := List D → Option (Fl × List D)
def SPost (c : LC) (E : En) (P : Hp) (D : Ends) : Fl → List LI.D → Prop
  | .nx, ρ' => ∀ σ' H' P' S', Wd c E P' S' fz σ' H' ρ' → Ex P P' → D.nx σ' H'
  | .rt d, ρ' => ∀ v σ' H' P' S' U, Wd c E P' S' U σ' H' ρ' → Rep c P' H' d v U → D.rt v H'
  | .bk, ρ' => ∀ σ' H' P' S', Wd c E P' S' fz σ' H' ρ' → Ex P P' → D.bk σ' H'
  | .ct, ρ' => ∀ σ' H' P' S', Wd c E P' S' fz σ' H' ρ' → Ex P P' → D.ct σ' H'
  | .ex n fs es, ρ' => ∀ vs σ' H' P' S' U, Wd c E P' S' U σ' H' ρ' → Ex P P' → RepL c P' H' es vs fz → XE1 c E.xw n fs vs σ' H'
def tS (c : LC) (E : En) (m : SM) : TS := fun D σ H => ∃ P S ρ fl ρ', Wd c E P S fz σ H ρ ∧ m ρ = some (fl, ρ') ∧ SPost c E P D fl ρ'
theorem SPost.mono {c : LC} {E : En} {P P2 : Hp} {D : Ends} {fl : Fl} {ρ' : List LI.D} (h : SPost c E P D fl ρ') (e : Ex P P2) : SPost c E P2 D fl ρ' := by
  cases fl with
  | nx => exact fun σ' H' P' S' w x => h σ' H' P' S' w (e.trans x)
  | rt d => exact h
  | bk => exact fun σ' H' P' S' w x => h σ' H' P' S' w (e.trans x)
  | ct => exact fun σ' H' P' S' w x => h σ' H' P' S' w (e.trans x)
  | ex n fs es => exact fun vs σ' H' P' S' U w x => h vs σ' H' P' S' U w (e.trans x)
section
variable {X : Cx} {cl : Nat → Addr} {E : En} {e a b tg : Expr} {pos : Pos} {m ma mb : SM} {g : GM}
def skipM : SM := fun ρ => some (.nx, ρ)
def seqM (m1 m2 : SM) : SM := fun ρ => (m1 ρ).bind fun r => match r.1 with | .nx => m2 r.2 | _ => some r
theorem s_nil : PSs X [] (tS ⟨X.K, cl, X.w⟩ E skipM) := PSs_imp pss_nil fun D σ H ⟨P, S, ρ, fl, ρ', w, hm, q⟩ => by
  cases hm
  exact q σ H P S w (.refl _)
theorem seq_run {c : LC} {D : Ends} {σ : St} {H : Hp} (h : tS c E (seqM ma mb) D σ H) : tSeq (tS c E ma) (tS c E mb) D σ H := by
  obtain ⟨P, S, ρ, fl, ρ', w, hm, q⟩ := h
  unfold seqM at hm
  cases ea : ma ρ with
  | none => rw [ea] at hm; cases hm
  | some r =>
    obtain ⟨f1, ρ1⟩ := r
    rw [ea, Option.bind_some] at hm
    refine ⟨P, S, ρ, f1, ρ1, w, ea, ?_⟩
    cases f1 with
    | nx => exact fun σ' H' P' S' w' x => ⟨P', S', ρ1, fl, ρ', w', hm, q.mono x⟩
    | rt d => cases hm; exact q
    | bk => cases hm; exact q
    | ct => cases hm; exact q
    | ex n fs es => cases hm; exact q
theorem s_cons {st : Stmt} {rest : List Stmt} (h1 : PS X st (tS ⟨X.K, cl, X.w⟩ E ma)) (h2 : PSs X rest (tS ⟨X.K, cl, X.w⟩ E mb)) : PSs X (st :: rest) (tS ⟨X.K, cl, X.w⟩ E (seqM ma mb)) := PSs_imp (pss_cons h1 h2) fun _ _ _ h => seq_run h
theorem RepE.forget {c : LC} {P H : Hp} : ∀ {ρ : List D} {σ : St} {S : FP} (i : Nat), RepE c P H ρ σ S → ∃ S', RepE c P H (ρ.set i .gone) σ S' ∧ ∀ a, S' a ≤ S a
  | [], [], S, i, h => ⟨S, h, fun a => Nat.le_refl _⟩
  | d0 :: ρ, v0 :: σ, S, 0, ⟨T, T2, h1, h2, f⟩ => ⟨fa fz T2, ⟨fz, T2, by cases v0 <;> first | exact ⟨rfl, rfl⟩ | exact rfl, h2, rfl⟩, fun a => by rw [f]; simp only [fa, fz]; omega⟩
  | d0 :: ρ, v0 :: σ, S, i + 1, ⟨T, T2, h1, h2, f⟩ => by
    obtain ⟨S', k1, k2⟩ := RepE.forget i h2
    exact ⟨fa T S', ⟨T, S', h1, k1, rfl⟩, fun a => by have := k2 a; rw [f]; simp only [fa]; omega⟩
  | [], _ :: _, _, _, h => h.elim
  | _ :: _, [], _, _, h => h.elim
theorem Wd.forget {c : LC} {P H : Hp} {S T : FP} {σ : St} {ρ : List D} (w : Wd c E P S T σ H ρ) : ∀ vs : List Nat, ∃ S', Wd c E P S' T σ H (goneAt ρ vs)
  | [] => ⟨S, w⟩
  | v :: vs => by
    obtain ⟨S1, w1⟩ := Wd.forget w vs
    obtain ⟨S2, h1, h2⟩ := RepE.forget v w1.env
    exact ⟨S2, w1.shrink h1 (fun a => by have := h2 a; omega) (fun _ => Nat.le_refl _) w1.kp⟩
def killM (vs : List Nat) (m : SM) : SM := fun ρ => m (goneAt ρ vs)
theorem s_kill (vs : List Nat) {sts : List Stmt} (h : PSs X sts (tS ⟨X.K, cl, X.w⟩ E m)) : PSs X sts (tS ⟨X.K, cl, X.w⟩ E (killM vs m)) := PSs_imp h fun D σ H ⟨P, S, ρ, fl, ρ', w, hm, q⟩ => by
  obtain ⟨S', w'⟩ := w.forget vs
  exact ⟨P, S', _, fl, ρ', w', hm, q⟩

theorem g_run {c : LC} {σ : St} {H : Hp} {Q : VK} {P : Hp} {S : FP} {ρ ρ1 : List D} {d : D} (w : Wd c E P S fz σ H ρ) (hg : g ρ = some (d, ρ1)) (q : ∀ v H' P' S' U, Wd c E P' S' U σ H' ρ1 → Ex P P' → Rep c P' H' d v U → Q v H') : tG c E g σ H Q :=
  ⟨P, S, fz, ρ, d, ρ1, w, hg, fun v H' P' S' U w' e r _ => q v H' P' S' U (by rw [fz_fa] at w'; exact w') e r⟩
def asgM (f : TgM) (g : GM) : SM := fun ρ => (g ρ).bind fun r => (f r.1 r.2).map fun ρ' => (.nx, ρ')
theorem s_set (i : Nat) {x : Str} {pos' : Pos} (hN : X.N.Nodup) (hi : X.N[i]? = some x) (hx : Loc X.env.scope x) (hk : E.kp[i]? ≠ some true) (he : PE X e (tG ⟨X.K, cl, X.w⟩ E g)) (hs : swapsWith e (some (.Name x pos')) pos.line X.env = pure false := by rfl) (hf : X.fn x = true ∨ X.env.scope.names.lookup x = some .local := by first | exact .inl rfl | exact .inr rfl | assumption) :
    PS X (.Assign [.Name x pos'] e pos) (tS ⟨X.K, cl, X.w⟩ E (asgM (nameT i) g)) := PS_imp (ps_set hN hi hx he hs hf) fun D σ H ⟨P, S, ρ, fl, ρ', w, hm, q⟩ => by
  unfold asgM at hm
  cases eg : g ρ with
  | none => rw [eg] at hm; cases hm
  | some r =>
    obtain ⟨d, ρ1⟩ := r
    rw [eg] at hm
    cases hm
    exact g_run w eg fun v H' P' S' U w' e r => by
      obtain ⟨S2, w2⟩ := (show Wd ⟨X.K, cl, X.w⟩ E P' S' (fa fz U) σ H' ρ1 by rw [fz_fa]; exact w').store r i hk
      exact q _ H' P' S2 w2 e
def exprM (g : GM) : SM := fun ρ => (g ρ).map fun r => (.nx, r.2)
theorem s_expr (he : PE X e (tG ⟨X.K, cl, X.w⟩ E g)) (hs : swapsWith e none pos.line X.env = pure false := by rfl) : PS X (.Expr e pos) (tS ⟨X.K, cl, X.w⟩ E (exprM g)) := PS_imp (ps_expr he hs) fun D σ H ⟨P, S, ρ, fl, ρ', w, hm, q⟩ => by
  unfold exprM at hm
  cases eg : g ρ with
  | none => rw [eg] at hm; cases hm
  | some r =>
    rw [eg] at hm
    cases hm
    exact g_run w eg fun v H' P' S' U w' e r => q σ H' P' S' (Wd.drop (U := U) (by rw [fz_fa]; exact w')) e
def retM (g : GM) : SM := fun ρ => (g ρ).map fun r => (.rt r.1, r.2)
theorem s_ret (he : PE X e (tG ⟨X.K, cl, X.w⟩ E g)) : PS X (.Return (some e) pos) (tS ⟨X.K, cl, X.w⟩ E (retM g)) := PS_imp (ps_ret he) fun D σ H ⟨P, S, ρ, fl, ρ', w, hm, q⟩ => by
  unfold retM at hm
  cases eg : g ρ with
  | none => rw [eg] at hm; cases hm
  | some r =>
    rw [eg] at hm
    cases hm
    exact g_run w eg fun v H' P' S' U w' e r => q v σ H' P' S' U w' r
def bkM : SM := fun ρ => some (.bk, ρ)
theorem s_bk : PS X (.Break pos) (tS ⟨X.K, cl, X.w⟩ E bkM) := PS_imp ps_break fun D σ H ⟨P, S, ρ, fl, ρ', w, hm, q⟩ => by
  cases hm; exact q σ H P S w (.refl _)
def noM' : SM := fun _ => none
def ifM (mc : BM) (ma mb : SM) : SM := fun ρ => (mc ρ).bind fun k => if k = true then ma ρ else mb ρ
theorem s_if {mc : BM} {sa sb : List Stmt} (hc : PT X e (tT ⟨X.K, cl, X.w⟩ E mc)) (ha : PSs X sa (tS ⟨X.K, cl, X.w⟩ E ma)) (hb : PSs X sb (tS ⟨X.K, cl, X.w⟩ E mb)) : PS X (.If e sa sb pos) (tS ⟨X.K, cl, X.w⟩ E (ifM mc ma mb)) := PS_imp (ps_if hc ha hb) fun D σ H ⟨P, S, ρ, fl, ρ', w, hm, q⟩ => by
  unfold ifM at hm
  cases ec : mc ρ with
  | none => rw [ec] at hm; cases hm
  | some k =>
    rw [ec, Option.bind_some] at hm
    refine ⟨P, S, fz, ρ, k, w, ec, fun H' P' g => ?_⟩
    cases k with
    | true => exact iteT ⟨P', S, ρ, fl, ρ', w.grow g, hm, q.mono g.p⟩
    | false => exact iteF ⟨P', S, ρ, fl, ρ', w.grow g, hm, q.mono g.p⟩

def forL (f : TgM) (body : SM) (kl : List Nat) : List D → List D → Option (Fl × List D)
  | [], ρ => some (.nx, ρ)
  | d :: ds, ρ => (f d ρ).bind fun ρ1 => (body ρ1).bind fun r => match r.1 with
    | .nx => forL f body kl ds (goneAt r.2 kl)
    | .ct => forL f body kl ds (goneAt r.2 kl)
    | .bk => some (.nx, goneAt r.2 kl)
    | .rt d => some (.rt d, r.2)
    | .ex n fs es => some (.ex n fs es, r.2)
def forM (f : TgM) (body : SM) (kl : List Nat) (ms : AM) : SM := fun ρ => (ms ρ).bind fun ds => forL f body kl ds ρ
theorem for_run {c : LC} {tl kl : List Nat} {f : TgM} {body : SM} {ms : AM} {D : Ends} {σ : St} {H : Hp} (h : tS c E (forM f body kl ms) D σ H) : tFor (tI c E ms) (tPG c E tl f) (tS c E body) D σ H := by
  obtain ⟨P, S, ρ, fl, ρ', w, hm, q⟩ := h
  unfold forM at hm
  cases es : ms ρ with
  | none => rw [es] at hm; cases hm
  | some ds =>
    rw [es, Option.bind_some] at hm
    refine ⟨P, S, fz, ρ, ds, w, es, fun J H1 P1 g1 io => ?_⟩
    obtain ⟨G, Y, wk, hG, hY⟩ := io
    refine for_it wk (fun i σi Hi => ∃ P2 S2 ρi, Wd c E P2 S2 fz σi Hi ρi ∧ Ex P1 P2 ∧ forL f body kl (ds.drop i) ρi = some (fl, ρ')) ?_ ?_ ?_ ?_
    · exact ⟨P1, S, ρ, w.grow g1, .refl _, hm⟩
    · rintro i σi Hi hi ⟨P2, S2, ρi, w2, e2, _⟩
      exact hG P2 Hi e2 w2.ph
    · rintro i x σi Hi H3 hi ⟨P2, S2, ρi, w2, e2, hf⟩ y
      obtain ⟨P3, d, g3, hd, rd⟩ := hY i P2 Hi x H3 e2 w2.ph hi y
      have hdrop : ds.drop i = d :: ds.drop (i + 1) := by
        rw [List.drop_eq_getElem_cons hi]
        congr 1
        rw [List.getElem?_eq_getElem hi] at hd
        exact Option.some.inj hd
      rw [hdrop] at hf
      unfold forL at hf
      cases ef : f d ρi with
      | none => rw [ef] at hf; cases hf
      | some ρ1 =>
        cases eb : body ρ1 with
        | none => rw [ef, Option.bind_some, eb] at hf; cases hf
        | some r =>
          obtain ⟨f1, ρ2⟩ := r
          rw [ef, Option.bind_some, eb, Option.bind_some] at hf
          have w3 : Wd c E P3 S2 (fa fz fz) σi H3 ρi := by rw [fa_fz]; exact w2.grow g3
          refine ⟨P3, S2, fz, fz, ρi, d, ρ1, w3, rd, ef, fun σ4 S4 w4 _ _ => ⟨P3, S4, ρ1, f1, ρ2, w4, eb, ?_⟩⟩
          cases f1 with
          | nx =>
            intro σ' H' P' S' w' x'
            obtain ⟨S5, w5⟩ := w'.forget kl
            exact ⟨P', S5, _, w5, (e2.trans g3.p).trans x', hf⟩
          | ct =>
            intro σ' H' P' S' w' x'
            obtain ⟨S5, w5⟩ := w'.forget kl
            exact ⟨P', S5, _, w5, (e2.trans g3.p).trans x', hf⟩
          | bk =>
            cases hf
            intro σ' H' P' S' w' x'
            obtain ⟨S5, w5⟩ := w'.forget kl
            exact q σ' H' P' S5 w5 (((g1.p.trans e2).trans g3.p).trans x')
          | rt d' =>
            cases hf
            exact q
          | ex n fs es =>
            cases hf
            exact fun vs σ' H' P' S' U w' x' => q vs σ' H' P' S' U w' (((g1.p.trans e2).trans g3.p).trans x')
    · rintro σi Hi ⟨P2, S2, ρi, w2, e2, hf⟩
      rw [List.drop_length] at hf
      cases hf
      exact q σi Hi P2 S2 w2 (g1.p.trans e2)
theorem s_for {iter : Expr} {sb : List Stmt} {tl : List Nat} (kl : List Nat) {f : TgM} {body : SM} {ms : AM} (hp : PassesOwn (model X.prog X.w) X.A X.env X.xe) (hc : X.calm = true) (hi : PI X tg iter (tI ⟨X.K, cl, X.w⟩ E ms)) (hg : PG X tg (tPG ⟨X.K, cl, X.w⟩ E tl f)) (hb : PSs X sb (tS ⟨X.K, cl, X.w⟩ E body))
    (hs : ∀ x, foldedSetIterable iter X.env x = pure x := by intro _; rfl) : PS X (.For tg iter sb [] pos) (tS ⟨X.K, cl, X.w⟩ E (forM f body kl ms)) := PS_imp (ps_for hp hc hi hg hb hs) fun _ _ _ h => for_run h
def whileL (mc : BM) (body : SM) (kl : List Nat) : Nat → List D → Option (Fl × List D)
  | 0, _ => none
  | n + 1, ρ => (mc ρ).bind fun k => if k = true then (body ρ).bind fun r => match r.1 with
    | .nx => whileL mc body kl n (goneAt r.2 kl)
    | .ct => whileL mc body kl n (goneAt r.2 kl)
    | .bk => some (.nx, goneAt r.2 kl)
    | .rt d => some (.rt d, r.2)
    | .ex n fs es => some (.ex n fs es, r.2)
    else some (.nx, ρ)
def whileM (n : Nat) (mc : BM) (body : SM) (kl : List Nat) : SM := fun ρ => whileL mc body kl n ρ
theorem while_run {c : LC} {n : Nat} {kl : List Nat} {mc : BM} {body : SM} {D : Ends} {σ : St} {H : Hp} (h : tS c E (whileM n mc body kl) D σ H) : tWhile (tT c E mc) (tS c E body) D σ H := by
  obtain ⟨P, S, ρ, fl, ρ', w, hm, q⟩ := h
  unfold whileM at hm
  refine ⟨fun i σi Hi => ∃ P2 S2 ρi, Wd c E P2 S2 fz σi Hi ρi ∧ Ex P P2 ∧ whileL mc body kl i ρi = some (fl, ρ'), ⟨n, P, S, ρ, w, .refl _, hm⟩, ?_⟩
  rintro i σi Hi ⟨P2, S2, ρi, w2, e2, hf⟩
  cases i with
  | zero => cases hf
  | succ i =>
    unfold whileL at hf
    cases ec : mc ρi with
    | none => rw [ec] at hf; cases hf
    | some k =>
      rw [ec, Option.bind_some] at hf
      refine ⟨P2, S2, fz, ρi, k, w2, ec, fun H3 P3 g3 => ?_⟩
      cases k with
      | false =>
        rw [if_neg (by decide)] at hf
        cases hf
        exact iteF (q σi H3 P3 S2 (w2.grow g3) (e2.trans g3.p))
      | true =>
        rw [if_pos rfl] at hf
        refine iteT ⟨fun σ' H' => ∃ P2 S2 ρi, Wd c E P2 S2 fz σ' H' ρi ∧ Ex P P2 ∧ whileL mc body kl i ρi = some (fl, ρ'), fun σ' H' hN => ⟨i, Nat.lt_succ_self _, hN⟩, ?_⟩
        cases eb : body ρi with
        | none => rw [eb] at hf; cases hf
        | some r =>
          obtain ⟨f1, ρ2⟩ := r
          rw [eb, Option.bind_some] at hf
          refine ⟨P3, S2, ρi, f1, ρ2, w2.grow g3, eb, ?_⟩
          cases f1 with
          | nx =>
            intro σ' H' P' S' w' x'
            obtain ⟨S5, w5⟩ := w'.forget kl
            exact ⟨P', S5, _, w5, (e2.trans g3.p).trans x', hf⟩
          | ct =>
            intro σ' H' P' S' w' x'
            obtain ⟨S5, w5⟩ := w'.forget kl
            exact ⟨P', S5, _, w5, (e2.trans g3.p).trans x', hf⟩
          | bk =>
            cases hf
            intro σ' H' P' S' w' x'
            obtain ⟨S5, w5⟩ := w'.forget kl
            exact q σ' H' P' S5 w5 ((e2.trans g3.p).trans x')
          | rt d' =>
            cases hf
            exact q
          | ex n fs es =>
            cases hf
            exact fun vs σ' H' P' S' U w' x' => q vs σ' H' P' S' U w' ((e2.trans g3.p).trans x')
theorem s_while (n : Nat) (kl : List Nat) {sb : List Stmt} {mc : BM} {body : SM} (hp : PassesOwn (model X.prog X.w) X.A X.env X.xe) (hc : PT X e (tT ⟨X.K, cl, X.w⟩ E mc)) (hb : PSs X sb (tS ⟨X.K, cl, X.w⟩ E body)) : PS X (.While e sb [] pos) (tS ⟨X.K, cl, X.w⟩ E (whileM n mc body kl)) := PS_imp (ps_while hp hc hb) fun _ _ _ h => while_run h
end
end LI

namespace LI
open PySem L2 PyProof.Rows

structure Stp (P0 : Hp) (S0 : FP) (H0 P : Hp) (T : FP) (H : Hp) : Prop where
  p0 : Ex P0 P
  ph : Ex P H
  fr : ∀ a o, S0 a = 0 → H0 a = some o → H a = some o
  np : ∀ a, P a ≠ none → P0 a ≠ none ∨ 0 < S0 a ∨ H0 a = none
  ns : ∀ a, 0 < T a → 0 < S0 a ∨ H0 a = none
  le : ∀ a, T a ≤ 1
  out : ∀ a, 0 < T a → P a = none
abbrev FM := List D → Option (D × List D)
def spD (c : LC) (F : FM) : Sp := fun vs H Q _ => ∃ P S ds d ds', RepL c P H ds vs S ∧ Ex P H ∧ (∀ a, S a ≤ 1) ∧ (∀ a, 0 < S a → P a = none) ∧ F ds = some (d, ds') ∧
  ∀ v H' P' U S', Stp P S H P' (fa U S') H' → Rep c P' H' d v U → RepL c P' H' ds' vs S' → Q v H'
def maskL : List Bool → List D → List D
  | [], _ => []
  | _ :: bs, [] => .gone :: maskL bs []
  | b :: bs, d :: ds => (if b = true then d else .gone) :: maskL bs ds
def runM (n : Nat) (kp : List Bool) (m : SM) : FM := fun ds => if ds.length = kp.length then (m (ds ++ List.replicate (n - ds.length) .gone)).bind fun r => match r.1 with
  | .rt d => some (d, maskL kp r.2)
  | .nx => some (.non, maskL kp r.2)
  | _ => none
  else none
theorem repE_none {c : LC} {P H : Hp} : ∀ n : Nat, RepE c P H (List.replicate n .gone) (List.replicate n none) fz
  | 0 => rfl
  | n + 1 => ⟨fz, fz, ⟨rfl, rfl⟩, repE_none n, (fa_fz fz).symm⟩
theorem repE_start {c : LC} {P H : Hp} (n : Nat) : ∀ {ds : List D} {vs : List V} {S : FP}, RepL c P H ds vs S → RepE c P H (ds ++ List.replicate n .gone) (vs.map some ++ List.replicate n none) S
  | [], vs, S, r => by rw [r.1, r.2]; exact repE_none n
  | d :: ds, vs, S, ⟨y, ys, T, U, e, r, rs, f⟩ => by rw [e]; exact ⟨T, U, r, repE_start n rs, f⟩
theorem mask_rep {c : LC} {P H : Hp} : ∀ {kp : List Bool} {vs : List V} {ρ : List D} {σ : L2.St} {S : FP}, RepE c P H ρ σ S → kp.length = vs.length → (∀ (i : Nat) (v : V), kp[i]? = some true → vs[i]? = some v → σ[i]? = some (some v)) →
    ∃ S', RepL c P H (maskL kp ρ) vs S' ∧ ∀ a, S' a ≤ S a
  | [], vs, ρ, σ, S, r, h1, h3 => by
    have : vs = [] := List.length_eq_zero_iff.mp h1.symm
    subst this
    exact ⟨fz, ⟨rfl, rfl⟩, fun a => Nat.zero_le _⟩
  | b :: kp, [], ρ, σ, S, r, h1, h3 => by simp at h1
  | b :: kp, v :: vs, [], [], S, r, h1, h3 => by
    obtain ⟨S', k1, k2⟩ := mask_rep (kp := kp) (vs := vs) (ρ := []) (σ := []) r (by simpa using h1) fun i u z1 z2 => by
      have := h3 (i + 1) u (by simpa using z1) (by simpa using z2)
      simpa using this
    exact ⟨fa fz S', ⟨v, vs, fz, S', rfl, rfl, k1, rfl⟩, fun a => by have := k2 a; simp only [fa, fz]; omega⟩
  | b :: kp, v :: vs, [], _ :: _, S, r, h1, h3 => r.elim
  | b :: kp, v :: vs, d :: ρ, [], S, r, h1, h3 => r.elim
  | b :: kp, v :: vs, d :: ρ, ov :: σ, S, ⟨T, U, r, rs, f⟩, h1, h3 => by
    obtain ⟨S', k1, k2⟩ := mask_rep (kp := kp) (vs := vs) rs (by simpa using h1) fun i u z1 z2 => by
      have := h3 (i + 1) u (by simpa using z1) (by simpa using z2)
      simpa using this
    cases b with
    | false => exact ⟨fa fz S', ⟨v, vs, fz, S', rfl, rfl, k1, rfl⟩, fun a => by have := k2 a; rw [f]; simp only [fa, fz]; omega⟩
    | true =>
      have e := h3 0 v rfl rfl
      simp at e
      subst e
      exact ⟨fa T S', ⟨v, vs, T, S', rfl, r, k1, rfl⟩, fun a => by have := k2 a; rw [f]; simp only [fa]; omega⟩
section
variable {P : Program} {w : World} {K : PySem.W.Frag} {mg : Str → Option Value} {base : Heap} {cl : Nat → Addr}
theorem ok_def {x qual : Str} {st : Stmt} {f : Addr} {fd : FuncData} {N ps : List Str} {k : Nat} {kp : List Bool} {m : SM} (F : Fun K x qual st f fd) (S : FnScope N ps (defScope st)) (hk : kp.length = ps.length)
    (hbody : ∀ (cdv : Value) (A : Around) (outer : List Env) (s : Shared) (H : Hp) (E : XK) (e : En), e.kp = kp → Room k (A.deeper (envOfC qual (defScope st) s.heap.objs.size f cdv)) →
      PSs (cxOf CX0 P w K mg base N qual (defScope st) f cdv A outer s H E).nox (defBody st) (tS ⟨K, cl, w⟩ e m)) : FnOk P w K mg base CX0 (k + 1) f fd ps (spD ⟨K, cl, w⟩ (runM N.length kp m)) := by
  refine F.ok S (fun vs H Q E h => ?_) (fun cdv A outer s H vs Q E hr h => ?_)
  · obtain ⟨Pp, Sp, ds, d, ds', r, _, _, _, hm, _⟩ := h
    unfold runM at hm
    split at hm
    · rename_i hl
      rw [← r.length, hl, hk]
    · cases hm
  · obtain ⟨Pp, Sp, ds, d, ds', r, e1, e2, e3, hm, q⟩ := h
    unfold runM at hm
    split at hm
    · rename_i hl
      have hlv : vs.length = kp.length := by rw [← r.length, hl]
      have hvs : ∀ i : Nat, kp[i]? = some true → ∃ v, vs[i]? = some v := fun i hi => by
        have hi' : i < kp.length := (List.getElem?_eq_some_iff.mp hi).1
        exact ⟨_, List.getElem?_eq_getElem (by omega)⟩
      refine ⟨_, hbody cdv A outer s H E ⟨Pp, H, Sp, kp, vs, hvs, fun _ _ _ _ => False⟩ rfl hr, ?_⟩
      cases em : m (ds ++ List.replicate (N.length - ds.length) .gone) with
      | none => rw [em] at hm; cases hm
      | some rr =>
        obtain ⟨fl, ρ'⟩ := rr
        rw [em, Option.bind_some] at hm
        have w0 : Wd ⟨K, cl, w⟩ ⟨Pp, H, Sp, kp, vs, hvs, fun _ _ _ _ => False⟩ Pp Sp fz (L2.start N vs) H (ds ++ List.replicate (N.length - ds.length) .gone) := by
          refine ⟨?_, fun a => by have := e2 a; simp only [fz]; omega, fun a h => e3 a (by simpa [fz] using h), fun a h => by simp [fz] at h, e1, .refl _, fun _ _ _ h => h, fun a h => .inl h, fun a h => .inl (by simpa [fz] using h), fun i v h1 h2 => ?_⟩
          · unfold L2.start
            rw [r.length]
            exact repE_start _ r
          · unfold L2.start
            have h2 : vs[i]? = some v := h2
            rw [List.getElem?_append_left (by rw [List.length_map]; exact (List.getElem?_eq_some_iff.mp h2).1), List.getElem?_map, h2]
            rfl
        have fin : ∀ (v : V) (σ' : L2.St) (H' P' : Hp) (S' U : FP) (d1 : D), Wd ⟨K, cl, w⟩ ⟨Pp, H, Sp, kp, vs, hvs, fun _ _ _ _ => False⟩ P' S' U σ' H' ρ' → Rep ⟨K, cl, w⟩ P' H' d1 v U → some (d1, maskL kp ρ') = some (d, ds') → Q v H' := by
          intro v σ' H' P' S' U d1 w' rd hs
          cases hs
          obtain ⟨S2, k1, k2⟩ := mask_rep (kp := kp) (vs := vs) w'.env hlv.symm w'.kp
          exact q v H' P' U S2 ⟨w'.p0, w'.ph, w'.fr, w'.np, fun a h => w'.ns a (by have := k2 a; simp only [fa] at h; omega), fun a => by have := k2 a; have := w'.le a; simp only [fa]; omega, fun a h => w'.out a (by have := k2 a; simp only [fa] at h; omega)⟩ rd k1
        refine ⟨Pp, Sp, _, fl, ρ', w0, em, ?_⟩
        cases fl with
        | nx => exact fun σ' H' P' S' w' _ => fin .non σ' H' P' S' fz .non w' ⟨rfl, rfl⟩ hm
        | rt d1 => exact fun v σ' H' P' S' U w' r => fin v σ' H' P' S' U d1 w' r hm
        | bk => cases hm
        | ct => cases hm
        | ex n fs es => cases hm
    · cases hm
end
end LI

namespace LI
open PySem L2

def isFlat : D → Bool
  | .non => true | .bl _ => true | .int _ => true | .str _ => true | _ => false
theorem flat_any {c : LC} {P H P' H' : Hp} : ∀ {d : D} {v : V} {U : FP}, isFlat d = true → Rep c P H d v U → Rep c P' H' d v fz
  | .non, v, U, _, r => ⟨r.1, rfl⟩
  | .bl _, v, U, _, r => ⟨r.1, rfl⟩
  | .int _, v, U, _, r => ⟨r.1, rfl⟩
  | .str _, v, U, _, r => ⟨r.1, rfl⟩
def callM (F : FM) (ms : AM) : RM := fun ρ => (ms ρ).bind fun ds => (F (iceL ds)).bind fun r => if frzL ds = true ∨ noIce r.1 = true then some r.1 else none
def coldP (U : FP) (P H : Hp) : Hp := fun a => if 0 < U a then H a else P a
theorem coldP_p {U : FP} {P H : Hp} (e : Ex P H) : Ex P (coldP U P H) := fun a o h => by
  unfold coldP
  split
  · exact e a o h
  · exact h
theorem coldP_h {U : FP} {P H : Hp} (e : Ex P H) : Ex (coldP U P H) H := fun a o h => by
  unfold coldP at h
  split at h
  · exact h
  · exact e a o h
theorem coldP_fz {P H : Hp} : coldP fz P H = P := by funext a; simp [coldP, fz]
theorem spD_view {c : LC} {F : FM} {P H : Hp} {ds : List D} {vs : List V} {U : FP} {d : D} {ds' : List D} {Q : VK} {E : XK} (e : Ex P H) (r : RepL c P H ds vs U) (hf : F (iceL ds) = some (d, ds')) (hz : frzL ds = true ∨ noIce d = true) (q : FQ c P H d Q) : spD c F vs H Q E := by
  refine ⟨coldP U P H, fz, iceL ds, d, ds', RepL.ice (coldP_p e) ds vs U (fun a o h1 h2 => by unfold coldP; rw [if_pos h1]; exact h2) r, coldP_h e, fun _ => Nat.zero_le _, fun a h => by simp [fz] at h, hf, fun v H' P' U2 S' st rd rs => ?_⟩
  have hH : Ex H H' := fun a o h => st.fr a o rfl h
  rcases hz with hz | hz
  · have := RepL.frz0 ds vs U hz r
    subst this
    rw [coldP_fz] at st
    refine q v H' P' U2 ⟨st.p0, hH, st.ph, fun a h => by rcases st.np a h with z | z | z <;> first | exact .inl z | (simp [fz] at z; done) | exact .inr z⟩ rd (fun a => by have := st.le a; simp only [fa] at this; omega) fun a h => ?_
    refine ⟨?_, st.out a (by simp only [fa]; omega)⟩
    rcases st.ns a (by simp only [fa]; omega) with z | z
    · simp [fz] at z
    · exact z
  · have hU : ∀ a, 0 < U a → ∃ o, H a = some o ∧ notTup o = true := RepL.nt ds vs U r
    have hP : ∀ a o, P a = some o → (if 0 < U a then P a else P' a) = some o := fun a o h => by
      split
      · exact h
      · rename_i z
        exact st.p0 a o (by unfold coldP; rw [if_neg z]; exact h)
    refine q v H' (fun a => if 0 < U a then P a else P' a) U2 ⟨hP, hH, fun a o h => ?_, fun a h => ?_⟩ (Rep.thaw (fun b o h1 h2 => ?_) d v U2 hz rd) (fun a => by have := st.le a; simp only [fa] at this; omega) fun a h => ?_
    · skip
      split at h
      · exact hH a o (e a o h)
      · exact st.ph a o h
    · skip
      split at h
      · exact .inl h
      · rename_i z
        rcases st.np a h with y | y | y
        · unfold coldP at y; rw [if_neg z] at y; exact .inl y
        · simp [fz] at y
        · exact .inr y
    · skip
      rw [if_neg]
      · exact h1
      · intro z
        obtain ⟨o2, k1, k2⟩ := hU b z
        have := hH b o2 k1
        rw [st.ph b o h1] at this
        cases this
        rw [h2] at k2; cases k2
    · have hn : H a = none := by
        rcases st.ns a (by simp only [fa]; omega) with z | z
        · simp [fz] at z
        · exact z
      refine ⟨hn, ?_⟩
      skip
      rw [if_neg]
      · exact st.out a (by simp only [fa]; omega)
      · intro z
        obtain ⟨o2, k1, _⟩ := hU a z
        rw [hn] at k1; cases k1
section
variable {X : Cx} {cl : Nat → Addr} {E : En} {e a b o : Expr} {es : List Expr} {pos p apos : Pos} {m : RM} {ms : AM} {CX : CXT} {k : Nat} {f C : Addr} {fd : FuncData} {ps : List Str} {F : FM} {XE : XK} {x nm : Str}
theorem call_split {ρ : List D} {d : D} (h : callM F ms ρ = some d) : ∃ ds ds', ms ρ = some ds ∧ F (iceL ds) = some (d, ds') ∧ (frzL ds = true ∨ noIce d = true) := by
  unfold callM at h
  cases e1 : ms ρ with
  | none => rw [e1] at h; cases h
  | some ds =>
    rw [e1, Option.bind_some] at h
    cases e2 : F (iceL ds) with
    | none => rw [e2] at h; cases h
    | some r =>
      rw [e2, Option.bind_some] at h
      split at h
      · rename_i hz
        cases h
        exact ⟨ds, r.2, rfl, e2, hz⟩
      · cases h
theorem f_call (G : FnOk X.prog X.w X.K X.mg X.base CX k f fd ps (spD ⟨X.K, cl, X.w⟩ F)) (hr : Room k X.A) (hg : Gl X x) (hm : X.mg x = some (.ref f)) (hk : PySem.W.keepIn X.K (.ref f) = true) (hb : Binds X.K fd ps []) (hx : Passes CX X XE)
    (ha : PA X (e :: es) (tAR ⟨X.K, cl, X.w⟩ E ms)) (hdb : (x == ("__debug__" : Str)) = false := by decide) (he : starEach (e :: es) X.env = (false, eval e X.env) :: starEach es X.env := by rfl) (hpl : (backTo pos (starEach es X.env)).any (·.1) = false := by rfl) :
    PE X (.Call (.Name x p) (e :: es) [] pos) (tF ⟨X.K, cl, X.w⟩ E (callM F ms)) := PE_imp (pe_call G hr hg hm hk hb .nil hx ha hdb he hpl) fun σ H Q ⟨P, S, T, ρ, d, w, h, q⟩ => by
  obtain ⟨ds, ds', e1, e2, hz⟩ := call_split h
  refine ⟨P, S, T, ρ, ds, w, e1, fun vs H1 P1 U1 g1 r1 => ?_⟩
  show spD ⟨X.K, cl, X.w⟩ F (vs ++ []) H1 Q XE
  rw [List.append_nil]
  exact spD_view g1.ph r1 e2 hz (q.grow g1)
def mkM (n : Nat) (F : FM) (ms : AM) : RM := fun ρ => (ms ρ).bind fun ds => if frzL ds = true then (F (.obj true n [] [] :: ds)).bind fun r => match r with | (.non, self :: _) => some self | _ => none else none
theorem mk_run {c : LC} {n : Nat} {P H : Hp} {ds : List D} {vs : List V} {self : D} {ds' : List D} {Q : VK} {XE : XK} (e : Ex P H) (r : RepL c P H ds vs fz) (hf : F (.obj true n [] [] :: ds) = some (.non, self :: ds')) (q : FQ c P H self Q) :
    ∀ x dx, H x = none → H dx = none → dx ≠ x → spD c F (.ref x :: (vs ++ [])) (upd (upd H dx (.own x)) x (.ins (c.cl n) dx [])) (fun v H2 => v = .non ∧ Q (.ref x) H2) XE := by
  intro x dx hx hdx hne
  have ex : Ex H (upd (upd H dx (.own x)) x (.ins (c.cl n) dx [])) := fun a o z => by
    rw [upd_ne (ne_of_none z hx), upd_ne (ne_of_none z hdx)]; exact z
  have back : ∀ a, upd (upd H dx (.own x)) x (.ins (c.cl n) dx []) a = none → H a = none := fun a z => by
    cases q : H a with
    | none => rfl
    | some o => rw [ex a o q] at z; cases z
  rw [List.append_nil]
  refine ⟨P, fa (one x) fz, .obj true n [] [] :: ds, _, _, ⟨.ref x, vs, one x, fz, rfl, ⟨x, dx, [], fz, rfl, upd_same, rfl, ⟨rfl, rfl⟩, (fa_fz _).symm⟩, repL_h r, rfl⟩, e.trans ex, fun a => by rw [fa_fz]; exact one_le a, fun a z => ?_, hf, fun v H' P' U S' st rd rs => ?_⟩
  · rw [fa_fz] at z; rw [one_pos z]; exact none_of e hx
  · rw [fa_fz] at st
    obtain ⟨y, ys, T1, T2, e1, r1, _, e2⟩ := rs
    cases e1
    have hH : Ex H H' := fun a o z => st.fr a o (by unfold one; rw [if_neg (ne_of_none z hx)]) (ex a o z)
    have old : ∀ a, (0 < one x a ∨ upd (upd H dx (.own x)) x (.ins (c.cl n) dx []) a = none) → H a = none := fun a z => by
      rcases z with z | z
      · rw [one_pos z]; exact hx
      · exact back a z
    refine ⟨rd.1, q (.ref x) H' P' T1 ⟨st.p0, hH, st.ph, fun a z => ?_⟩ r1 (fun a => ?_) fun a z => ⟨old a (st.ns a ?_), st.out a ?_⟩⟩
    · rcases st.np a z with z | z | z
      · exact .inl z
      · exact .inr (old a (.inl z))
      · exact .inr (old a (.inr z))
    · have := st.le a; rw [e2] at this; simp only [fa] at this; omega
    · rw [e2]; simp only [fa]; omega
    · rw [e2]; simp only [fa]; omega
theorem mk_split {n : Nat} {ρ : List D} {d : D} (h : mkM n F ms ρ = some d) : ∃ ds ds', ms ρ = some ds ∧ frzL ds = true ∧ F (.obj true n [] [] :: ds) = some (.non, d :: ds') := by
  unfold mkM at h
  cases e1 : ms ρ with
  | none => rw [e1] at h; cases h
  | some ds =>
    rw [e1, Option.bind_some] at h
    split at h
    · rename_i hz
      cases e2 : F (.obj true n [] [] :: ds) with
      | none => rw [e2] at h; cases h
      | some r =>
        rw [e2, Option.bind_some] at h
        split at h
        · cases h; exact ⟨ds, _, rfl, hz, e2⟩
        · cases h
    · cases h
theorem f_mk (n : Nat) (M : Mk X.K (cl n) f) (G : FnOk X.prog X.w X.K X.mg X.base CX k f fd ps (spD ⟨X.K, cl, X.w⟩ F)) (hr : Room (k + 1) X.A) (hg : Gl X x) (hm : X.mg x = some (.ref (cl n))) (hb : Binds X.K fd ps []) (hx : Passes CX X XE)
    (ha : PA X (e :: es) (tAR ⟨X.K, cl, X.w⟩ E ms)) (hdb : (x == ("__debug__" : Str)) = false := by decide) (he : starEach (e :: es) X.env = (false, eval e X.env) :: starEach es X.env := by rfl) (hpl : (backTo pos (starEach es X.env)).any (·.1) = false := by rfl) :
    PE X (.Call (.Name x p) (e :: es) [] pos) (tF ⟨X.K, cl, X.w⟩ E (mkM n F ms)) := PE_imp (pe_make M G hr hg hm hb .nil hx ha hdb he hpl) fun σ H Q ⟨P, S, T, ρ, d, w, h, q⟩ => by
  obtain ⟨ds, ds', e1, hz, e2⟩ := mk_split h
  refine ⟨P, S, T, ρ, ds, w, e1, fun vs H1 P1 U1 g1 r1 => ?_⟩
  have := RepL.frz0 ds vs U1 hz r1
  subst this
  exact mk_run g1.ph r1 e2 (q.grow g1)
end

structure Lens where
  get : List D → Option D
  put : List D → D → List D
structure Loc (c : LC) (L : Lens) (P H : Hp) (σ : L2.St) (ρ : List D) (S : FP) (v : V) (d : D) (Sd R : FP) : Prop where
  sum : ∀ a, S a = Sd a + R a
  rep : Rep c P H d v Sd
  put : ∀ (P2 H2 : Hp) (d2 : D) (S2 : FP), Ex P P2 → (∀ a o, 0 < R a → H a = some o → H2 a = some o) → Rep c P2 H2 d2 v S2 → RepE c P2 H2 (L.put ρ d2) σ (fa S2 R)
theorem Loc.grow {c : LC} {L : Lens} {P H P' H' : Hp} {σ : L2.St} {ρ : List D} {S : FP} {v : V} {d : D} {Sd R : FP} (l : Loc c L P H σ ρ S v d Sd R) (g : Gr P H P' H') : Loc c L P' H' σ ρ S v d Sd R :=
  ⟨l.sum, l.rep.gr g, fun P2 H2 d2 S2 e k r => l.put P2 H2 d2 S2 (g.p.trans e) (fun a o h1 h2 => k a o h1 (g.h a o h2)) r⟩
def tPl (c : LC) (E : En) (L : Lens) : TE := fun σ H Q => ∃ P S T ρ d, Wd c E P S T σ H ρ ∧ L.get ρ = some d ∧ ∀ v Sd R, Loc c L P H σ ρ S v d Sd R → Q v H
theorem RepE.focus {c : LC} {P H : Hp} : ∀ {ρ : List D} {σ : L2.St} {S : FP} {i : Nat} {d : D}, RepE c P H ρ σ S → ρ[i]? = some d → notGone d = true → ∃ v Sd R, σ[i]? = some (some v) ∧ Rep c P H d v Sd ∧ (∀ a, S a = Sd a + R a) ∧
    ∀ (P2 H2 : Hp) (d2 : D) (S2 : FP), Ex P P2 → (∀ a o, 0 < R a → H a = some o → H2 a = some o) → Rep c P2 H2 d2 v S2 → RepE c P2 H2 (ρ.set i d2) σ (fa S2 R)
  | [], [], _, i, d, _, e, _ => by simp at e
  | d0 :: ρ, v0 :: σ, S, 0, d, ⟨T, U, r, rs, f⟩, e, n => by
    simp at e; subst e
    cases v0 with
    | none => rw [r.1] at n; cases n
    | some v =>
      exact ⟨v, T, U, rfl, r, fun a => by rw [f]; rfl, fun P2 H2 d2 S2 e1 k r2 => ⟨S2, U, r2, rs.mono e1 ρ σ U k, rfl⟩⟩
  | d0 :: ρ, v0 :: σ, S, i + 1, d, ⟨T, U, r, rs, f⟩, e, n => by
    obtain ⟨v, Sd, R, h1, h2, h3, h4⟩ := RepE.focus (i := i) (d := d) rs (by simpa using e) n
    refine ⟨v, Sd, fa T R, by simpa using h1, h2, fun a => by have := h3 a; rw [f]; simp only [fa]; omega, fun P2 H2 d2 S2 e1 k r2 => ?_⟩
    refine ⟨T, fa S2 R, RepO.mono e1 (fun a o z1 z2 => k a o (by simp only [fa]; omega) z2) r, h4 P2 H2 d2 S2 e1 (fun a o z1 z2 => k a o (by simp only [fa]; omega) z2) r2, by funext a; simp only [fa]; omega⟩
  | [], _ :: _, _, _, _, h, _, _ => h.elim
  | _ :: _, [], _, _, _, h, _, _ => h.elim
theorem RepL.focus {c : LC} {P H : Hp} : ∀ {ds : List D} {xs : List V} {S : FP} {i : Nat} {d : D}, RepL c P H ds xs S → ds[i]? = some d → ∃ v Sd R, xs[i]? = some v ∧ Rep c P H d v Sd ∧ (∀ a, S a = Sd a + R a) ∧
    ∀ (P2 H2 : Hp) (d2 : D) (y : V) (S2 : FP), Ex P P2 → (∀ a o, 0 < R a → H a = some o → H2 a = some o) → Rep c P2 H2 d2 y S2 → RepL c P2 H2 (ds.set i d2) (xs.set i y) (fa S2 R)
  | [], xs, S, i, d, h, e => by simp at e
  | d0 :: ds, xs, S, 0, d, ⟨y, ys, T, U, e1, r, rs, f⟩, e => by
    simp at e; subst e
    subst e1
    exact ⟨y, T, U, rfl, r, fun a => by rw [f]; rfl, fun P2 H2 d2 z S2 e1 k r2 => ⟨z, ys, S2, U, rfl, r2, RepL.mono e1 ds ys U k rs, rfl⟩⟩
  | d0 :: ds, xs, S, i + 1, d, ⟨y, ys, T, U, e1, r, rs, f⟩, e => by
    subst e1
    obtain ⟨v, Sd, R, h1, h2, h3, h4⟩ := RepL.focus (i := i) (d := d) rs (by simpa using e)
    refine ⟨v, Sd, fa T R, by simpa using h1, h2, fun a => by have := h3 a; rw [f]; simp only [fa]; omega, fun P2 H2 d2 z S2 e1 k r2 => ?_⟩
    refine ⟨y, ys.set i z, T, fa S2 R, rfl, Rep.mono e1 d0 y T (fun a o z1 z2 => k a o (by simp only [fa]; omega) z2) r, h4 P2 H2 d2 z S2 e1 (fun a o z1 z2 => k a o (by simp only [fa]; omega) z2) r2, by funext a; simp only [fa]; omega⟩
def vL (i : Nat) : Lens := ⟨fun ρ => (ρ[i]?).bind fun d => if notGone d = true then some d else none, fun ρ d => ρ.set i d⟩
theorem vL_get {i : Nat} {ρ : List D} {d : D} (h : (vL i).get ρ = some d) : ρ[i]? = some d ∧ notGone d = true := by
  unfold vL at h
  cases e : ρ[i]? with
  | none => simp [e] at h
  | some d1 =>
    simp only [e, Option.bind_some] at h
    split at h
    · rename_i hn; cases h; exact ⟨rfl, hn⟩
    · cases h
def fIx (f : Str) : List Str → Option Nat
  | [] => none
  | g :: gs => if f = g then some 0 else (fIx f gs).map (· + 1)
def fldL (n : Nat) (f : Str) (L : Lens) : Lens := ⟨fun ρ => (L.get ρ).bind fun d => match d with
    | .obj _ k fs ds => if k = n then (fIx f fs).bind fun j => (ds[j]?).bind fun d => if notGone d = true then some d else none else none
    | _ => none,
  fun ρ d2 => match L.get ρ with
    | some (.obj o k fs ds) => match fIx f fs with
      | some j => L.put ρ (.obj o k fs (ds.set j d2))
      | none => ρ
    | _ => ρ⟩
theorem fIx_lookup {f : Str} : ∀ {fs : List Str} {xs : List V} {j : Nat}, fIx f fs = some j → fs.length = xs.length → (fs.zip xs).lookup f = xs[j]?
  | [], xs, j, h, n => by cases h
  | g :: gs, [], j, h, n => by simp at n
  | g :: gs, x :: xs, j, h, n => by
    unfold fIx at h
    by_cases e : f = g
    · rw [if_pos e] at h; cases h
      have : (f == g) = true := by rw [e]; exact beq_self_eq_true _
      simp [List.lookup, this]
    · rw [if_neg e] at h
      cases z : fIx f gs with
      | none => rw [z] at h; cases h
      | some j' =>
        rw [z] at h; cases h
        have : (f == g) = false := beq_eq_false_iff_ne.mpr e
        simp [List.lookup, this, fIx_lookup z (by simpa using n)]
theorem obj_heap {c : LC} {P H : Hp} (e : Ex P H) {o : Bool} {k : Nat} {fs : List Str} {ds : List D} {v : V} {U : FP} (r : Rep c P H (.obj o k fs ds) v U) : ∃ a dx xs T Z, v = .ref a ∧ H a = some (.ins (c.cl k) dx (fs.zip xs)) ∧ fs.length = xs.length ∧ RepL c P H ds xs T ∧ (∀ b, U b = Z b + T b) ∧
    ∀ (P2 H2 : Hp) (ds2 : List D) (T2 : FP), Ex P P2 → (∀ b u, 0 < Z b → H b = some u → H2 b = some u) → RepL c P2 H2 ds2 xs T2 → Rep c P2 H2 (.obj o k fs ds2) v (fa Z T2) := by
  cases o with
  | true =>
    obtain ⟨a, dx, xs, T, e1, h, n, rl, f⟩ := r
    exact ⟨a, dx, xs, T, one a, e1, h, n, rl, fun b => by rw [f]; rfl, fun P2 H2 ds2 T2 _ hk r2 => ⟨a, dx, xs, T2, e1, hk a _ (by simp [one]) h, n, r2, rfl⟩⟩
  | false =>
    obtain ⟨a, dx, xs, e1, h, n, rl⟩ := r
    exact ⟨a, dx, xs, U, fz, e1, e _ _ h, n, rl, fun b => by simp [fz], fun P2 H2 ds2 T2 hp _ r2 => ⟨a, dx, xs, e1, hp _ _ h, n, by rw [fz_fa]; exact r2⟩⟩
section
variable {X : Cx} {cl : Nat → Addr} {E : En} {e a b o : Expr} {es : List Expr} {pos p apos : Pos} {m : RM} {L : Lens}
theorem p_v (i : Nat) {x : Str} (hN : X.N[i]? = some x := by rfl) (hv : Vis X.env.scope x := by first | exact Or.inl rfl | exact Or.inr (Or.inl rfl) | exact Or.inr (Or.inr rfl)) (hd : (x == ("__debug__" : Str)) = false := by decide)
    (hcd : (x == ("__classdict__" : Str)) = false := by decide) : PE X (.Name x pos) (tPl ⟨X.K, cl, X.w⟩ E (vL i)) := PE_imp (pe_var hN hv hd hcd) fun σ H Q ⟨P, S, T, ρ, d, w, hg, q⟩ => by
  obtain ⟨h1, h2⟩ := vL_get hg
  obtain ⟨v, Sd, R, k1, k2, k3, k4⟩ := w.env.focus h1 h2
  exact ⟨v, k1, q v Sd R ⟨k3, k2, k4⟩⟩
theorem fld_split {n : Nat} {f : Str} {ρ : List D} {d : D} (h : (fldL n f L).get ρ = some d) : ∃ o fs ds j, L.get ρ = some (.obj o n fs ds) ∧ fIx f fs = some j ∧ ds[j]? = some d ∧ notGone d = true ∧ ∀ d2, (fldL n f L).put ρ d2 = L.put ρ (.obj o n fs (ds.set j d2)) := by
  unfold fldL at h
  cases e1 : L.get ρ with
  | none => simp [e1] at h
  | some d0 =>
    cases d0 with
    | obj o k fs ds =>
      simp only [e1, Option.bind_some] at h
      split at h
      · rename_i hk
        subst hk
        cases e2 : fIx f fs with
        | none => rw [e2] at h; cases h
        | some j =>
          rw [e2, Option.bind_some] at h
          cases e3 : ds[j]? with
          | none => rw [e3] at h; cases h
          | some d1 =>
            rw [e3, Option.bind_some] at h
            split at h
            · rename_i hn
              cases h
              exact ⟨o, fs, ds, j, rfl, e2, e3, hn, fun d2 => by simp [fldL, e1, e2]⟩
            · cases h
      · cases h
    | _ => simp [e1] at h
theorem p_fld (n : Nat) {f : Str} (hc : Cls X.K (cl n)) (hn : NoAttr X.K (cl n) f) (he : PE X e (tPl ⟨X.K, cl, X.w⟩ E L)) (hb : attributeBase e f X.env (eval e X.env) = eval e X.env := by rfl) : PE X (.Attribute e f pos) (tPl ⟨X.K, cl, X.w⟩ E (fldL n f L)) := PE_imp (pe_fld he hb) fun σ H Q ⟨P, S, T, ρ, d, w, hg, q⟩ => by
  obtain ⟨o, fs, ds, j, h1, h2, h3, h4, h5⟩ := fld_split hg
  refine ⟨P, S, T, ρ, _, w, h1, fun v Sd R l => ?_⟩
  obtain ⟨a, dx, xs, T1, Z, e1, hh, nl, rl, hz, hput⟩ := obj_heap w.ph l.rep
  obtain ⟨y, S1, R1, k1, k2, k3, k4⟩ := rl.focus h3
  refine ⟨a, cl n, dx, _, y, e1, hh, hc, hn, by rw [fIx_lookup h2 nl]; exact k1, q y S1 (fa (fa Z R1) R) ⟨fun b => ?_, k2, fun P2 H2 d2 S2 ep kr r2 => ?_⟩⟩
  · have := l.sum b; have := hz b; have := k3 b; simp only [fa]; omega
  · rw [h5]
    have rl2 := k4 P2 H2 d2 y S2 ep (fun b u z1 z2 => kr b u (by simp only [fa]; omega) z2) r2
    have e2 : xs.set j y = xs := by
      apply List.ext_getElem?
      intro t
      by_cases ht : t = j
      · subst ht; rw [k1, List.getElem?_set_self (List.getElem?_eq_some_iff.mp k1).1]
      · rw [List.getElem?_set_ne (Ne.symm ht)]
    rw [e2] at rl2
    have := l.put P2 H2 _ _ ep (fun b u z1 z2 => kr b u (by simp only [fa]; omega) z2) (hput P2 H2 _ _ ep (fun b u z1 z2 => kr b u (by simp only [fa]; omega) z2) rl2)
    have e3 : fa (fa Z (fa S2 R1)) R = fa S2 (fa (fa Z R1) R) := by funext b; simp only [fa]; omega
    rw [e3] at this
    exact this
theorem r_pl (h : PE X e (tPl ⟨X.K, cl, X.w⟩ E L)) : PE X e (tR ⟨X.K, cl, X.w⟩ E L.get) := PE_imp h fun σ H Q ⟨P, S, T, ρ, d, w, hm, q⟩ => ⟨P, S, T, ρ, d, w, hm, fun v Sd R l => q v H P Sd (.refl w.ph) l.rep⟩
end
end LI

namespace LI
open PySem L2

section
variable {c : LC} {E : En} {P P' : Hp} {S T : FP} {σ : L2.St} {H H' : Hp} {ρ ρ' : List D}
theorem Wd.through {Sd R V S2 U : FP} (w : Wd c E P S T σ H ρ) (hS : ∀ a, S a = Sd a + R a) (st : Stp P Sd H P' V H') (henv : RepE c P' H' ρ' σ S2) (h2 : ∀ a, S2 a + U a ≤ V a + R a) (hU : ∀ a, 0 < U a → H' a ≠ none) : Wd c E P' S2 (fa T U) σ H' ρ' := by
  have there : ∀ a, 0 < R a + T a → H a ≠ none ∧ Sd a = 0 := fun a h => by
    have l := w.le a
    have s := hS a
    refine ⟨?_, by omega⟩
    by_cases hT : 0 < T a
    · exact w.th a hT
    · exact RepE.there ρ σ S w.env a (by omega)
  have apart : ∀ a, 0 < V a → R a + T a = 0 := fun a h => by
    rcases st.ns a h with z | z
    · have l := w.le a; have s := hS a; omega
    · rcases Nat.eq_zero_or_pos (R a + T a) with q | q
      · exact q
      · exact absurd z (there a q).1
  have stay : ∀ a, 0 < R a + T a → P' a = none := fun a h => by
    cases q : P' a with
    | none => rfl
    | some o =>
      rcases st.np a (by rw [q]; simp) with z | z | z
      · exact absurd (w.out a (by have := hS a; omega)) z
      · have := (there a h).2; omega
      · exact absurd z (there a h).1
  refine ⟨henv, fun a => ?_, fun a h => ?_, fun a h => ?_, st.ph, w.p0.trans st.p0, fun a o h1 h2 => ?_, fun a h => ?_, fun a h => ?_, w.kp⟩
  · have h2a := h2 a; have le := st.le a; have l := w.le a; have s := hS a
    simp only [fa]
    by_cases hv : 0 < V a
    · have := apart a hv; omega
    · omega
  · simp only [fa] at h
    have h2a := h2 a
    by_cases hv : 0 < V a
    · exact st.out a hv
    · exact stay a (by omega)
  · simp only [fa] at h
    by_cases hT : 0 < T a
    · cases z : H a with
      | none => exact absurd z (w.th a hT)
      | some o => rw [st.fr a o (there a (by omega)).2 z]; simp
    · exact hU a (by omega)
  · refine st.fr a o ?_ (w.fr a o h1 h2)
    rcases Nat.eq_zero_or_pos (Sd a) with z | z
    · exact z
    · rcases w.ns a (by have := hS a; omega) with q | q
      · omega
      · rw [q] at h2; cases h2
  · rcases st.np a h with z | z | z
    · exact w.np a z
    · rcases w.ns a (by have := hS a; omega) with q | q
      · exact .inr (.inl q)
      · exact .inr (.inr q)
    · cases q : E.H0 a with
      | none => exact .inr (.inr rfl)
      | some o =>
        by_cases hs : E.S0 a = 0
        · rw [w.fr a o hs q] at z; cases z
        · exact .inr (.inl (by omega))
  · simp only [fa] at h
    have h2a := h2 a
    by_cases hv : 0 < V a
    · rcases st.ns a hv with z | z
      · exact w.ns a (by have := hS a; omega)
      · cases q : E.H0 a with
        | none => exact .inr rfl
        | some o =>
          by_cases hs : E.S0 a = 0
          · rw [w.fr a o hs q] at z; cases z
          · exact .inl (by omega)
    · exact w.ns a (by have := hS a; omega)
end

section
variable {X : Cx} {cl : Nat → Addr} {E : En} {e a b o : Expr} {es : List Expr} {pos p apos : Pos} {m : RM} {ms : AM} {CX : CXT} {k n : Nat} {f C : Addr} {fd : FuncData} {ps : List Str} {F : FM} {XE : XK} {x nm : Str} {L : Lens}
def isObjK (n : Nat) (nm : Str) : D → Bool
  | .obj _ k fs _ => decide (k = n) && !fs.contains nm
  | _ => false
theorem lookup_zip_none {nm : Str} : ∀ {fs : List Str} {xs : List V}, fs.contains nm = false → (fs.zip xs).lookup nm = none
  | [], _, _ => rfl
  | _ :: _, [], _ => rfl
  | g :: gs, y :: ys, h => by
    simp only [List.contains_cons, Bool.or_eq_false_iff] at h
    rw [List.zip_cons_cons]
    show (match nm == g with | true => some y | false => List.lookup nm (gs.zip ys)) = none
    rw [h.1]
    exact lookup_zip_none h.2
theorem isObj_v {c : LC} {P H : Hp} (e : Ex P H) {d : D} {v : V} {U : FP} (h : isObjK n nm d = true) (r : Rep c P H d v U) : ∃ a dx fs, v = .ref a ∧ H a = some (.ins (c.cl n) dx fs) ∧ fs.lookup nm = none := by
  cases d with
  | obj o k fs ds =>
    simp only [isObjK, Bool.and_eq_true, decide_eq_true_eq, Bool.not_eq_true'] at h
    obtain ⟨rfl, hn⟩ := h
    obtain ⟨a, dx, xs, T, Z, e1, hh, nl, _⟩ := obj_heap e r
    exact ⟨a, dx, _, e1, hh, lookup_zip_none hn⟩
  | _ => cases h
def lookM (n : Nat) (nm : Str) (mo : RM) (F : FM) (ms : AM) : RM := fun ρ => (mo ρ).bind fun self => (ms ρ).bind fun ds => if isObjK n nm self = true then (F (iceL (self :: ds))).bind fun r => if frzL (self :: ds) = true ∨ noIce r.1 = true then some r.1 else none else none
theorem look_run {mo : RM} (h : tF ⟨X.K, cl, X.w⟩ E (lookM n nm mo F ms) σ H Q) : tMeth (cl n) nm (spD ⟨X.K, cl, X.w⟩ F) [] XE (tR ⟨X.K, cl, X.w⟩ E mo) (tAR ⟨X.K, cl, X.w⟩ E ms) σ H Q := by
  obtain ⟨P, S, T, ρ, d, w, hm, q⟩ := h
  unfold lookM at hm
  cases e1 : mo ρ with
  | none => rw [e1] at hm; cases hm
  | some self =>
    cases e2 : ms ρ with
    | none => rw [e1, e2] at hm; cases hm
    | some ds =>
      rw [e1, e2, Option.bind_some, Option.bind_some] at hm
      split at hm
      · rename_i hc
        cases e3 : F (iceL (self :: ds)) with
        | none => rw [e3] at hm; cases hm
        | some r =>
          rw [e3, Option.bind_some] at hm
          split at hm
          · rename_i hz
            cases hm
            refine ⟨P, S, T, ρ, self, w, e1, fun v H1 P1 U1 g1 r1 => ?_⟩
            obtain ⟨a, dx, fs, ev, hh, hl⟩ := isObj_v g1.ph hc r1
            refine ⟨a, dx, fs, ev, hh, hl, P1, S, T, ρ, ds, w.grow g1, e2, fun vs H2 P2 U2 g2 r2 => ?_⟩
            show spD ⟨X.K, cl, X.w⟩ F (v :: (vs ++ [])) H2 Q XE
            rw [List.append_nil]
            exact spD_view (ds' := r.2) g2.ph (show RepL ⟨X.K, cl, X.w⟩ P2 H2 (self :: ds) (v :: vs) (fa U1 U2) from ⟨v, vs, U1, U2, rfl, r1.gr g2, r2, rfl⟩) e3 hz (q.grow (g1.trans g2))
          · cases hm
      · cases hm
theorem f_look {pl : Sem Bool} {mo : RM} (n : Nat) (he : PE X o (tR ⟨X.K, cl, X.w⟩ E mo)) (c : Cls X.K (cl n)) (hm : Meth X.K (cl n) nm f) (G : FnOk X.prog X.w X.K X.mg X.base CX k f fd ps (spD ⟨X.K, cl, X.w⟩ F)) (hr : Room k X.A) (hb : Binds X.K fd ps []) (hx : Passes CX X XE) (ha : PA X (e :: es) (tAR ⟨X.K, cl, X.w⟩ E ms))
    (hst : starEach (e :: es) X.env = (false, eval e X.env) :: starEach es X.env := by rfl) (hpl : (backTo pos (starEach es X.env)).any (·.1) = false := by rfl)
    (ht : eval (.Call (.Attribute o nm apos) (e :: es) [] pos) X.env = (do
      let ov ← eval o X.env
      standAt apos.atName
      let (f, first) ← holding [ov] (getMethod ov nm pl)
      callWith pos f first (backTo pos (starEach (e :: es) X.env)) (backToKw pos (keywordEach [] X.env))) := by rfl) :
    PE X (.Call (.Attribute o nm apos) (e :: es) [] pos) (tF ⟨X.K, cl, X.w⟩ E (lookM n nm mo F ms)) := PE_imp (pe_meth he c hm G hr hb .nil hx ha hst hpl ht) fun _ _ _ h => look_run h
theorem f_look0 {pl : Sem Bool} {mo : RM} (n : Nat) (he : PE X o (tR ⟨X.K, cl, X.w⟩ E mo)) (c : Cls X.K (cl n)) (hm : Meth X.K (cl n) nm f) (G : FnOk X.prog X.w X.K X.mg X.base CX k f fd ps (spD ⟨X.K, cl, X.w⟩ F)) (hr : Room k X.A) (hb : Binds X.K fd ps []) (hx : Passes CX X XE)
    (ht : eval (.Call (.Attribute o nm apos) [] [] pos) X.env = (do
      let ov ← eval o X.env
      standAt apos.atName
      let (f, first) ← holding [ov] (getMethod ov nm pl)
      callWith pos f first (backTo pos (starEach [] X.env)) (backToKw pos (keywordEach [] X.env))) := by rfl) :
    PE X (.Call (.Attribute o nm apos) [] [] pos) (tF ⟨X.K, cl, X.w⟩ E (lookM n nm mo F nilM)) := PE_imp (pe_meth0 he c hm G hr hb .nil hx ht) fun σ H Q h => by
  obtain ⟨P, S, T, ρ, d, w, hg, q⟩ := look_run (XE := XE) h
  refine ⟨P, S, T, ρ, d, w, hg, fun v H1 P1 U1 g1 r1 => ?_⟩
  obtain ⟨a, dx, fs, ev, hh, hl, P2, S2, T2, ρ2, ds, w2, hn, q2⟩ := q v H1 P1 U1 g1 r1
  cases hn
  exact ⟨a, dx, fs, ev, hh, hl, q2 [] H1 P2 fz (.refl w2.ph) ⟨rfl, rfl⟩⟩

theorem loc_lst {c : LC} {P H : Hp} {S T U : FP} {ρ : List D} {v : V} {ds : List D} {Sd R : FP} (w : Wd c E P S (fa T U) σ H ρ) (l : Loc c L P H σ ρ S v (.lst true ds) Sd R) : ∃ a xs T1, v = .ref a ∧ H a = some (.lst xs) ∧ RepL c P H ds xs T1 ∧ (∀ b, Sd b = one a b + T1 b) ∧
    ∀ (ys : List V) (es : List D) (T2 U2 : FP), RepL c P (upd H a (.lst ys)) es ys T2 → (∀ b, T2 b + U2 b ≤ T1 b + U b) → Wd c E P (fa (fa (one a) T2) R) (fa T U2) σ (upd H a (.lst ys)) (L.put ρ (.lst true es)) := by
  obtain ⟨a, xs, T1, e1, hh, rl, f⟩ := l.rep
  have hSd : ∀ b, Sd b = one a b + T1 b := fun b => by rw [f]; rfl
  refine ⟨a, xs, T1, e1, hh, rl, hSd, fun ys es T2 U2 r2 hb => ?_⟩
  have ha : 0 < S a := by have := l.sum a; have := hSd a; simp [one] at *; omega
  have henv := l.put P (upd H a (.lst ys)) (.lst true es) (fa (one a) T2) (.refl _) (fun b u hb hu => by
    have hne : b ≠ a := fun z => by
      subst z
      have := w.le b; have := l.sum b; have := hSd b
      simp [one] at *; omega
    rw [upd_ne hne]; exact hu) ⟨a, ys, T2, e1, upd_same, r2, rfl⟩
  have wT : Wd c E P S (fa T U) σ H ρ := w
  -- the part aside may give to the slots
  have hP : P a = none := w.out a (by omega)
  refine ⟨henv, fun b => ?_, fun b z => ?_, fun b z => ?_, fun b u z => ?_, w.p0, fun b u z1 z2 => ?_, w.np, fun b z => ?_, w.kp⟩
  · have := w.le b; have := l.sum b; have := hSd b; have := hb b; simp only [fa] at *; omega
  · refine w.out b ?_; have := l.sum b; have := hSd b; have := hb b; simp only [fa] at *; omega
  · by_cases e : b = a
    · subst e; rw [upd_same]; simp
    · rw [upd_ne e]
      by_cases hT : 0 < fa T U b
      · exact w.th b hT
      · refine RepE.there ρ σ S w.env b ?_
        have := l.sum b; have := hSd b; have := hb b; simp only [fa] at *; omega
  · have e : b ≠ a := fun q => by subst q; rw [hP] at z; cases z
    rw [upd_ne e]; exact w.ph b u z
  · have e : b ≠ a := fun q => by
      subst q
      rcases w.ns b (by omega) with y | y
      · omega
      · rw [y] at z2; cases z2
    rw [upd_ne e]; exact w.fr b u z1 z2
  · refine w.ns b ?_; have := l.sum b; have := hSd b; have := hb b; simp only [fa] at *; omega
def appL (L : Lens) (m : RM) : GM := fun ρ => (L.get ρ).bind fun d => (m ρ).bind fun y => match d with | .lst true ds => if ds.length < LIM then some (.non, L.put ρ (.lst true (ds ++ [y]))) else none | _ => none
theorem repL_h' {c : LC} {P H H' : Hp} {ds : List D} {xs : List V} {S : FP} (r : RepL c P H ds xs S) (k : ∀ a o, 0 < S a → H a = some o → H' a = some o) : RepL c P H' ds xs S := RepL.mono (.refl _) ds xs S k r
theorem g_app (he : PE X o (tPl ⟨X.K, cl, X.w⟩ E L)) (ha : PE X e (tF ⟨X.K, cl, X.w⟩ E m))
    (hbase : attributeBase o "append" X.env (eval o X.env) = eval o X.env := by rfl)
    (hfew : ((backTo pos (starEach [e] X.env)).all (fun x => !x.1) && (backToKw pos (keywordEach [] X.env)).all (fun x => x.1.isSome)
      && decide ([e].length + ([] : List Keyword).length + (if ([] : List Keyword).isEmpty then 0 else 1) < 30)) = true := by rfl)
    (hline : (apos.endLine == pos.line) = true := by rfl) (hs : starEach [e] X.env = (false, eval e X.env) :: starEach [] X.env := by rfl) : PE X (.Call (.Attribute o "append" apos) [e] [] pos) (tG ⟨X.K, cl, X.w⟩ E (appL L m)) := by
  refine PE_imp (pe_bm PySem.F.plainAttrs_list PySem.F.slot_list_append PySem.F.type_list_append mt_append he (pa_cons ha pa_nil hs) hbase hfew hline hs) fun σ H Q ⟨P, S, T, ρ, d, ρ', w, hm, q⟩ => ?_
  unfold appL at hm
  cases e1 : L.get ρ with
  | none => rw [e1] at hm; cases hm
  | some d0 =>
    cases e2 : m ρ with
    | none => rw [e1, e2] at hm; cases hm
    | some y =>
      rw [e1, e2, Option.bind_some, Option.bind_some] at hm
      split at hm
      · rename_i ds
        split at hm
        · rename_i hl
          cases hm
          refine ⟨P, S, T, ρ, _, w, e1, fun v Sd R l => ?_⟩
          obtain ⟨a0, xs0, T0, e0, h0, _⟩ := l.rep
          refine ⟨by rw [e0]; exact .inl ⟨rfl, xs0, .inl (.inl h0)⟩, P, S, T, ρ, y, w, e2, fun z H1 P1 U1 g1 r1 u1 u2 => ?_⟩
          have w1 := w.aside g1 u1 u2 (Rep.there y z U1 r1)
          obtain ⟨a, xs, T1, ev, hh, rl, hS, k⟩ := loc_lst w1 (l.grow g1)
          have hl' : xs.length < sizeLine := by rw [← rl.length]; exact lim_lt hl
          have ha0 : 0 < S a := by have := l.sum a; have := hS a; simp [one] at *; omega
          refine ⟨a, xs, z, ev, rfl, hh, hl', ?_⟩
          have keepT : ∀ b u, 0 < T1 b + U1 b → H1 b = some u → upd H1 a (.lst (xs ++ [z])) b = some u := fun b u hb hu => by
            have : b ≠ a := fun q => by
              subst q
              have := w1.le b; have := l.sum b; have := hS b
              simp [one, fa] at *; omega
            rw [upd_ne this]; exact hu
          have r2 : RepL ⟨X.K, cl, X.w⟩ P1 (upd H1 a (.lst (xs ++ [z]))) (ds ++ [y]) (xs ++ [z]) (fa T1 (fa U1 fz)) :=
            RepL.append (repL_h' rl fun b u hb hu => keepT b u (by omega) hu) ⟨z, [], U1, fz, rfl, Rep.mono (.refl _) y z U1 (fun b u hb hu => keepT b u (by omega) hu) r1, ⟨rfl, rfl⟩, rfl⟩
          have w2 := k _ _ _ fz r2 fun b => by simp only [fa, fz]; omega
          exact q .non _ P1 _ fz w2 g1.p ⟨rfl, rfl⟩ fun b u hb hu => by
            have : b ≠ a := fun z2 => by subst z2; have := w.le b; omega
            rw [upd_ne this]; exact g1.h b u hu
        · cases hm
      · cases hm
end
end LI

namespace LI
open PySem L2

section
variable {X : Cx} {cl : Nat → Addr} {E : En} {e a b o : Expr} {es : List Expr} {pos pos' p apos : Pos} {m : RM} {g : GM} {ms : AM} {n : Nat} {f nm : Str} {L : Lens} {σ : L2.St}
theorem loc_own {c : LC} {P H : Hp} {S T U : FP} {ρ : List D} {v : V} {d : D} {Sd R T1 : FP} {a : Addr} (w : Wd c E P S (fa T U) σ H ρ) (l : Loc c L P H σ ρ S v d Sd R) (hSd : ∀ b, Sd b = one a b + T1 b) (hu : ∀ b, 0 < T1 b + U b → H b ≠ none) :
    ∀ (o : HO) (d2 : D) (T2 U2 : FP), Rep c P (upd H a o) d2 v (fa (one a) T2) → (∀ b, T2 b + U2 b ≤ T1 b + U b) → Wd c E P (fa (fa (one a) T2) R) (fa T U2) σ (upd H a o) (L.put ρ d2) := by
  intro o d2 T2 U2 r2 hb
  have ha : 0 < S a := by have := l.sum a; have := hSd a; simp [one] at *; omega
  have henv := l.put P (upd H a o) d2 (fa (one a) T2) (.refl _) (fun b u hb hu => by
    have hne : b ≠ a := fun z => by
      subst z
      have := w.le b; have := l.sum b; have := hSd b
      simp [one] at *; omega
    rw [upd_ne hne]; exact hu) r2
  have hP : P a = none := w.out a (by omega)
  refine ⟨henv, fun b => ?_, fun b z => ?_, fun b z => ?_, fun b u z => ?_, w.p0, fun b u z1 z2 => ?_, w.np, fun b z => ?_, w.kp⟩
  · have := w.le b; have := l.sum b; have := hSd b; have := hb b; simp only [fa] at *; omega
  · refine w.out b ?_; have := l.sum b; have := hSd b; have := hb b; simp only [fa] at *; omega
  · by_cases e : b = a
    · subst e; rw [upd_same]; simp
    · rw [upd_ne e]
      by_cases hT : 0 < fa T U b
      · exact w.th b hT
      · refine hu b ?_
        have := hb b; simp only [fa] at *; omega
  · have e : b ≠ a := fun q => by subst q; rw [hP] at z; cases z
    rw [upd_ne e]; exact w.ph b u z
  · have e : b ≠ a := fun q => by
      subst q
      rcases w.ns b (by omega) with y | y
      · omega
      · rw [y] at z2; cases z2
    rw [upd_ne e]; exact w.fr b u z1 z2
  · refine w.ns b ?_; have := l.sum b; have := hSd b; have := hb b; simp only [fa] at *; omega
theorem keep_own {c : LC} {P H : Hp} {S T : FP} {ρ : List D} {v : V} {d : D} {Sd R T1 : FP} {a : Addr} (w : Wd c E P S T σ H ρ) (l : Loc c L P H σ ρ S v d Sd R) (hSd : ∀ b, Sd b = one a b + T1 b) (o : HO) : ∀ b u, 0 < T1 b + T b → H b = some u → upd H a o b = some u := fun b u hb hu => by
  have : b ≠ a := fun q => by
    subst q
    have := w.le b; have := l.sum b; have := hSd b
    simp [one] at *; omega
  rw [upd_ne this]; exact hu

def setFD (n : Nat) (f : Str) (d : D) : D → Option D
  | .obj true k fs ds => if k = n ∧ fs.length < 1000 then some (match fIx f fs with | some j => .obj true k fs (ds.set j d) | none => .obj true k (fs ++ [f]) (ds ++ [d])) else none
  | _ => none
def fldM (n : Nat) (f : Str) (L : Lens) (g : GM) : SM := fun ρ => (g ρ).bind fun r => (L.get r.2).bind fun self => (setFD n f r.1 self).map fun self' => (.nx, L.put r.2 self')
theorem fIx_lt {f : Str} : ∀ {fs : List Str} {j : Nat}, fIx f fs = some j → j < fs.length
  | [], j, h => by cases h
  | g :: gs, j, h => by
    unfold fIx at h
    by_cases e : f = g
    · rw [if_pos e] at h; cases h; simp
    · rw [if_neg e] at h
      cases z : fIx f gs with
      | none => rw [z] at h; cases h
      | some j' => rw [z] at h; cases h; have := fIx_lt z; simp; omega
theorem putF_some {f : Str} {y : V} : ∀ {fs : List Str} {xs : List V} {j : Nat}, fIx f fs = some j → fs.length = xs.length → putF f y (fs.zip xs) = fs.zip (xs.set j y)
  | [], xs, j, h, n => by cases h
  | g :: gs, [], j, h, n => by simp at n
  | g :: gs, x :: xs, j, h, n => by
    unfold fIx at h
    by_cases e : f = g
    · rw [if_pos e] at h; cases h
      rw [List.zip_cons_cons]
      show (if g = f then (g, y) :: gs.zip xs else _) = _
      rw [if_pos e.symm]; rfl
    · rw [if_neg e] at h
      cases z : fIx f gs with
      | none => rw [z] at h; cases h
      | some j' =>
        rw [z] at h; cases h
        rw [List.zip_cons_cons]
        show (if g = f then _ else (g, x) :: putF f y (gs.zip xs)) = _
        rw [if_neg (fun q => e q.symm), putF_some z (by simpa using n)]; rfl
theorem putF_none {f : Str} {y : V} : ∀ {fs : List Str} {xs : List V}, fIx f fs = none → fs.length = xs.length → putF f y (fs.zip xs) = (fs ++ [f]).zip (xs ++ [y])
  | [], xs, h, n => by
    have : xs = [] := List.length_eq_zero_iff.mp n.symm
    subst this; rfl
  | g :: gs, [], h, n => by simp at n
  | g :: gs, x :: xs, h, n => by
    unfold fIx at h
    by_cases e : f = g
    · rw [if_pos e] at h; cases h
    · rw [if_neg e] at h
      have z : fIx f gs = none := by cases z : fIx f gs with | none => rfl | some j' => rw [z] at h; cases h
      rw [List.zip_cons_cons]
      show (if g = f then _ else (g, x) :: putF f y (gs.zip xs)) = _
      rw [if_neg (fun q => e q.symm), putF_none z (by simpa using n)]; rfl
theorem s_fld (n : Nat) {value : Expr} (hc : Cls X.K (cl n)) (hn : NoAttr X.K (cl n) f) (he : PE X value (tG ⟨X.K, cl, X.w⟩ E g)) (ho : PE X o (tPl ⟨X.K, cl, X.w⟩ E L)) (hs : swapsWith value (some (.Attribute o f pos')) pos.line X.env = pure false := by rfl) :
    PS X (.Assign [.Attribute o f pos'] value pos) (tS ⟨X.K, cl, X.w⟩ E (fldM n f L g)) := PS_imp (ps_fld ho he hs) fun D σ H ⟨P, S, ρ, fl, ρ', w, hm, q⟩ => by
  unfold fldM at hm
  cases eg : g ρ with
  | none => rw [eg] at hm; cases hm
  | some r =>
    obtain ⟨d, ρ1⟩ := r
    rw [eg, Option.bind_some] at hm
    cases el : L.get ρ1 with
    | none => rw [el] at hm; cases hm
    | some self =>
      rw [el, Option.bind_some] at hm
      cases ef : setFD n f d self with
      | none => rw [ef] at hm; cases hm
      | some self' =>
        rw [ef] at hm
        cases hm
        refine g_run w eg fun y H1 P1 S1 U w1 e1 r1 => ⟨P1, S1, U, ρ1, self, w1, el, fun v Sd R l => ?_⟩
        unfold setFD at ef
        split at ef
        · rename_i k fs ds
          split at ef
          · rename_i hk
            obtain ⟨rfl, hl⟩ := hk
            cases ef
            obtain ⟨a, dx, xs, T1, ev, hh, nl, rl, hf⟩ := l.rep
            have hS : ∀ b, Sd b = one a b + T1 b := fun b => by rw [hf]; rfl
            have w1' : Wd ⟨X.K, cl, X.w⟩ E P1 S1 (fa fz U) σ H1 ρ1 := by rw [fz_fa]; exact w1
            refine ⟨a, cl k, dx, _, ev, hh, hc, hn, by rw [List.length_zip]; omega, ?_⟩
            have kp := fun o => keep_own w1 l hS o
            have hu : ∀ b, 0 < T1 b + U b → H1 b ≠ none := fun b hb => by
              by_cases hU : 0 < U b
              · exact w1.th b hU
              · exact RepL.there ds xs T1 rl b (by omega)
            cases ej : fIx f fs with
            | some j =>
              have hj : j < xs.length := by
                have := fIx_lt ej
                omega
              obtain ⟨x0, hx0⟩ : ∃ x0, ds[j]? = some x0 := ⟨_, List.getElem?_eq_getElem (by rw [rl.length]; exact hj)⟩
              obtain ⟨v0, S0, R0, k1, k2, k3, k4⟩ := rl.focus hx0
              rw [putF_some ej nl]
              have rnew := k4 P1 (upd H1 a (.ins (cl k) dx (fs.zip (xs.set j y)))) d y U (.refl _) (fun b u hb hu => kp _ b u (by have := k3 b; omega) hu) (Rep.mono (.refl _) d y U (fun b u hb hu => kp _ b u (by omega) hu) r1)
              have w2 := loc_own w1' l hS hu (.ins (cl k) dx (fs.zip (xs.set j y))) (.obj true k fs (ds.set j d)) (fa U R0) fz ⟨a, dx, _, fa U R0, ev, upd_same, by rw [List.length_set]; exact nl, rnew, rfl⟩ (fun b => by have := k3 b; simp only [fa, fz]; omega)
              rw [fa_fz] at w2
              simp only [ej] at q
              exact q σ _ P1 _ w2 e1
            | none =>
              rw [putF_none ej nl]
              have rnew : RepL ⟨X.K, cl, X.w⟩ P1 (upd H1 a (.ins (cl k) dx ((fs ++ [f]).zip (xs ++ [y])))) (ds ++ [d]) (xs ++ [y]) (fa T1 (fa U fz)) :=
                RepL.append (repL_h' rl fun b u hb hu => kp _ b u (by omega) hu) ⟨y, [], U, fz, rfl, Rep.mono (.refl _) d y U (fun b u hb hu => kp _ b u (by omega) hu) r1, ⟨rfl, rfl⟩, rfl⟩
              have w2 := loc_own w1' l hS hu (.ins (cl k) dx ((fs ++ [f]).zip (xs ++ [y]))) (.obj true k (fs ++ [f]) (ds ++ [d])) (fa T1 (fa U fz)) fz ⟨a, dx, _, _, ev, upd_same, by simp [nl], rnew, rfl⟩ (fun b => by simp only [fa, fz]; omega)
              rw [fa_fz] at w2
              simp only [ej] at q
              exact q σ _ P1 _ w2 e1
          · cases ef
        · cases ef

def strsOf : List D → Option (List (List Nat))
  | [] => some []
  | .str s :: ds => (strsOf ds).map fun ss => s :: ss
  | _ :: _ => none
def joinL (sep : List Nat) : List (List Nat) → List Nat
  | [] => []
  | [s] => s
  | s :: ss => s ++ sep ++ joinL sep ss
theorem strs_v {c : LC} {P H : Hp} : ∀ {ds : List D} {xs : List V} {U : FP} {ss : List (List Nat)}, strsOf ds = some ss → RepL c P H ds xs U → xs = (ss.map fun s => (⟨s.toArray⟩ : Str)).map V.str
  | [], xs, U, is, h, r => by cases h; exact r.1
  | .str i :: ds, xs, U, is, h, ⟨y, ys, T, T2, e1, r, rs, _⟩ => by
    unfold strsOf at h
    cases z : strsOf ds with
    | none => rw [z] at h; cases h
    | some js => rw [z] at h; cases h; rw [e1, r.1, strs_v z rs]; rfl
  | .gone :: _, _, _, _, h, _ | .non :: _, _, _, _, h, _ | .bl _ :: _, _, _, _, h, _ | .int _ :: _, _, _, _, h, _ | .scr _ :: _, _, _, _, h, _ | .kst _ :: _, _, _, _, h, _ | .tup _ :: _, _, _, _, h, _ | .lst .. :: _, _, _, _, h, _ | .dK .. :: _, _, _, _, h, _ | .dT .. :: _, _, _, _, h, _ | .dN .. :: _, _, _, _, h, _ | .obj .. :: _, _, _, _, h, _ => by simp [strsOf] at h
end
end LI

namespace LI
open PySem L2

section
variable {X : Cx} {cl : Nat → Addr} {E : En} {e a b o : Expr} {es : List Expr} {pos pos' p apos : Pos} {m mo : RM} {g : GM} {ms : AM} {n : Nat} {f nm : Str} {L : Lens} {σ : L2.St}
def frM (m : RM) : RM := fun ρ => (m ρ).bind fun d => if frz d = true then some d else none
theorem f_fr (h : PE X e (tR ⟨X.K, cl, X.w⟩ E m)) : PE X e (tF ⟨X.K, cl, X.w⟩ E (frM m)) := PE_imp h fun σ H Q ⟨P, S, T, ρ, d, w, hm, q⟩ => by
  unfold frM at hm
  cases hd : m ρ with
  | none => rw [hd] at hm; cases hm
  | some d1 =>
    rw [hd, Option.bind_some] at hm
    split at hm
    · rename_i hf
      cases hm
      refine ⟨P, S, T, ρ, d, w, hd, fun v H' P' U g r => ?_⟩
      have z := Rep.frz0 d v U hf r
      subst z
      exact q v H' P' fz g r (fun _ => Nat.zero_le _) fun a z => by simp [fz] at z
    · cases hm

def joinD2 : D → D → Option D
  | .str sep, .lst _ ds => (strsOf ds).bind fun ss => if (ss.map List.length).sum + ss.length * sep.length ≤ LIM then some (.str (TL.joinL sep ss)) else none
  | _, _ => none
theorem f_join (ho : PE X o (tR ⟨X.K, cl, X.w⟩ E mo)) (he : PE X e (tR ⟨X.K, cl, X.w⟩ E m)) (hs : starEach [e] X.env = [(false, eval e X.env)] := by rfl) (hbase : attributeBase o "join" X.env (eval o X.env) = eval o X.env := by rfl) (hline : (apos.endLine == pos.line) = true := by rfl) :
    PE X (.Call (.Attribute o "join" apos) [e] [] pos) (tF ⟨X.K, cl, X.w⟩ E (m2 joinD2 mo m)) := PE_imp (pe_join ho he hs hbase hline) fun σ H Q ⟨P, S, T, ρ, d, w, hm, q⟩ => by
  obtain ⟨da, db, ea, eb, h⟩ := m2_split hm
  unfold joinD2 at h
  split at h
  · rename_i sep o' ds
    cases z : strsOf ds with
    | none => rw [z] at h; cases h
    | some ss =>
      rw [z, Option.bind_some] at h
      split at h
      · rename_i hl
        cases h
        refine ⟨P, S, T, ρ, _, w, ea, fun v H1 P1 U1 g1 r1 => ⟨⟨_, r1.1⟩, P1, S, T, ρ, _, w.grow g1, eb, fun y H2 P2 U2 g2 r2 => ?_⟩⟩
        obtain ⟨p, xs, T', ey, hh, rl, _⟩ := lst_heap g2.ph r2
        have hx := strs_v z rl
        subst hx
        refine ⟨_, p, ss.map SX.S, r1.1, by rw [ey], .inl (.inl (.inl hh)), ?_, ?_⟩
        · have e1 : ((ss.map SX.S).map fun x => x.length) = ss.map List.length := SX.lens ss
          rw [e1, List.length_map]
          have e2 : (⟨sep.toArray⟩ : Str).length = sep.length := str_len sep
          rw [e2]
          exact Nat.le_trans hl (by decide)
        · have e3 : Txt.join ⟨sep.toArray⟩ (ss.map SX.S) = ⟨(TL.joinL sep ss).toArray⟩ := SX.join_S sep ss
          rw [e3]
          exact (q.grow (g1.trans g2)).flat g2.ph ⟨rfl, rfl⟩
      · cases h
  · cases h
end

def spLaw (K : PySem.W.Frag) : Sp := fun vs H Q _ => ∃ (a : Addr) (ns : List Int), vs = [.ref a] ∧ SqL K H a (ns.map V.int) ∧ ns.length ≤ 63 ∧ (∀ z ∈ ns, Builtin.Int.intBits z ≤ 1048576) ∧ ∀ H', Q (.bl true) H'
theorem law_ok {P : Program} {w : World} {K : PySem.W.Frag} {mg : Str → Option Value} {base : Heap} {CX : CXT} {k : Nat} {f : Addr} {fd : FuncData} {ps : List Str} {F : FM} {cl : Nat → Addr} (G : FnOk P w K mg base CX k f fd ps (spD ⟨K, cl, w⟩ F))
    (h : ∀ ns : List Int, ns.length ≤ 63 → (∀ z ∈ ns, Builtin.Int.intBits z ≤ 1048576) → ∃ ds', F [.scr ns] = some (.bl true, ds')) : FnOk P w K mg base CX k f fd ps (spLaw K) :=
  G.imp fun vs H Q E ⟨a, ns, e, hs, hl, hb, q⟩ => by
    obtain ⟨ds', hF⟩ := h ns hl hb
    refine ⟨H, fz, [.scr ns], .bl true, ds', ⟨.ref a, [], fz, fz, e, ⟨a, rfl, hs, rfl⟩, ⟨rfl, rfl⟩, (fa_fz fz).symm⟩, .refl _, fun _ => Nat.zero_le _, fun a z => by simp [fz] at z, hF, fun v H' P' U S' st rd _ => ?_⟩
    rw [rd.1]
    exact q H'
end LI

namespace LI
open PySem L2

section
variable {X : Cx} {cl : Nat → Addr} {E : En} {e a b o : Expr} {es : List Expr} {pos pos' p apos : Pos} {m mo ma mb : RM} {g : GM} {ms : AM} {n : Nat} {nm x : Str} {L : Lens} {σ : L2.St} {CX : CXT} {k : Nat} {fa' : Addr} {fd : FuncData} {ps : List Str} {F : FM} {XE : XK}
def VQ (c : LC) (P H : Hp) (d : D) (Q : VK) : Prop := ∀ v H' P' U, Gr P H P' H' → Rep c H' H' d v U → Q v H'
def tV (c : LC) (E : En) (m : RM) : TE := fun σ H Q => ∃ P S T ρ d, Wd c E P S T σ H ρ ∧ m ρ = some d ∧ VQ c P H d Q
theorem v_r (h : PE X e (tR ⟨X.K, cl, X.w⟩ E m)) : PE X e (tV ⟨X.K, cl, X.w⟩ E m) := PE_imp h fun σ H Q ⟨P, S, T, ρ, d, w, hm, q⟩ => ⟨P, S, T, ρ, d, w, hm, fun v H' P' U g r => q v H' P' U g (Rep.mono g.ph d v U (fun _ _ _ h => h) r)⟩
theorem FQ.flatV {c : LC} {P H : Hp} {d : D} {Q : VK} (hp : Ex P H) (hd : isFlat d = true) (h : FQ c P H d Q) : FQ c H H d Q := fun v H' P' U g r _ _ =>
  h v H' P fz ⟨.refl _, g.h, hp.trans g.h, fun _ z => .inl z⟩ (flat_any (c := c) hd r) (fun _ => Nat.zero_le _) fun a z => by simp [fz] at z
def FlatOp (f : D → D → Option D) : Prop := ∀ a b d, f a b = some d → isFlat d = true
theorem op2_runW {r : R2} {f : D → D → Option D} (hf : Op2 ⟨X.K, cl, X.w⟩ r f) (hz : FlatOp f) {H : Hp} {Q : VK} (h : tF ⟨X.K, cl, X.w⟩ E (m2 f ma mb) σ H Q) : tOp r (tV ⟨X.K, cl, X.w⟩ E ma) (tV ⟨X.K, cl, X.w⟩ E mb) σ H Q := by
  obtain ⟨P, S, T, ρ, d, w, hm, q⟩ := h
  obtain ⟨da, db, ea, eb, hm⟩ := m2_split hm
  refine ⟨P, S, T, ρ, da, w, ea, fun x H1 P1 U1 g1 r1 => ⟨P1, S, T, ρ, db, w.grow g1, eb, fun y H2 P2 U2 g2 r2 => ?_⟩⟩
  exact hf H2 H2 (.refl _) _ _ _ _ _ _ _ hm (Rep.mono g2.h da x U1 (fun a o _ h => g2.h a o h) r1) r2 Q ((q.grow (g1.trans g2)).flatV g2.ph (hz _ _ _ hm))
theorem v_cmp {op : CmpOp} {r : R2} {f : D → D → Option D} (ho : OpR X (compareOp op) r) (hf : Op2 ⟨X.K, cl, X.w⟩ r f) (hz : FlatOp f) (ha : PE X a (tV ⟨X.K, cl, X.w⟩ E ma)) (hb : PE X b (tV ⟨X.K, cl, X.w⟩ E mb)) (hm : behindInMarks op b = false) : PE X (.Compare a [op] [b] pos) (tF ⟨X.K, cl, X.w⟩ E (m2 f ma mb)) :=
  PE_imp (pe_cmpR ho ha hb hm) fun _ _ _ h => op2_runW hf hz h
theorem tv_cmp {op : CmpOp} {r : R2} {f : D → D → Option D} (ho : OpR X (compareOp op) r) (hf : Op2 ⟨X.K, cl, X.w⟩ r f) (hz : FlatOp f) (ha : PE X a (tV ⟨X.K, cl, X.w⟩ E ma)) (hb : PE X b (tV ⟨X.K, cl, X.w⟩ E mb)) (hm : behindInMarks op b = false) : PT X (.Compare a [op] [b] pos) (tT ⟨X.K, cl, X.w⟩ E (bM (m2 f ma mb))) :=
  t_test (pt_cmpR ho ha hb hm) fun _ _ _ h => op2_runW hf hz h
theorem flat_eq : FlatOp eqD := fun a b d h => by
  unfold eqD at h
  cases z : eqB a b with
  | none => rw [z] at h; cases h
  | some k => rw [z] at h; cases h; rfl
theorem flat_ne : FlatOp neD := fun a b d h => by
  unfold neD at h
  cases z : eqB a b with
  | none => rw [z] at h; cases h
  | some k => rw [z] at h; cases h; rfl
def callVM (F : FM) (ms : AM) : RM := fun ρ => (ms ρ).bind fun ds => (F (iceL ds)).map (·.1)
theorem spD_viewV {c : LC} {F : FM} {P H : Hp} {ds : List D} {vs : List V} {U : FP} {d : D} {ds' : List D} {Q : VK} {E : XK} (e : Ex P H) (r : RepL c P H ds vs U) (hf : F (iceL ds) = some (d, ds')) (q : VQ c P H d Q) : spD c F vs H Q E := by
  refine ⟨coldP U P H, fz, iceL ds, d, ds', RepL.ice (coldP_p e) ds vs U (fun a o h1 h2 => by unfold coldP; rw [if_pos h1]; exact h2) r, coldP_h e, fun _ => Nat.zero_le _, fun a h => by simp [fz] at h, hf, fun v H' P' U2 S' st rd rs => ?_⟩
  have hH : Ex H H' := fun a o h => st.fr a o rfl h
  exact q v H' P U2 ⟨.refl _, hH, e.trans hH, fun a h => .inl h⟩ (Rep.mono st.ph d v U2 (fun _ _ _ h => h) rd)
theorem callV_split {ρ : List D} {d : D} (h : callVM F ms ρ = some d) : ∃ ds ds', ms ρ = some ds ∧ F (iceL ds) = some (d, ds') := by
  unfold callVM at h
  cases e1 : ms ρ with
  | none => rw [e1] at h; cases h
  | some ds =>
    rw [e1, Option.bind_some] at h
    cases e2 : F (iceL ds) with
    | none => rw [e2] at h; cases h
    | some r => rw [e2] at h; cases h; exact ⟨ds, r.2, rfl, e2⟩
theorem v_call (G : FnOk X.prog X.w X.K X.mg X.base CX k fa' fd ps (spD ⟨X.K, cl, X.w⟩ F)) (hr : Room k X.A) (hg : Gl X x) (hm : X.mg x = some (.ref fa')) (hk : PySem.W.keepIn X.K (.ref fa') = true) (hb : Binds X.K fd ps []) (hx : Passes CX X XE)
    (ha : PA X (e :: es) (tAR ⟨X.K, cl, X.w⟩ E ms)) (hdb : (x == ("__debug__" : Str)) = false := by decide) (he : starEach (e :: es) X.env = (false, eval e X.env) :: starEach es X.env := by rfl) (hpl : (backTo pos (starEach es X.env)).any (·.1) = false := by rfl) :
    PE X (.Call (.Name x p) (e :: es) [] pos) (tV ⟨X.K, cl, X.w⟩ E (callVM F ms)) := PE_imp (pe_call G hr hg hm hk hb .nil hx ha hdb he hpl) fun σ H Q ⟨P, S, T, ρ, d, w, h, q⟩ => by
  obtain ⟨ds, ds', e1, e2⟩ := callV_split h
  refine ⟨P, S, T, ρ, ds, w, e1, fun vs H1 P1 U1 g1 r1 => ?_⟩
  show spD ⟨X.K, cl, X.w⟩ F (vs ++ []) H1 Q XE
  rw [List.append_nil]
  exact spD_viewV g1.ph r1 e2 fun v H' P' U g r => q v H' P' U (g1.trans g) r
theorem f_gl {v : V} (d : D) (h : ∃ u, X.mg x = some u ∧ RelV v u) (hr : ∀ P H, Ex P H → Rep ⟨X.K, cl, X.w⟩ P H d v fz) (hg : Gl X x := by rfl) (hd : (x == ("__debug__" : Str)) = false := by decide) : PE X (.Name x pos) (tF ⟨X.K, cl, X.w⟩ E (kM d)) := by
  obtain ⟨u, h1, h2⟩ := h
  exact f_glob d hg h1 h2 hr hd
theorem f_glS (s : List Nat) (h : ∃ u, X.mg x = some u ∧ RelV (.str ⟨s.toArray⟩) u) (hg : Gl X x := by rfl) (hd : (x == ("__debug__" : Str)) = false := by decide) : PE X (.Name x pos) (tF ⟨X.K, cl, X.w⟩ E (kM (.str s))) := f_gl (.str s) h (fun _ _ _ => ⟨rfl, rfl⟩) hg hd
theorem f_glI (i : Int) (h : ∃ u, X.mg x = some u ∧ RelV (.int i) u) (hg : Gl X x := by rfl) (hd : (x == ("__debug__" : Str)) = false := by decide) : PE X (.Name x pos) (tF ⟨X.K, cl, X.w⟩ E (kM (.int i))) := f_gl (.int i) h (fun _ _ _ => ⟨rfl, rfl⟩) hg hd
theorem f_isi' {ty : String} {b0 : Expr} (ha : PE X a (tR ⟨X.K, cl, X.w⟩ E ma)) (hb : PE X b0 (tC (.ty ty))) (hm : X.mg "isinstance" = none) (hg : Gl X "isinstance" := by rfl)
    (hs1 : starEach [a, b0] X.env = (false, eval a X.env) :: starEach [b0] X.env := by rfl) (hs2 : starEach [b0] X.env = (false, eval b0 X.env) :: starEach [] X.env := by rfl) (hpl : (backTo pos (starEach [b0] X.env)).any (·.1) = false := by rfl) : PE X (.Call (.Name "isinstance" p) [a, b0] [] pos) (tF ⟨X.K, cl, X.w⟩ E (isiM ty ma)) :=
  f_isi hg hm (by decide +kernel) ha hb (by decide) (by decide) hs1 hs2 hpl
end
end LI

namespace LI
open PySem L2

def mvM (L : Lens) : GM := fun ρ => (L.get ρ).bind fun d => some (d, L.put ρ .gone)
def iceAt (i : Nat) (ρ : List D) : List D := match ρ[i]? with
  | some d => ρ.set i (ice d)
  | none => ρ
def iceM (i : Nat) (m : SM) : SM := fun ρ => (m ρ).map fun r => match r.1 with
  | .nx => (.nx, iceAt i r.2)
  | f => (f, r.2)
section
variable {X : Cx} {cl : Nat → Addr} {E : En} {e a b tg : Expr} {pos : Pos} {L : Lens} {m ma mb : RM}
theorem g_mv (h : PE X e (tPl ⟨X.K, cl, X.w⟩ E L)) : PE X e (tG ⟨X.K, cl, X.w⟩ E (mvM L)) := PE_imp h fun σ H Q ⟨P, S, T, ρ, d, ρ', w, hm, q⟩ => by
  unfold mvM at hm
  cases hd : L.get ρ with
  | none => rw [hd] at hm; cases hm
  | some d1 =>
    rw [hd] at hm
    cases hm
    refine ⟨P, S, T, ρ, d, w, hd, fun v Sd R l => ?_⟩
    have henv := l.put P H .gone fz (.refl P) (fun _ _ _ h => h) rfl
    refine q v H P (fa fz R) Sd ?_ (.refl P) l.rep (fun _ _ _ h => h)
    have hs := l.sum
    refine ⟨henv, fun x => ?_, fun x hx => ?_, fun x hx => ?_, w.ph, w.p0, w.fr, w.np, fun x hx => ?_, w.kp⟩
    · have := w.le x; have := hs x; simp only [fa, fz] at *; omega
    · exact w.out x (by have := hs x; simp only [fa, fz] at *; omega)
    · by_cases z : 0 < T x
      · exact w.th x z
      · exact Rep.there d v Sd l.rep x (by simp only [fa] at hx; omega)
    · exact w.ns x (by have := hs x; simp only [fa, fz] at *; omega)
theorem RepE.iceAt {c : LC} {P H : Hp} : ∀ {ρ : List D} {σ : St} {S : FP} (i : Nat), RepE c P H ρ σ S → ∃ (U R : FP), (∀ a, S a = U a + R a) ∧ (∀ a, 0 < U a → H a ≠ none) ∧
    ∀ (P2 H2 : Hp), Ex P P2 → (∀ a o, 0 < U a → H a = some o → P2 a = some o) → (∀ a o, 0 < R a → H a = some o → H2 a = some o) → RepE c P2 H2 (LI.iceAt i ρ) σ R
  | [], [], S, i, h => ⟨fz, S, fun a => by simp [fz], fun a p => by simp [fz] at p, fun P2 H2 _ _ _ => h⟩
  | d0 :: ρ, v0 :: σ, S, 0, ⟨T, U, r, rs, f⟩ => ⟨T, U, fun a => by rw [f]; rfl, r.there, fun P2 H2 e k1 k2 => by
      refine ⟨fz, U, ?_, rs.mono e ρ σ U k2, by funext a; simp [fa, fz]⟩
      cases v0 with
      | none => obtain ⟨rfl, _⟩ := r; exact ⟨rfl, rfl⟩
      | some v => exact Rep.ice e d0 v T k1 r⟩
  | d0 :: ρ, v0 :: σ, S, i + 1, ⟨T, T2, r, rs, f⟩ => by
    obtain ⟨U, R, h1, h0, h2⟩ := RepE.iceAt i rs
    refine ⟨U, fa T R, fun a => by have := h1 a; rw [f]; simp only [fa]; omega, h0, fun P2 H2 e k1 k2 => ?_⟩
    have := h2 P2 H2 e k1 (fun a o z1 z2 => k2 a o (by simp only [fa]; omega) z2)
    have e2 : LI.iceAt (i + 1) (d0 :: ρ) = d0 :: LI.iceAt i ρ := by
      simp only [LI.iceAt, List.getElem?_cons_succ]
      cases ρ[i]? <;> rfl
    rw [e2]
    exact ⟨T, R, RepO.mono e (fun a o z1 z2 => k2 a o (by simp only [fa]; omega) z2) r, this, rfl⟩
  | [], _ :: _, _, _, h => h.elim
  | _ :: _, [], _, _, h => h.elim
theorem Wd.iceAt {c : LC} {P H : Hp} {S T : FP} {σ : St} {ρ : List D} (w : Wd c E P S T σ H ρ) (i : Nat) : ∃ P' S', Wd c E P' S' T σ H (LI.iceAt i ρ) ∧ Ex P P' := by
  obtain ⟨U, R, h1, h0, h2⟩ := RepE.iceAt i w.env
  have hP : ∀ a, 0 < U a → P a = none := fun a z => w.out a (by have := h1 a; omega)
  have ex : Ex P (fun a => if 0 < U a then H a else P a) := fun a o z => by
    by_cases hu : 0 < U a
    · rw [hP a hu] at z; cases z
    · simp [hu, z]
  refine ⟨fun a => if 0 < U a then H a else P a, R, ⟨h2 _ H ex (fun a o z1 z2 => by simp [z1, z2]) (fun _ _ _ h => h), fun a => ?_, fun a z => ?_, w.th, fun a o z => ?_, w.p0.trans ex, w.fr, fun a z => ?_, fun a z => w.ns a (by have := h1 a; omega), w.kp⟩, ex⟩
  · have := w.le a; have := h1 a; omega
  · have l := w.le a; have s := h1 a
    have hu : ¬ 0 < U a := by omega
    simp only [hu, if_false]
    exact w.out a (by omega)
  · by_cases hu : 0 < U a
    · simpa [hu] using z
    · exact w.ph a o (by simpa [hu] using z)
  · by_cases hu : 0 < U a
    · exact .inr (w.ns a (by have := h1 a; omega))
    · exact w.np a (by simpa [hu] using z)
theorem s_seqI (i : Nat) {st : Stmt} {m : SM} (h : PS X st (tS ⟨X.K, cl, X.w⟩ E m)) : PS X st (tS ⟨X.K, cl, X.w⟩ E (iceM i m)) := PS_imp h fun D σ H ⟨P, S, ρ, fl, ρ', w, hm, q⟩ => by
  unfold iceM at hm
  cases eg : m ρ with
  | none => rw [eg] at hm; cases hm
  | some r =>
    obtain ⟨f1, ρ1⟩ := r
    rw [eg] at hm
    refine ⟨P, S, ρ, f1, ρ1, w, eg, ?_⟩
    cases f1 with
    | nx =>
      cases hm
      intro σ' H' P' S' w' x
      obtain ⟨P2, S2, w2, e2⟩ := w'.iceAt i
      exact q σ' H' P2 S2 w2 (x.trans e2)
    | rt d => cases hm; exact q
    | bk => cases hm; exact q
    | ct => cases hm; exact q
    | ex n fs es => cases hm; exact q

def enumFrom (n : Nat) : List D → List D
  | [] => []
  | d :: ds => .tup [.int (n : Int), d] :: enumFrom (n + 1) ds
def lstD : D → Option (List D)
  | .lst false ds => if frzL ds = true then some ds else none
  | .scr ns => some (ns.map .int)
  | _ => none
def enumM (m : RM) : AM := fun ρ => (m ρ).bind fun d => (lstD d).map (enumFrom 0)
def zipD : List D → List D → List D
  | a :: as, b :: bs => .tup [a, b] :: zipD as bs
  | _, _ => []
def zipM (m1 m2 : RM) : AM := fun ρ => (m1 ρ).bind fun d1 => (m2 ρ).bind fun d2 => (lstD d1).bind fun a => (lstD d2).map fun b => zipD a b
def revM (m : RM) : AM := fun ρ => (m ρ).bind fun d => (lstD d).map List.reverse
end
def IterV (c : LC) (P H : Hp) (J : It) (ds : List D) : Prop := ∃ (G : Hp → Prop) (Y : Nat → Hp → V → Hp → Prop), Walk J ds.length G Y ∧ (∀ P2 H2, Gr P H P2 H2 → G H2) ∧
  ∀ i P2 H2 x H3, Gr P H P2 H2 → i < ds.length → Y i H2 x H3 → ∃ P3 d, Gr P2 H2 P3 H3 ∧ ds[i]? = some d ∧ Rep c P3 H3 d x fz
def tIV (c : LC) (E : En) (m : AM) : TI := fun σ H R => ∃ P S T ρ ds, Wd c E P S T σ H ρ ∧ m ρ = some ds ∧ ∀ J H' P', Gr P H P' H' → IterV c P' H' J ds → R J H'
def itemsV : D → Option (List D)
  | .lst _ ds => if frzL ds = true then some ds else none
  | d => itemsD d
def itV (m : RM) : AM := fun ρ => (m ρ).bind itemsV
section
variable {X : Cx} {cl : Nat → Addr} {E : En} {e a b tg : Expr} {pos : Pos} {m ma mb : RM}
theorem i_up {ms : AM} (h : PI X tg e (tI ⟨X.K, cl, X.w⟩ E ms)) : PI X tg e (tIV ⟨X.K, cl, X.w⟩ E ms) := PI_imp h fun σ H R ⟨P, S, T, ρ, ds, w, hm, q⟩ =>
  ⟨P, S, T, ρ, ds, w, hm, fun J H1 P1 g1 ⟨G, Y, wk, hG, hY⟩ => q J H1 P1 g1 ⟨G, Y, wk, fun P2 H2 g2 => hG P2 H2 g2.p g2.ph, fun i P2 H2 x H3 g2 hi y => hY i P2 H2 x H3 g2.p g2.ph hi y⟩⟩
theorem i_seqV (h : PE X e (tR ⟨X.K, cl, X.w⟩ E m)) : PI X tg e (tIV ⟨X.K, cl, X.w⟩ E (itV m)) := by
  refine PI_imp (PI_or (pi_list h) (i_up (i_seq h))) fun σ H R ⟨P, S, T, ρ, ds, w, hm, q⟩ => ?_
  unfold itV at hm
  cases ea : m ρ with
  | none => rw [ea] at hm; cases hm
  | some d =>
    rw [ea] at hm
    replace hm : itemsV d = some ds := hm
    cases d with
    | lst o es =>
      replace hm : (if frzL es = true then some es else none) = some ds := hm
      split at hm
      · rename_i hf
        cases hm
        refine .inl ⟨P, S, T, ρ, _, w, ea, fun v H1 P1 U1 g1 r1 => ?_⟩
        obtain ⟨p, xs, T', e1, hp, rl, _⟩ := lst_heap g1.ph r1
        have z := RepL.frz0 _ xs _ hf rl
        subst z
        refine ⟨p, e1, ⟨xs, .inl (.inl hp)⟩, q _ H1 P1 g1 ⟨_, _, by rw [rl.length]; exact walk_list (K := X.K) (a := p) (xs := xs), fun P2 H2 g2 => Or.inl (Or.inl (g2.h _ _ hp)), fun i P2 H2 x H3 g2 hi y => ?_⟩⟩
        obtain ⟨rfl, hx⟩ := y
        obtain ⟨d, h1, h2⟩ := rep_get0 (repL_h (H' := H3) rl) hx
        exact ⟨P2, d, .refl g2.ph, h1, Rep.mono g2.p d x fz (fun a o z _ => by simp [fz] at z) h2⟩
      · cases hm
    | _ => exact .inr ⟨P, S, T, ρ, ds, w, by unfold itM; rw [ea]; exact hm, q⟩
theorem lcV_run {c : LC} {vs tl : List Nat} {f : TgM} {mc : BM} {me : RM} {ms : AM} (ht : ∀ j ∈ tl, j ∈ vs) (hk : ∀ j ∈ vs, E.kp[j]? ≠ some true) {σ : St} {H : Hp} {Q : VK} (h : tF c E (compM vs f mc me ms) σ H Q) :
    tLc (tIV c E ms) (tPG c E tl f) (tTs c E mc) (tR c E me) vs σ H Q := by
  obtain ⟨P, S, T, ρ, d, w, hm, q⟩ := h
  unfold compM at hm
  cases es : ms ρ with
  | none => rw [es] at hm; cases hm
  | some ds =>
    rw [es, Option.bind_some] at hm
    split at hm
    · rename_i hlim
      cases ec : compL f mc me (goneAt ρ vs) ds with
      | none => rw [ec] at hm; cases hm
      | some ys =>
        rw [ec] at hm
        cases hm
        refine ⟨P, S, T, ρ, ds, w, es, fun J H1 P1 g1 io => ?_⟩
        intro Dl hD
        obtain ⟨G, Y, wk, hG, hY⟩ := io
        have hP1 : P1 Dl = none := none_of g1.ph hD
        -- the invariant
        refine lc_it wk (fun i Hh => ∃ P2 zs acc, compL f mc me (goneAt ρ vs) (ds.take i) = some zs ∧ Gr P1 H1 P2 Hh ∧ P2 Dl = none ∧ Hh Dl = some (.lst acc) ∧ RepL c P2 Hh zs acc fz) ?_ ?_ ?_ ?_
        · exact ⟨P1, [], [], rfl, ⟨.refl _, ex_new hD, g1.ph.trans (ex_new hD), fun a z => .inl z⟩, hP1, upd_same, rfl, rfl⟩
        · rintro i Hh hi ⟨P2, zs, acc, h1, g2, _, _, _⟩
          exact hG P2 Hh g2
        · rintro i x Hh H3 hi ⟨P2, zs, acc, h1, g2, hD2, hDl, rl⟩ y
          obtain ⟨P3, d, g3, hd, rd⟩ := hY i P2 Hh x H3 g2 hi y
          obtain ⟨zs', ρ1, k, t1, t2, t3, t4, t5⟩ := compL_turn ec hd
          rw [h1] at t1
          cases t1
          obtain ⟨S3, w3⟩ := (((w.grow g1).grow g2).grow g3).wipe vs hk
          have w3' : Wd c E P3 S3 (fa T fz) (L2.wipe σ vs) H3 (goneAt ρ vs) := by rw [fa_fz]; exact w3
          have hD3 : P3 Dl = none := by
            cases z : P3 Dl with
            | none => rfl
            | some o =>
              rcases g3.new Dl (by rw [z]; simp) with q' | q'
              · exact absurd hD2 q'
              · rw [hDl] at q'; cases q'
          refine ⟨P3, S3, T, fz, _, d, ρ1, w3', rd, t2, fun σ' S' w4 l4 k4 => ⟨?_, P3, S', T, ρ1, k, w4, t3, fun H4 P4 g4 => ?_⟩⟩
          · rw [wipe_eq (vs := vs) l4 fun j hj => k4 j fun z => hj (ht j z)]
            exact wipe_wipe σ vs
          · have hD4 : P4 Dl = none := by
              cases z : P4 Dl with
              | none => rfl
              | some o =>
                rcases g4.new Dl (by rw [z]; simp) with q' | q'
                · exact absurd hD3 q'
                · rw [g3.h _ _ hDl] at q'; cases q'
            cases k with
            | true =>
              obtain ⟨y', e1, e2, e3⟩ := t4 rfl
              refine iteT ⟨P4, S', T, ρ1, y', w4.grow g4, e1, fun v H5 P5 U5 g5 r5 => ?_⟩
              have hU := Rep.frz0 y' v U5 e2 r5
              subst hU
              have hD5 : P5 Dl = none := by
                cases z : P5 Dl with
                | none => rfl
                | some o =>
                  rcases g5.new Dl (by rw [z]; simp) with q' | q'
                  · exact absurd hD4 q'
                  · rw [g4.h _ _ (g3.h _ _ hDl)] at q'; cases q'
              have gg := ((g2.trans g3).trans g4).trans g5
              have hDl5 : H5 Dl = some (.lst acc) := g5.h _ _ (g4.h _ _ (g3.h _ _ hDl))
              refine ⟨acc, hDl5, ?_, P5, zs ++ [y'], acc ++ [v], e3, ⟨gg.p, fun a o z => ?_, fun a o z => ?_, gg.new⟩, hD5, upd_same, ?_⟩
              · have h2 := compL_len h1
                have h3 := rl.length
                have : zs.length ≤ ds.length := Nat.le_trans h2 (by rw [List.length_take]; omega)
                have : (zs ++ [y']).length ≤ (ds.take (i + 1)).length := compL_len e3
                rw [List.length_append, List.length_take] at this
                have e4 : acc.length < LIM := by
                  simp only [List.length_cons, List.length_nil] at this
                  omega
                exact lim_lt e4
              · by_cases z2 : a = Dl
                · subst z2; rw [hD] at z; cases z
                · rw [upd_ne z2]; exact gg.h a o z
              · by_cases z2 : a = Dl
                · subst z2; rw [hD5] at z; cases z
                · rw [upd_ne z2]; exact g5.ph a o z
              · have r6 := RepL.append (repL_h (H' := upd H5 Dl (.lst (acc ++ [v]))) (((rl.gr g3).gr g4).gr g5)) (show RepL c P5 (upd H5 Dl (.lst (acc ++ [v]))) [y'] [v] fz from ⟨v, [], fz, fz, rfl, Rep.mono (.refl _) y' v fz (fun a o z _ => by simp [fz] at z) r5, ⟨rfl, rfl⟩, (fa_fz fz).symm⟩)
                rwa [fa_fz] at r6
            | false =>
              refine iteF ⟨P4, zs, acc, t5 rfl, (g2.trans g3).trans g4, hD4, g4.h _ _ (g3.h _ _ hDl), (rl.gr g3).gr g4⟩
        · rintro Hh ⟨P2, zs, acc, h1, g2, hD2, hDl, rl⟩
          rw [List.take_length, ec] at h1
          cases h1
          refine q _ Hh P2 (one Dl) (g1.trans g2) ⟨Dl, acc, fz, rfl, hDl, rl, (fa_fz _).symm⟩ one_le fun a z => ?_
          rw [one_pos z]
          refine ⟨?_, hD2⟩
          cases z : H Dl with
          | none => rfl
          | some o => rw [g1.h _ _ z] at hD; cases hD
    · cases hm
theorem f_lcV {elt tg iter : Expr} {ifs : List Expr} {scope : Scope} (own : List (Str × Nat)) {vs : List Nat} {tl : List Nat} {f : TgM} {mc : BM} {me : RM} {ms : AM} (hvs : own.map (·.2) = vs) (hc : X.calm = true) (hN : X.N.Nodup) (hi : PI X tg iter (tIV ⟨X.K, cl, X.w⟩ E ms)) (ok : BlkOk X.N X.env.scope scope own)
    (hg : ∀ (s : Shared) (H : Hp) (C : Addr) (c : List (Str × Addr)) (fp : List Addr), PG (X.blk s H scope (compEnvC scope c C X.env) fp) tg (tPG ⟨X.K, cl, X.w⟩ E tl f)) (ht : ∀ (s : Shared) (H : Hp) (C : Addr) (c : List (Str × Addr)) (fp : List Addr), PTs (X.blk s H scope (compEnvC scope c C X.env) fp) ifs (tTs ⟨X.K, cl, X.w⟩ E mc))
    (he : ∀ (s : Shared) (H : Hp) (C : Addr) (c : List (Str × Addr)) (fp : List Addr), PE (X.blk s H scope (compEnvC scope c C X.env) fp) elt (tR ⟨X.K, cl, X.w⟩ E me)) (h1 : ∀ j ∈ tl, j ∈ vs) (h2 : ∀ j ∈ vs, E.kp[j]? ≠ some true) (hs : ∀ x, foldedSetIterable iter X.env x = pure x := by intro _; rfl) :
    PE X (.ListComp elt [⟨tg, iter, ifs, 0⟩] scope pos) (tF ⟨X.K, cl, X.w⟩ E (compM vs f mc me ms)) := by
  subst hvs
  exact PE_imp (pe_lc hc hN hi ok hg ht he hs) fun _ _ _ h => lcV_run h1 h2 h
theorem s_setLcV (i : Nat) {y : Str} {py : Pos} {elt tg iter : Expr} {ifs : List Expr} {scope : Scope} (own : List (Str × Nat)) {spos : Pos} {vs : List Nat} {tl : List Nat} {f : TgM} {mc : BM} {me : RM} {ms : AM} (hvs : own.map (·.2) = vs) (hc : X.calm = true) (hN : X.N.Nodup) (hy : X.N[i]? = some y) (hyl : X.env.scope.names.lookup y = some .local) (hki : E.kp[i]? ≠ some true)
    (hi : PI X tg iter (tIV ⟨X.K, cl, X.w⟩ E ms)) (ok : BlkOk X.N X.env.scope scope own)
    (hg : ∀ (s : Shared) (H : Hp) (C : Addr) (c : List (Str × Addr)) (fp : List Addr), PG (X.blk s H scope (compEnvC scope c C X.env) fp) tg (tPG ⟨X.K, cl, X.w⟩ E tl f)) (ht : ∀ (s : Shared) (H : Hp) (C : Addr) (c : List (Str × Addr)) (fp : List Addr), PTs (X.blk s H scope (compEnvC scope c C X.env) fp) ifs (tTs ⟨X.K, cl, X.w⟩ E mc))
    (he : ∀ (s : Shared) (H : Hp) (C : Addr) (c : List (Str × Addr)) (fp : List Addr), PE (X.blk s H scope (compEnvC scope c C X.env) fp) elt (tR ⟨X.K, cl, X.w⟩ E me)) (h1 : ∀ j ∈ tl, j ∈ vs) (h2 : ∀ j ∈ vs, E.kp[j]? ≠ some true)
    (hsw : swapsWith (.ListComp elt [⟨tg, iter, ifs, 0⟩] scope pos) (some (.Name y py)) spos.line X.env = pure true) (hs : ∀ x, foldedSetIterable iter X.env x = pure x := by intro _; rfl) :
    PS X (.Assign [.Name y py] (.ListComp elt [⟨tg, iter, ifs, 0⟩] scope pos) spos) (tS ⟨X.K, cl, X.w⟩ E (asgM (nameT i) (upF (compM vs f mc me ms)))) := by
  subst hvs
  refine PS_imp (ps_setLc hc hN hy hyl hsw hi ok hg ht he hs) fun D σ H ⟨P, S, ρ, fl, ρ', w, hm, q⟩ => ?_
  unfold asgM upF at hm
  cases eg : compM (own.map (·.2)) f mc me ms ρ with
  | none => rw [eg] at hm; cases hm
  | some d =>
    rw [eg] at hm
    cases hm
    refine lcV_run (c := ⟨X.K, cl, X.w⟩) h1 h2 ⟨P, S, fz, ρ, d, w, eg, fun v H' P' U g r u1 u2 => ?_⟩
    obtain ⟨S2, w2⟩ := (w.aside g u1 u2 (Rep.there d v U r)).store r i hki
    exact q _ H' P' S2 w2 g.p
end
end LI

namespace LI
open PySem L2

theorem FQ.dK {c : LC} {P H : Hp} {Q : VK} {ks : List Key} {ds : List D} {xs : List V} (h : FQ c P H (.dK true ks ds) Q) (e : Ex P H) (n : ks.length = xs.length) (r : RepL c P H ds xs fz) : ∀ p, H p = none → Q (.ref p) (upd H p (.dK (ks.zip xs))) := fun p hp => by
  refine h _ _ P (one p) ⟨.refl _, ex_new hp, e.trans (ex_new hp), fun _ z => .inl z⟩ ⟨p, xs, fz, rfl, upd_same, n, RepL.mono (.refl _) ds xs fz (fun a o z _ => by simp [fz] at z) r, (fa_fz _).symm⟩ one_le fun a z => ?_
  rw [one_pos z]
  exact ⟨hp, none_of e hp⟩
theorem valV_zip_none {ks : List Key} {k : Key} : ∀ {xs : List V}, k ∉ ks → valV (ks.zip xs) k = none := by
  induction ks with
  | nil => intro xs _; rfl
  | cons k0 ks ih =>
    intro xs h
    cases xs with
    | nil => rfl
    | cons x xs =>
      simp only [List.mem_cons, not_or] at h
      have := ih (xs := xs) h.2
      unfold valV at this ⊢
      rw [List.zip_cons_cons, List.find?_cons_of_neg (by simpa using fun z => h.1 z.symm)]
      exact this
theorem mergeK_new : ∀ (ks : List Key) (xs : List V) (js : List Key) (ys : List V), ks.length = xs.length → js.length = ys.length → (ks ++ js).Nodup → mergeK (ks.zip xs) (js.zip ys) = (ks ++ js).zip (xs ++ ys)
  | ks, xs, [], ys, h1, h2, h3 => by
    have : ys = [] := List.length_eq_zero_iff.mp h2.symm
    subst this; simp [mergeK]
  | ks, xs, j :: js, [], h1, h2, h3 => by simp at h2
  | ks, xs, j :: js, y :: ys, h1, h2, h3 => by
    have hj : j ∉ ks := fun z => by
      have := (List.nodup_append.mp h3).2.2 j z j (by simp)
      exact this rfl
    show mergeK (putK (ks.zip xs) j y) (js.zip ys) = _
    rw [putK_new y (valV_zip_none hj)]
    have e : ks.zip xs ++ [(j, y)] = (ks ++ [j]).zip (xs ++ [y]) := by rw [List.zip_append h1]; rfl
    rw [e, mergeK_new (ks ++ [j]) (xs ++ [y]) js ys (by simp [h1]) (by simpa using h2) (by simpa using h3)]
    simp

structure PDs (X : Cx) (c : LC) (E : En) (pos : Pos) (keys : List (Option Expr)) (values : List Expr) (mk mv : AM) : Prop where
  ex : ∃ trs, PPs X pos keys values trs ∧ ∀ σ H (Q : List (V × V) → Hp → Prop) P S T ρ kds vds, Wd c E P S T σ H ρ → mk ρ = some kds → mv ρ = some vds →
    (∀ xs ys H' P' U1 U2, Gr P H P' H' → RepL c P' H' kds xs U1 → RepL c P' H' vds ys U2 → xs.length = ys.length → Q (xs.zip ys) H') → tPairs trs σ H Q
section
variable {X : Cx} {cl : Nat → Addr} {E : En} {pos : Pos}
theorem pd_nil : PDs X ⟨X.K, cl, X.w⟩ E pos [] [] nilM nilM := ⟨[], pps_nil, fun σ H Q P S T ρ kds vds w h1 h2 q => by
  cases h1; cases h2
  exact q [] [] H P fz fz (.refl w.ph) ⟨rfl, rfl⟩ ⟨rfl, rfl⟩ rfl⟩
theorem pd_cons {k v : Expr} {ks : List (Option Expr)} {vs : List Expr} {mk mv : RM} {mks mvs : AM} (hk : PE X k (tR ⟨X.K, cl, X.w⟩ E mk)) (hv : PE X v (tR ⟨X.K, cl, X.w⟩ E mv)) (hr : PDs X ⟨X.K, cl, X.w⟩ E pos ks vs mks mvs) :
    PDs X ⟨X.K, cl, X.w⟩ E pos (some k :: ks) (v :: vs) (consM mk mks) (consM mv mvs) := by
  obtain ⟨trs, p1, p2⟩ := hr.ex
  refine ⟨⟨_, pps_cons hk hv p1, fun σ H Q P S T ρ kds vds w h1 h2 q => ?_⟩⟩
  unfold consM at h1 h2
  cases ek : mk ρ with
  | none => rw [ek] at h1; cases h1
  | some d1 =>
    cases ev : mv ρ with
    | none => rw [ev] at h2; cases h2
    | some d2 =>
      cases eks : mks ρ with
      | none => rw [ek, eks] at h1; cases h1
      | some ds1 =>
        cases evs : mvs ρ with
        | none => rw [ev, evs] at h2; cases h2
        | some ds2 =>
          rw [ek, eks] at h1; rw [ev, evs] at h2
          cases h1; cases h2
          refine ⟨P, S, T, ρ, d1, w, ek, fun x H1 P1 U1 g1 r1 => ⟨P1, S, T, ρ, d2, w.grow g1, ev, fun y H2 P2 U2 g2 r2 => ?_⟩⟩
          refine p2 σ H2 _ P2 S T ρ ds1 ds2 ((w.grow g1).grow g2) eks evs fun xs ys H3 P3 U3 U4 g3 r3 r4 hl => ?_
          exact q (x :: xs) (y :: ys) H3 P3 (fa U1 U3) (fa U2 U4) ((g1.trans g2).trans g3) ⟨x, xs, U1, U3, rfl, (r1.gr g2).gr g3, r3, rfl⟩ ⟨y, ys, U2, U4, rfl, r2.gr g3, r4, rfl⟩ (by simp [hl])
def dispM (mk mv : AM) : RM := fun ρ => (mk ρ).bind fun kds => (mv ρ).bind fun vds => (keyDs kds).bind fun ks => if ks.Nodup ∧ frzL vds = true ∧ ks.length ≤ 15 ∧ ks.length = vds.length then some (.dK true ks vds) else none
theorem f_dnew : PE X (.Dict [] [] pos) (tF ⟨X.K, cl, X.w⟩ E (dispM nilM nilM)) := PE_imp pe_dnewK fun σ H Q ⟨P, S, T, ρ, d, w, hm, q⟩ => by
  cases hm
  exact fun p hp => q.dK (ks := []) (ds := []) (xs := []) w.ph rfl ⟨rfl, rfl⟩ p hp
theorem f_disp {keys : List (Option Expr)} {values : List Expr} {mk mv : AM} (h : PDs X ⟨X.K, cl, X.w⟩ E pos keys values mk mv) (hall : keys.all (·.isSome) = true) (hl : keys.length = values.length) (h0 : keys ≠ []) (h15 : keys.length ≤ 15) :
    PE X (.Dict keys values pos) (tF ⟨X.K, cl, X.w⟩ E (dispM mk mv)) := by
  obtain ⟨trs, p1, p2⟩ := h.ex
  refine PE_imp (pe_disp p1 hall hl h0 h15) fun σ H Q ⟨P, S, T, ρ, d, w, hm, q⟩ => ?_
  unfold dispM at hm
  cases ek : mk ρ with
  | none => rw [ek] at hm; cases hm
  | some kds =>
    cases ev : mv ρ with
    | none => rw [ek, Option.bind_some, ev] at hm; cases hm
    | some vds =>
      rw [ek, Option.bind_some, ev, Option.bind_some] at hm
      cases eks : keyDs kds with
      | none => rw [eks] at hm; cases hm
      | some ks =>
        rw [eks, Option.bind_some] at hm
        split at hm
        · rename_i hc
          obtain ⟨c1, c2, c3, c4⟩ := hc
          cases hm
          intro p hp
          have hP := none_of w.ph hp
          have g1 : Gr P H P (upd H p (.dK [])) := ⟨.refl _, ex_new hp, w.ph.trans (ex_new hp), fun a z => .inl z⟩
          refine p2 σ _ _ P S T ρ kds vds (w.grow g1) ek ev fun xs ys H2 P2 U1 U2 g2 r1 r2 hlen => ?_
          have hp2 : H2 p = some (.dK []) := g2.h p _ upd_same
          have hP2 : P2 p = none := by
            cases z : P2 p with
            | none => rfl
            | some o =>
              rcases g2.new p (by rw [z]; simp) with y | y
              · exact absurd hP y
              · rw [upd_same] at y; cases y
          have hx := keyDs_v eks r1
          have hz := RepL.frz0 vds ys U2 c2 r2
          subst hz
          refine ⟨hp2, ks.zip ys, ?_, ?_, ?_⟩
          · rw [hx, List.zip_map_left]; rfl
          · rw [List.length_zip]; omega
          · have hn : ks.length = ys.length := by rw [← hlen, hx, List.length_map]
            have em : mergeK [] (ks.zip ys) = ks.zip ys := by
              have := mergeK_new [] [] ks ys rfl hn (by simpa using c1)
              simpa using this
            rw [em]
            refine q _ _ P2 (one p) ⟨g2.p, fun a o z => ?_, fun a o z => ?_, fun a z => ?_⟩ ⟨p, ys, fz, rfl, upd_same, hn, repL_h r2, (fa_fz _).symm⟩ one_le fun a z => ?_
            · have : a ≠ p := ne_of_none z hp
              rw [upd_ne this]
              exact g2.h a o (by rw [upd_ne this]; exact z)
            · have : a ≠ p := fun y => by subst y; rw [hP2] at z; cases z
              rw [upd_ne this]
              exact g2.ph a o z
            · have : a ≠ p := fun y => by subst y; exact z hP2
              rcases g2.new a z with y | y
              · exact .inl y
              · rw [upd_ne this] at y; exact .inr y
            · rw [one_pos z]; exact ⟨hp, hP2⟩
        · cases hm
end
end LI

namespace LI
open PySem PySem.Spec PyProof.Rows L2

def enumSM (m : RM) : AM := fun ρ => (m ρ).bind fun d => match d with
  | .str s => some (enumFrom 0 (strsD s))
  | d => (lstD d).map (enumFrom 0)
section
variable {X : Cx} {cl : Nat → Addr} {E : En} {e a b tg : Expr} {pos : Pos} {m : RM}
end
end LI

namespace LI
open PySem PySem.Spec PyProof.Rows L2

def kdGet : List (List Nat × List Nat) → List Nat → Option (List Nat)
  | [], _ => none
  | kv :: kvs, z => if kv.1 = z then some kv.2 else kdGet kvs z
def inK (kvs : List (List Nat × List Nat)) : D → Option D
  | .str z => some (.bl (kdGet kvs z).isSome)
  | _ => none
def ninK (kvs : List (List Nat × List Nat)) : D → Option D
  | .str z => some (.bl (!(kdGet kvs z).isSome))
  | _ => none
def ixK (kvs : List (List Nat × List Nat)) : D → Option D
  | .str z => (kdGet kvs z).map .str
  | _ => none
section
variable {X : Cx} {cl : Nat → Addr} {E : En} {e a b : Expr} {pos p : Pos} {m : RM} {x : Str} {kvs : List (List Nat × List Nat)}
end
end LI

namespace LI
open PySem L2
def binVG (f : D → D → Option D) (i : Nat) (g : GM) : GM := fun ρ => (vM i ρ).bind fun _ => (g ρ).bind fun r => (vM i r.2).bind fun x => (f x r.1).map fun d => (d, r.2)
section
variable {X : Cx} {cl : Nat → Addr} {E : En} {a b : Expr} {pos p : Pos} {g : GM} {r : R2} {f : D → D → Option D}
end
end LI

namespace LI
open PySem L2

def rng1D : D → Option (List D) := fun d => match d with | .int j => if -(2 ^ 62) ≤ j ∧ j < 2 ^ 62 then some (upD 0 j.toNat) else none | _ => none
def rng2D : D → D → Option (List D) := fun x y => match x, y with | .int i, .int j => if -(2 ^ 62) ≤ i ∧ i < 2 ^ 62 ∧ -(2 ^ 62) ≤ j ∧ j < 2 ^ 62 then some (upD i (j - i).toNat) else none | _, _ => none
section
variable {ρ : List D} {i n : Nat} {d : D} {m ma mb mc : RM} {ms : AM} {f : D → D → Option D} {g : D → Option D} {F : FM}
@[simp] theorem ev_v : vM i ρ = (ρ[i]?).bind fun d => if notGone d = true then some d else none := (rfl)
@[simp] theorem ev_k : kM d ρ = some d := (rfl)
@[simp] theorem ev_m2 : m2 f ma mb ρ = (ma ρ).bind fun x => (mb ρ).bind fun y => f x y := (rfl)
@[simp] theorem ev_m1 : m1 g ma ρ = (ma ρ).bind g := (rfl)
@[simp] theorem ev_nil : nilM ρ = some [] := (rfl)
@[simp] theorem ev_cons : consM m ms ρ = (m ρ).bind fun d => (ms ρ).map fun ds => d :: ds := (rfl)
@[simp] theorem ev_tup : tupM ms ρ = (ms ρ).bind fun ds => if frzL ds = true ∧ ds.length ≤ LIM then some (.tup ds) else none := (rfl)
@[simp] theorem ev_lst : lstM ms ρ = (ms ρ).bind fun ds => if frzL ds = true ∧ ds.length ≤ LIM then some (.lst true ds) else none := (rfl)
@[simp] theorem ev_call : callM F ms ρ = (ms ρ).bind fun ds => (F (iceL ds)).bind fun r => if frzL ds = true ∨ noIce r.1 = true then some r.1 else none := (rfl)
@[simp] theorem ev_callV : callVM F ms ρ = (ms ρ).bind fun ds => (F (iceL ds)).map (·.1) := (rfl)
@[simp] theorem ev_upF : upF m ρ = (m ρ).map fun d => (d, ρ) := (rfl)
@[simp] theorem ev_upR : upR m ρ = (m ρ).bind fun d => if frz d = true then some (d, ρ) else none := (rfl)
@[simp] theorem ev_cold : coldM m ρ = (m ρ).map ice := (rfl)
@[simp] theorem ev_fr : frM m ρ = (m ρ).bind fun d => if frz d = true then some d else none := (rfl)
@[simp] theorem ev_tru : truM m ρ = (m ρ).bind truD := (rfl)
@[simp] theorem ev_bM : bM m ρ = (m ρ).bind fun d => match d with | .bl b => some b | _ => none := (rfl)
@[simp] theorem ev_notB {b : BM} : notB b ρ = (b ρ).map not := (rfl)
@[simp] theorem ev_andB {a b : BM} : andB a b ρ = (a ρ).bind fun k => if k = true then b ρ else some false := (rfl)
@[simp] theorem ev_orB {a b : BM} : orB a b ρ = (a ρ).bind fun k => if k = true then some true else b ρ := (rfl)
@[simp] theorem ev_notD : notD m ρ = ((m ρ).bind truD).map fun k => .bl (!k) := (rfl)
@[simp] theorem ev_andM : andM ma mb ρ = (bM ma ρ).bind fun k => if k = true then mb ρ else some (.bl false) := (rfl)
@[simp] theorem ev_orM : orM ma mb ρ = (bM ma ρ).bind fun k => if k = true then some (.bl true) else mb ρ := (rfl)
@[simp] theorem ev_iteM {b : BM} : iteM b ma mb ρ = (b ρ).bind fun k => if k = true then ma ρ else mb ρ := (rfl)
@[simp] theorem ev_ch {f g : D → D → Option D} : chM f g ma mb mc ρ = (ma ρ).bind fun x => (mb ρ).bind fun y => (f x y).bind fun z => match z with | .bl true => (mc ρ).bind fun u => g y u | .bl false => some (.bl false) | _ => none := (rfl)
@[simp] theorem ev_mA {f : List D → Option D} : mA f ms ρ = (ms ρ).bind f := (rfl)
@[simp] theorem ev_isi {ty : String} : isiM ty m ρ = (m ρ).bind fun d => (tyD d).bind fun t => (kitB t ty).map .bl := (rfl)
@[simp] theorem ev_noM : noM ρ = some none := (rfl)
@[simp] theorem ev_soM : soM m ρ = (m ρ).bind fun d => match d with | .int i => some (some i) | _ => none := (rfl)
@[simp] theorem ev_slM {lo hi : OM} : slM m lo hi ρ = (m ρ).bind fun d => (lo ρ).bind fun l => (hi ρ).bind fun h => slD l h d := (rfl)
@[simp] theorem ev_it : itM m ρ = (m ρ).bind itemsD := (rfl)
@[simp] theorem ev_itV : itV m ρ = (m ρ).bind itemsV := (rfl)
@[simp] theorem ev_disp {mk mv : AM} : dispM mk mv ρ = (mk ρ).bind fun kds => (mv ρ).bind fun vds => (keyDs kds).bind fun ks => if ks.Nodup ∧ frzL vds = true ∧ ks.length ≤ 15 ∧ ks.length = vds.length then some (.dK true ks vds) else none := (rfl)
@[simp] theorem keyDs_nil : keyDs [] = some [] := (rfl)
@[simp] theorem keyDs_cons {d : D} {ds : List D} : keyDs (d :: ds) = (keyD d).bind fun k => (keyDs ds).map fun ks => k :: ks := (rfl)
@[simp] theorem keyD_int {i : Int} : keyD (.int i) = some (.inl i) := (rfl)
@[simp] theorem keyD_str {s : List Nat} : keyD (.str s) = some (.inr ⟨s.toArray⟩) := (rfl)
@[simp] theorem ev_enumS : enumSM m ρ = (m ρ).bind fun d => match d with | .str s => some (enumFrom 0 (strsD s)) | d => (lstD d).map (enumFrom 0) := (rfl)
@[simp] theorem ev_binV {g : GM} : binVG f i g ρ = (vM i ρ).bind fun _ => (g ρ).bind fun r => (vM i r.2).bind fun x => (f x r.1).map fun d => (d, r.2) := (rfl)
@[simp] theorem ev_rng1 : rng1M m ρ = (m ρ).bind rng1D := (rfl)
@[simp] theorem ev_rng2 : rng2M ma mb ρ = (ma ρ).bind fun x => (mb ρ).bind fun y => rng2D x y := (rfl)
@[simp] theorem ev_enum : enumM m ρ = (m ρ).bind fun d => (lstD d).map (enumFrom 0) := (rfl)
@[simp] theorem ev_zip : zipM ma mb ρ = (ma ρ).bind fun d1 => (mb ρ).bind fun d2 => (lstD d1).bind fun a => (lstD d2).map fun b => zipD a b := (rfl)
@[simp] theorem ev_rev : revM m ρ = (m ρ).bind fun d => (lstD d).map List.reverse := (rfl)
@[simp] theorem ev_comp {vs : List Nat} {f : TgM} {mc : BM} : compM vs f mc m ms ρ = (ms ρ).bind fun ds => if ds.length ≤ LIM then (compL f mc m (goneAt ρ vs) ds).map (.lst true) else none := (rfl)
@[simp] theorem ev_yes : yesB ρ = some true := (rfl)
@[simp] theorem ev_name : nameT i d ρ = some (ρ.set i d) := (rfl)
@[simp] theorem ev_tupT {f : List D → List D → Option (List D)} {ds : List D} : tupT f (.tup ds) ρ = f ds ρ := (rfl)
@[simp] theorem ev_consT {f : TgM} {g : List D → List D → Option (List D)} {ds : List D} : consT f g (d :: ds) ρ = (f d ρ).bind fun ρ => g ds ρ := (rfl)
@[simp] theorem ev_nilT : nilT [] ρ = some ρ := (rfl)
@[simp] theorem ev_gone0 : goneAt ρ [] = ρ := (rfl)
@[simp] theorem ev_gone1 {v : Nat} {vs : List Nat} : goneAt ρ (v :: vs) = (goneAt ρ vs).set v .gone := (rfl)
@[simp] theorem ev_vLget : (vL i).get ρ = (ρ[i]?).bind fun d => if notGone d = true then some d else none := (rfl)
@[simp] theorem ev_vLput : (vL i).put ρ d = ρ.set i d := (rfl)
@[simp] theorem ev_mv {L : Lens} : mvM L ρ = (L.get ρ).bind fun d => some (d, L.put ρ .gone) := (rfl)
@[simp] theorem ev_app {L : Lens} : appL L m ρ = (L.get ρ).bind fun d => (m ρ).bind fun y => match d with | .lst true ds => if ds.length < LIM then some (.non, L.put ρ (.lst true (ds ++ [y]))) else none | _ => none := (rfl)
@[simp] theorem ev_iceAt : iceAt i ρ = match ρ[i]? with | some d => ρ.set i (ice d) | none => ρ := (rfl)
@[simp] theorem ev_spNx {ρ' : List D} : maskL [] ρ' = [] := (rfl)
@[simp] theorem ev_mask {b : Bool} {bs : List Bool} {ds : List D} : maskL (b :: bs) (d :: ds) = (if b = true then d else .gone) :: maskL bs ds := (rfl)
@[simp] theorem ev_mask0 {b : Bool} {bs : List Bool} : maskL (b :: bs) [] = .gone :: maskL bs [] := (rfl)
end
@[simp] theorem ng_non : notGone .non = true := (rfl)
@[simp] theorem ng_gone : notGone .gone = false := (rfl)
@[simp] theorem ng_bl {b} : notGone (.bl b) = true := (rfl)
@[simp] theorem ng_int {b} : notGone (.int b) = true := (rfl)
@[simp] theorem ng_str {b} : notGone (.str b) = true := (rfl)
@[simp] theorem ng_scr {b} : notGone (.scr b) = true := (rfl)
@[simp] theorem ng_kst {b} : notGone (.kst b) = true := (rfl)
@[simp] theorem ng_tup {b} : notGone (.tup b) = true := (rfl)
@[simp] theorem ng_lst {o b} : notGone (.lst o b) = true := (rfl)
@[simp] theorem ng_dK {o k b} : notGone (.dK o k b) = true := (rfl)
@[simp] theorem ng_dT {o k b} : notGone (.dT o k b) = true := (rfl)
@[simp] theorem ng_dN {o k b} : notGone (.dN o k b) = true := (rfl)
@[simp] theorem ng_obj {o k f b} : notGone (.obj o k f b) = true := (rfl)
@[simp] theorem fl_non : isFlat .non = true := (rfl)
@[simp] theorem fl_bl {b} : isFlat (.bl b) = true := (rfl)
@[simp] theorem fl_int {b} : isFlat (.int b) = true := (rfl)
@[simp] theorem fl_str {b} : isFlat (.str b) = true := (rfl)

@[simp] theorem inK_str {kvs z} : inK kvs (.str z) = some (.bl (kdGet kvs z).isSome) := (rfl)
@[simp] theorem ninK_str {kvs z} : ninK kvs (.str z) = some (.bl (!(kdGet kvs z).isSome)) := (rfl)
@[simp] theorem ixK_str {kvs z} : ixK kvs (.str z) = (kdGet kvs z).map D.str := (rfl)
@[simp] theorem fz_gone : frz .gone = true := (rfl)
@[simp] theorem fz_non : frz .non = true := (rfl)
@[simp] theorem fz_bl {b} : frz (.bl b) = true := (rfl)
@[simp] theorem fz_int {b} : frz (.int b) = true := (rfl)
@[simp] theorem fz_str {b} : frz (.str b) = true := (rfl)
@[simp] theorem fz_scr {b} : frz (.scr b) = true := (rfl)
@[simp] theorem fz_kst {b} : frz (.kst b) = true := (rfl)
@[simp] theorem fz_tup {b} : frz (.tup b) = frzL b := (rfl)
@[simp] theorem fz_lst {o b} : frz (.lst o b) = (!o && frzL b) := (rfl)
@[simp] theorem fz_dK {o k b} : frz (.dK o k b) = (!o && frzL b) := (rfl)
@[simp] theorem fz_dT {o k b} : frz (.dT o k b) = (!o && frzL b) := (rfl)
@[simp] theorem fz_dN {o k b} : frz (.dN o k b) = (!o && frzL b) := (rfl)
@[simp] theorem fz_obj {o k f b} : frz (.obj o k f b) = (!o && frzL b) := (rfl)
@[simp] theorem fzL_nil : frzL [] = true := (rfl)
@[simp] theorem fzL_cons {d ds} : frzL (d :: ds) = (frz d && frzL ds) := (rfl)
@[simp] theorem frzL_map {α : Type} {f : α → D} {xs : List α} : frzL (xs.map f) = true ↔ ∀ x ∈ xs, frz (f x) = true := by simp [frzL_iff]
@[simp] theorem frzL_app {a b : List D} : frzL (a ++ b) = (frzL a && frzL b) := by
  rw [Bool.eq_iff_iff]; simp only [frzL_iff, List.mem_append, Bool.and_eq_true]
  exact ⟨fun h => ⟨fun d q => h d (.inl q), fun d q => h d (.inr q)⟩, fun h d q => q.elim (h.1 d) (h.2 d)⟩
@[simp] theorem ice_gone : ice .gone = .gone := (rfl)
@[simp] theorem ice_non : ice .non = .non := (rfl)
@[simp] theorem ice_bl {b} : ice (.bl b) = .bl b := (rfl)
@[simp] theorem ice_int {b} : ice (.int b) = .int b := (rfl)
@[simp] theorem ice_str {b} : ice (.str b) = .str b := (rfl)
@[simp] theorem ice_scr {b} : ice (.scr b) = .scr b := (rfl)
@[simp] theorem ice_kst {b} : ice (.kst b) = .kst b := (rfl)
@[simp] theorem ice_tup {b} : ice (.tup b) = .tup (iceL b) := (rfl)
@[simp] theorem ice_lst {o b} : ice (.lst o b) = .lst false (iceL b) := (rfl)
@[simp] theorem ice_dK {o k b} : ice (.dK o k b) = .dK false k (iceL b) := (rfl)
@[simp] theorem ice_dT {o k b} : ice (.dT o k b) = .dT false k (iceL b) := (rfl)
@[simp] theorem ice_dN {o k b} : ice (.dN o k b) = .dN false k (iceL b) := (rfl)
@[simp] theorem ice_obj {o k f b} : ice (.obj o k f b) = .obj false k f (iceL b) := (rfl)
@[simp] theorem iceL_nil : iceL [] = [] := (rfl)
@[simp] theorem iceL_cons {d ds} : iceL (d :: ds) = ice d :: iceL ds := (rfl)
theorem iceL_eq : ∀ {ds : List D}, iceL ds = ds.map ice
  | [] => rfl
  | d :: ds => by simp [iceL_eq (ds := ds)]
mutual
theorem ice_frz : ∀ d : D, frz d = true → ice d = d
  | .gone, _ | .non, _ | .bl _, _ | .int _, _ | .str _, _ | .scr _, _ | .kst _, _ | .key _, _ => rfl
  | .tup ds, h => by rw [ice_tup, iceL_frz ds h]
  | .lst true ds, h => by simp at h
  | .lst false ds, h => by rw [ice_lst, iceL_frz ds (by simpa using h)]
  | .dK true k ds, h => by simp at h
  | .dK false k ds, h => by rw [ice_dK, iceL_frz ds (by simpa using h)]
  | .dT true k ds, h => by simp at h
  | .dT false k ds, h => by rw [ice_dT, iceL_frz ds (by simpa using h)]
  | .dN true k ds, h => by simp at h
  | .dN false k ds, h => by rw [ice_dN, iceL_frz ds (by simpa using h)]
  | .obj true k f ds, h => by simp at h
  | .obj false k f ds, h => by rw [ice_obj, iceL_frz ds (by simpa using h)]
theorem iceL_frz : ∀ ds : List D, frzL ds = true → iceL ds = ds
  | [], _ => rfl
  | d :: ds, h => by
    simp at h
    rw [iceL_cons, ice_frz d h.1, iceL_frz ds h.2]
end
@[simp] theorem iceL_map {α : Type} {f : α → D} {xs : List α} : iceL (xs.map f) = xs.map fun x => ice (f x) := by rw [iceL_eq, List.map_map]; rfl
@[simp] theorem iceL_app {a b : List D} : iceL (a ++ b) = iceL a ++ iceL b := by simp [iceL_eq]
mutual
theorem toP_ice : ∀ d : D, toP (ice d) = toP d
  | .gone | .non | .bl _ | .int _ | .str _ | .scr _ | .kst _ | .key _ => rfl
  | .tup ds => by simp only [ice_tup, toP, toPL_iceL ds]
  | .lst _ ds => by simp only [ice_lst, toP, toPL_iceL ds]
  | .dK _ k ds => rfl
  | .dT _ k ds => rfl
  | .dN _ k ds => rfl
  | .obj _ k f ds => rfl
theorem toPL_iceL : ∀ ds : List D, toPL (iceL ds) = toPL ds
  | [] => rfl
  | d :: ds => by simp only [iceL_cons, toPL, toP_ice d, toPL_iceL ds]
end
def good (n : Nat) (d : D) : Bool := match toP d with
  | some p => p.canLay0 && decide (p.depth ≤ n)
  | none => false
@[simp] theorem good_non {n} : good n .non = true := by simp [good, toP, PyData.canLay0, PyData.depth]
@[simp] theorem good_bl {n b} : good n (.bl b) = true := by simp [good, toP, PyData.canLay0, PyData.depth]
@[simp] theorem good_int {n b} : good n (.int b) = true := by simp [good, toP, PyData.canLay0, PyData.depth]
@[simp] theorem eqB_int {a b : Int} : eqB (.int a) (.int b) = some (a == b) := by simp [eqB, toP, SeqAt.shaped, PyData.canLay0, PyData.depth, PyData.eqv]
@[simp] theorem eqD_int {a b : Int} : eqD (.int a) (.int b) = some (.bl (a == b)) := by simp [eqD]
@[simp] theorem neD_int {a b : Int} : neD (.int a) (.int b) = some (.bl (a != b)) := by simp [neD, bne]
@[simp] theorem good_str {n : Nat} {b : List Nat} : good n (.str b) = b.all (fun k => decide (k < 0x110000)) := by
  simp [good, toP, PyData.canLay0, PyData.depth, PyData.strOk]
@[simp] theorem add_int {a b : Int} : addD (.int a) (.int b) = some (.int (a + b)) := (rfl)
@[simp] theorem sub_int {a b : Int} : subD (.int a) (.int b) = some (.int (a - b)) := (rfl)
@[simp] theorem add_str {a b : List Nat} : addD (.str a) (.str b) = if a.length + b.length ≤ LIM then some (.str (a ++ b)) else none := (rfl)
@[simp] theorem add_lst {o p : Bool} {a b : List D} : addD (.lst o a) (.lst p b) = if (frzL a && frzL b) = true ∧ a.length + b.length ≤ LIM then some (.lst true (a ++ b)) else none := (rfl)
@[simp] theorem add_tup {a b : List D} : addD (.tup a) (.tup b) = if (frzL a && frzL b) = true ∧ a.length + b.length ≤ LIM then some (.tup (a ++ b)) else none := (rfl)
@[simp] theorem mul_int {a b : Int} : mulD (.int a) (.int b) = if (-(2 ^ 64) < a ∧ a < 2 ^ 64) ∨ (-(2 ^ 64) < b ∧ b < 2 ^ 64) then some (.int (a * b)) else none := (rfl)
@[simp] theorem mul_lst {o : Bool} {a : List D} {k : Int} : mulD (.lst o a) (.int k) = if frzL a = true ∧ k ≤ 1000000 ∧ -1000000 ≤ k ∧ a.length * k.toNat ≤ LIM then some (.lst true (List.replicate k.toNat a).flatten) else none := (rfl)
@[simp] theorem mul_str {a : List Nat} {k : Int} : mulD (.str a) (.int k) = if k ≤ 1000000 ∧ -1000000 ≤ k ∧ a.length * k.toNat ≤ LIM then some (.str (List.replicate k.toNat a).flatten) else none := (rfl)
@[simp] theorem fdiv_int {a b : Int} : fdivD (.int a) (.int b) = if 0 < b ∧ b.natAbs.log2 < 9000 then some (.int (a / b)) else none := (rfl)
@[simp] theorem mod_int {a b : Int} : modD (.int a) (.int b) = if 0 < b then some (.int (a % b)) else none := (rfl)
@[simp] theorem pow_int {a b : Int} : powD (.int a) (.int b) = if 0 ≤ b ∧ b ≤ 1000000 ∧ a.natAbs < 2 ^ 64 then some (.int (a ^ b.toNat)) else none := (rfl)
@[simp] theorem neg_int {a : Int} : negD (.int a) = some (.int (-a)) := (rfl)
@[simp] theorem lt_int {a b : Int} : ltD (.int a) (.int b) = some (.bl (decide (a < b))) := (rfl)
@[simp] theorem le_int {a b : Int} : leD (.int a) (.int b) = some (.bl (decide (a ≤ b))) := (rfl)
@[simp] theorem gt_int {a b : Int} : gtD (.int a) (.int b) = some (.bl (decide (b < a))) := (rfl)
@[simp] theorem ge_int {a b : Int} : geD (.int a) (.int b) = some (.bl (decide (b ≤ a))) := (rfl)
@[simp] theorem lt_str {a b : List Nat} : ltD (.str a) (.str b) = some (.bl (decide (a < b))) := (rfl)
@[simp] theorem le_str {a b : List Nat} : leD (.str a) (.str b) = some (.bl (!decide (b < a))) := (rfl)
@[simp] theorem ix_lst {o : Bool} {ds : List D} {i : Int} : ixD (.lst o ds) (.int i) = atI ds i := (rfl)
@[simp] theorem ix_tup {ds : List D} {i : Int} : ixD (.tup ds) (.int i) = atI ds i := (rfl)
@[simp] theorem ix_scr {ds : List Int} {i : Int} : ixD (.scr ds) (.int i) = (atI ds i).map .int := (rfl)
@[simp] theorem ix_str {s : List Nat} {i : Int} : ixD (.str s) (.int i) = if s.length ≤ LIM then (atI s i).map fun k => .str [k] else none := (rfl)
theorem atI_at {α : Type} {xs : List α} {i : Int} (h : 0 ≤ i) (hl : i.toNat < xs.length) : atI xs i = some (xs[i.toNat]) := by
  unfold atI ixN
  have h1 : ¬ i < 0 := by omega
  have h2 : i < xs.length := by omega
  simp [h1, h, h2, hl]
@[simp] theorem atI_0 {α : Type} {x : α} {xs : List α} : atI (x :: xs) 0 = some x := by rw [atI_at (by omega) (by simp)]; rfl
@[simp] theorem atI_1 {α : Type} {x y : α} {xs : List α} : atI (x :: y :: xs) 1 = some y := by rw [atI_at (by omega) (by simp)]; rfl
@[simp] theorem atI_2 {α : Type} {x y z : α} {xs : List α} : atI (x :: y :: z :: xs) 2 = some z := by rw [atI_at (by omega) (by simp)]; rfl
@[simp] theorem atI_3 {α : Type} {x y z u : α} {xs : List α} : atI (x :: y :: z :: u :: xs) 3 = some u := by rw [atI_at (by omega) (by simp)]; rfl
@[simp] theorem atI_4 {α : Type} {x y z u v : α} {xs : List α} : atI (x :: y :: z :: u :: v :: xs) 4 = some v := by rw [atI_at (by omega) (by simp)]; rfl
@[simp] theorem len_tup {ds : List D} : lenD [.tup ds] = some (.int ds.length) := (rfl)
@[simp] theorem len_lst {o : Bool} {ds : List D} : lenD [.lst o ds] = some (.int ds.length) := (rfl)
@[simp] theorem len_scr {ds : List Int} : lenD [.scr ds] = some (.int ds.length) := (rfl)
@[simp] theorem len_dK {o k ds} : lenD [.dK o k ds] = some (.int k.length) := (rfl)
@[simp] theorem len_str {s : List Nat} : lenD [.str s] = if s.length ≤ LIM then some (.int s.length) else none := (rfl)
@[simp] theorem max2_int {i j : Int} : max2D [.int i, .int j] = some (.int (if j > i then j else i)) := (rfl)
@[simp] theorem min2_int {i j : Int} : min2D [.int i, .int j] = some (.int (if j < i then j else i)) := (rfl)
@[simp] theorem intD_int {i : Int} : intD [.int i] = some (.int i) := (rfl)
@[simp] theorem intD_bl {b : Bool} : intD [.bl b] = some (.int (if b then 1 else 0)) := (rfl)
@[simp] theorem sum_lst {o : Bool} {ds : List D} : sumD [.lst o ds] = (intsD ds).map fun is => .int is.sum := (rfl)
@[simp] theorem ints_nil : intsD [] = some [] := (rfl)
@[simp] theorem ints_cons {i : Int} {ds : List D} : intsD (.int i :: ds) = (intsD ds).map fun is => i :: is := (rfl)
@[simp] theorem ints_map {α : Type} {f : α → Int} : ∀ {xs : List α}, intsD (xs.map fun x => .int (f x)) = some (xs.map f)
  | [] => rfl
  | x :: xs => by simp [ints_map (xs := xs)]
@[simp] theorem list_lst {o : Bool} {ds : List D} : listD [.lst o ds] = if frzL ds = true then some (.lst true ds) else none := (rfl)
@[simp] theorem list_tup {ds : List D} : listD [.tup ds] = if frzL ds = true then some (.lst true ds) else none := (rfl)
@[simp] theorem list_scr {ns : List Int} : listD [.scr ns] = some (.lst true (ns.map .int)) := (rfl)
@[simp] theorem tru_bl {b : Bool} : truD (.bl b) = some b := (rfl)
@[simp] theorem tru_non : truD .non = some false := (rfl)
@[simp] theorem tru_int {i : Int} : truD (.int i) = some (i != 0) := (rfl)
@[simp] theorem tru_str {s : List Nat} : truD (.str s) = if s.length ≤ LIM then some (!s.isEmpty) else none := (rfl)
@[simp] theorem tru_tup {s : List D} : truD (.tup s) = some (!s.isEmpty) := (rfl)
@[simp] theorem tru_lst {o : Bool} {s : List D} : truD (.lst o s) = some (!s.isEmpty) := (rfl)
@[simp] theorem tru_scr {s : List Int} : truD (.scr s) = some (!s.isEmpty) := (rfl)
@[simp] theorem ty_non : tyD .non = some "NoneType" := (rfl)
@[simp] theorem ty_bl {b} : tyD (.bl b) = some "bool" := (rfl)
@[simp] theorem ty_int {b} : tyD (.int b) = some "int" := (rfl)
@[simp] theorem ty_str {b} : tyD (.str b) = some "str" := (rfl)
@[simp] theorem ty_scr {b} : tyD (.scr b) = some "list" := (rfl)
@[simp] theorem ty_lst {o b} : tyD (.lst o b) = some "list" := (rfl)
@[simp] theorem ty_tup {b} : tyD (.tup b) = some "tuple" := (rfl)
@[simp] theorem ty_dK {o k b} : tyD (.dK o k b) = some "dict" := (rfl)
@[simp] theorem ty_dT {o k b} : tyD (.dT o k b) = some "dict" := (rfl)
@[simp] theorem in_1 {k : Nat} {z : List Nat} : inB (.str [k]) (.str z) = some (decide (k ∈ z)) := (rfl)
@[simp] theorem inD_eq {x y : D} : inD x y = (inB x y).map .bl := (rfl)
@[simp] theorem ninD_eq {x y : D} : ninD x y = (inB x y).map fun k => .bl (!k) := (rfl)
@[simp] theorem itemsV_lst {o : Bool} {ds : List D} : itemsV (.lst o ds) = if frzL ds = true then some ds else none := (rfl)
@[simp] theorem itemsV_tup {ds : List D} : itemsV (.tup ds) = if frzL ds = true then some ds else none := (rfl)
@[simp] theorem itemsV_scr {ds : List Int} : itemsV (.scr ds) = some (ds.map .int) := (rfl)
@[simp] theorem itemsV_str {s : List Nat} : itemsV (.str s) = some (s.map fun k => .str [k]) := (rfl)
@[simp] theorem items_lst {ds : List D} : itemsD (.lst false ds) = if frzL ds = true then some ds else none := (rfl)
@[simp] theorem items_tup {ds : List D} : itemsD (.tup ds) = if frzL ds = true then some ds else none := (rfl)
@[simp] theorem items_scr {ds : List Int} : itemsD (.scr ds) = some (ds.map .int) := (rfl)
@[simp] theorem items_str {s : List Nat} : itemsD (.str s) = some (s.map fun k => .str [k]) := (rfl)
@[simp] theorem lstD_lst {ds : List D} : lstD (.lst false ds) = if frzL ds = true then some ds else none := (rfl)
@[simp] theorem lstD_scr {ds : List Int} : lstD (.scr ds) = some (ds.map .int) := (rfl)
@[simp] theorem sl_lst {o : Bool} {lo hi : Option Int} {ds : List D} : slD lo hi (.lst o ds) = if frzL ds = true then some (.lst true (cutL ds lo hi)) else none := (rfl)
@[simp] theorem sl_tup {lo hi : Option Int} {ds : List D} : slD lo hi (.tup ds) = if frzL ds = true then some (.tup (cutL ds lo hi)) else none := (rfl)
@[simp] theorem sl_scr {lo hi : Option Int} {ds : List Int} : slD lo hi (.scr ds) = some (.lst true ((cutL ds lo hi).map .int)) := (rfl)
@[simp] theorem sl_str {lo hi : Option Int} {ds : List Nat} : slD lo hi (.str ds) = if ds.length ≤ LIM then some (.str (cutL ds lo hi)) else none := (rfl)
theorem cut_fromto {α : Type} {xs : List α} {k j : Int} (h : 0 ≤ k) (h2 : 0 ≤ j) : cutL xs (some k) (some j) = (xs.drop k.toNat).take (j.toNat - k.toNat) := by
  have e1 : HT.sIx xs.length 0 (some k) = min k.toNat xs.length := by
    unfold HT.sIx
    split <;> rename_i e <;> cases e <;> first | omega | (simp; omega) | skip
  have e2 : HT.sIx xs.length xs.length (some j) = min j.toNat xs.length := by
    unfold HT.sIx
    split <;> rename_i e <;> cases e <;> first | omega | (simp; omega) | skip
  unfold cutL
  rw [e1, e2]
  rcases Nat.le_total k.toNat xs.length with q | q
  · rw [Nat.min_eq_left q]
    rcases Nat.le_total j.toNat xs.length with q2 | q2
    · rw [Nat.min_eq_left q2]
    · rw [Nat.min_eq_right q2, List.take_of_length_le (by simp), List.take_of_length_le (by simp; omega)]
  · rw [Nat.min_eq_right q]; simp [List.drop_of_length_le q]

section
variable {f : TgM} {body : SM} {kl : List Nat}
end

end LI

namespace LI
open PySem L2

theorem upD_eq (lo : Int) (n : Nat) : upD lo n = (List.range n).map fun (k : Nat) => D.int (lo + (k : Int)) := rfl
theorem for_at {f : TgM} {body : SM} {kl : List Nat} {ms : AM} {ρ ds : List D} (h : ms ρ = some ds) : forM f body kl ms ρ = forL f body kl ds ρ := by
  unfold forM; rw [h]; rfl
theorem upD0 (n : Nat) : upD 0 n = (List.range n).map fun (k : Nat) => D.int (k : Int) := by
  rw [upD_eq]; simp
theorem atI_nat {α : Type} {xs : List α} {k : Nat} (h : k < xs.length) : atI xs (k : Int) = some xs[k] := atI_at (by omega) (by simpa using h)
theorem if_F {mc : BM} {a b : SM} {ρ : List D} (h : mc ρ = some false) : ifM mc a b ρ = b ρ := by unfold ifM; rw [h]; rfl
theorem if_T {mc : BM} {a b : SM} {ρ : List D} (h : mc ρ = some true) : ifM mc a b ρ = a ρ := by unfold ifM; rw [h]; rfl
@[simp] theorem kit_int_int : kitB "int" "int" = some true := by decide +kernel
@[simp] theorem kit_int_bool : kitB "int" "bool" = some false := by decide +kernel
@[simp] theorem kit_int_str : kitB "int" "str" = some false := by decide +kernel
@[simp] theorem kit_int_list : kitB "int" "list" = some false := by decide +kernel
@[simp] theorem kit_int_tuple : kitB "int" "tuple" = some false := by decide +kernel
@[simp] theorem kit_int_dict : kitB "int" "dict" = some false := by decide +kernel
@[simp] theorem kit_bool_int : kitB "bool" "int" = some true := by decide +kernel
@[simp] theorem kit_bool_bool : kitB "bool" "bool" = some true := by decide +kernel
@[simp] theorem kit_bool_str : kitB "bool" "str" = some false := by decide +kernel
@[simp] theorem kit_bool_list : kitB "bool" "list" = some false := by decide +kernel
@[simp] theorem kit_bool_tuple : kitB "bool" "tuple" = some false := by decide +kernel
@[simp] theorem kit_bool_dict : kitB "bool" "dict" = some false := by decide +kernel
@[simp] theorem kit_str_int : kitB "str" "int" = some false := by decide +kernel
@[simp] theorem kit_str_bool : kitB "str" "bool" = some false := by decide +kernel
@[simp] theorem kit_str_str : kitB "str" "str" = some true := by decide +kernel
@[simp] theorem kit_str_list : kitB "str" "list" = some false := by decide +kernel
@[simp] theorem kit_str_tuple : kitB "str" "tuple" = some false := by decide +kernel
@[simp] theorem kit_str_dict : kitB "str" "dict" = some false := by decide +kernel
@[simp] theorem kit_list_int : kitB "list" "int" = some false := by decide +kernel
@[simp] theorem kit_list_bool : kitB "list" "bool" = some false := by decide +kernel
@[simp] theorem kit_list_str : kitB "list" "str" = some false := by decide +kernel
@[simp] theorem kit_list_list : kitB "list" "list" = some true := by decide +kernel
@[simp] theorem kit_list_tuple : kitB "list" "tuple" = some false := by decide +kernel
@[simp] theorem kit_list_dict : kitB "list" "dict" = some false := by decide +kernel
@[simp] theorem kit_tuple_int : kitB "tuple" "int" = some false := by decide +kernel
@[simp] theorem kit_tuple_bool : kitB "tuple" "bool" = some false := by decide +kernel
@[simp] theorem kit_tuple_str : kitB "tuple" "str" = some false := by decide +kernel
@[simp] theorem kit_tuple_list : kitB "tuple" "list" = some false := by decide +kernel
@[simp] theorem kit_tuple_tuple : kitB "tuple" "tuple" = some true := by decide +kernel
@[simp] theorem kit_tuple_dict : kitB "tuple" "dict" = some false := by decide +kernel
@[simp] theorem kit_dict_int : kitB "dict" "int" = some false := by decide +kernel
@[simp] theorem kit_dict_bool : kitB "dict" "bool" = some false := by decide +kernel
@[simp] theorem kit_dict_str : kitB "dict" "str" = some false := by decide +kernel
@[simp] theorem kit_dict_list : kitB "dict" "list" = some false := by decide +kernel
@[simp] theorem kit_dict_tuple : kitB "dict" "tuple" = some false := by decide +kernel
@[simp] theorem kit_dict_dict : kitB "dict" "dict" = some true := by decide +kernel
@[simp] theorem kit_NoneType_int : kitB "NoneType" "int" = some false := by decide +kernel
@[simp] theorem kit_NoneType_bool : kitB "NoneType" "bool" = some false := by decide +kernel
@[simp] theorem kit_NoneType_str : kitB "NoneType" "str" = some false := by decide +kernel
@[simp] theorem kit_NoneType_list : kitB "NoneType" "list" = some false := by decide +kernel
@[simp] theorem kit_NoneType_tuple : kitB "NoneType" "tuple" = some false := by decide +kernel
@[simp] theorem kit_NoneType_dict : kitB "NoneType" "dict" = some false := by decide +kernel
@[simp] theorem lim_ge (n : Nat) : (OfNat.ofNat n : Nat) ≤ LIM ↔ n ≤ 4000000 := Iff.rfl
@[simp] theorem lim_0 : 0 ≤ LIM := by decide
@[simp] theorem lim_1 : 1 ≤ LIM := by decide
end LI

namespace LI
open PySem L2

section
variable {X : Cx} {cl : Nat → Addr} {E : En} {e e0 a b o tg : Expr} {es : List Expr} {pos pos' p apos : Pos} {m mo ma mb : RM} {g : GM} {ms : AM} {n : Nat} {f nm x : Str} {L : Lens} {σ : L2.St}
theorem lst_upd {c : LC} {P H : Hp} {S T : FP} {ρ : List D} {v : V} {ds : List D} {Sd R : FP} (w : Wd c E P S T σ H ρ) (l : Loc c L P H σ ρ S v (.lst true ds) Sd R) (hz : frzL ds = true) : ∃ a xs, v = .ref a ∧ H a = some (.lst xs) ∧ RepL c P H ds xs fz ∧
    ∀ (ys : List V) (es : List D), (∀ H', RepL c P H' es ys fz) → ∃ S', Wd c E P S' T σ (upd H a (.lst ys)) (L.put ρ (.lst true es)) ∧ ∀ b u, 0 < T b → H b = some u → upd H a (.lst ys) b = some u := by
  have w' : Wd c E P S (fa T fz) σ H ρ := by rw [fa_fz]; exact w
  obtain ⟨a, xs, T1, e1, hh, rl, hS, k⟩ := loc_lst w' l
  have z := RepL.frz0 ds xs T1 hz rl
  subst z
  refine ⟨a, xs, e1, hh, rl, fun ys es hr => ?_⟩
  have w2 := k ys es fz fz (hr _) fun b => by simp only [fz]; omega
  rw [fa_fz] at w2
  refine ⟨_, w2, fun b u hb hu => ?_⟩
  have : b ≠ a := fun q => by
    subst q
    have := w.le b; have := l.sum b; have := hS b
    simp [one] at *; omega
  rw [upd_ne this]; exact hu
theorem repL_any {c : LC} {P H : Hp} {ds : List D} {xs : List V} (r : RepL c P H ds xs fz) : ∀ H', RepL c P H' ds xs fz := fun H' => RepL.mono (.refl _) ds xs fz (fun a o h => by simp [fz] at h) r
theorem repL_cat {c : LC} {P H : Hp} {ds es : List D} {xs ys : List V} (r : RepL c P H ds xs fz) (s : RepL c P H es ys fz) : RepL c P H (ds ++ es) (xs ++ ys) fz := by
  have := RepL.append r s
  rwa [fa_fz] at this
theorem repL_rev {c : LC} {P H : Hp} : ∀ {ds : List D} {xs : List V}, RepL c P H ds xs fz → RepL c P H ds.reverse xs.reverse fz
  | [], xs, r => by rw [r.1]; exact ⟨rfl, rfl⟩
  | d :: ds, xs, ⟨y, ys, T, U, e, r, rs, f⟩ => by
    have hT : T = fz := by funext b; have := congrFun f b; simp only [fa, fz] at this ⊢; omega
    have hU : U = fz := by funext b; have := congrFun f b; simp only [fa, fz] at this ⊢; omega
    subst hT; subst hU; subst e
    rw [List.reverse_cons, List.reverse_cons]
    exact repL_cat (repL_rev rs) ⟨y, [], fz, fz, rfl, r, ⟨rfl, rfl⟩, (fa_fz fz).symm⟩
def revL (L : Lens) : GM := fun ρ => (L.get ρ).bind fun d => match d with | .lst true ds => if frzL ds = true then some (.non, L.put ρ (.lst true ds.reverse)) else none | _ => none
theorem lst_split {L : Lens} {ρ : List D} {f : List D → Option (D × List D)} {r : D × List D} (h : ((L.get ρ).bind fun d => match d with | .lst true ds => if frzL ds = true then f ds else none | _ => none) = some r) : ∃ ds, L.get ρ = some (.lst true ds) ∧ frzL ds = true ∧ f ds = some r := by
  cases e1 : L.get ρ with
  | none => rw [e1] at h; cases h
  | some d =>
    rw [e1, Option.bind_some] at h
    split at h
    · rename_i ds
      split at h
      · rename_i hz; exact ⟨ds, rfl, hz, h⟩
      · cases h
    · cases h
theorem g_rev (he : PE X o (tPl ⟨X.K, cl, X.w⟩ E L)) (hbase : attributeBase o "reverse" X.env (eval o X.env) = eval o X.env := by rfl) (hline : (apos.endLine == pos.line) = true := by rfl) : PE X (.Call (.Attribute o "reverse" apos) [] [] pos) (tG ⟨X.K, cl, X.w⟩ E (revL L)) :=
  PE_imp (pe_bm0 PySem.F.plainAttrs_list PySem.F.slot_list_reverse PySem.F.type_list_reverse mt_reverse he hbase hline) fun σ H Q ⟨P, S, T, ρ, d, ρ', w, hm, q⟩ => by
    obtain ⟨ds, e1, hz, e2⟩ := lst_split (f := fun ds => some (.non, L.put ρ (.lst true ds.reverse))) hm
    cases e2
    refine ⟨P, S, T, ρ, _, w, e1, fun v Sd R l => ?_⟩
    obtain ⟨a, xs, ev, hh, rl, k⟩ := lst_upd w l hz
    obtain ⟨S', w2, kT⟩ := k xs.reverse ds.reverse fun H' => repL_rev (repL_any rl H')
    refine ⟨by rw [ev]; exact .inl ⟨rfl, xs, .inl (.inl hh)⟩, a, xs, ev, rfl, hh, ?_⟩
    exact q .non _ P S' fz (by rw [fa_fz]; exact w2) (.refl _) ⟨rfl, rfl⟩ kT
end
end LI

namespace LI
open PySem L2

section
variable {X : Cx} {cl : Nat → Addr} {E : En} {e e0 a b o i tg : Expr} {es : List Expr} {pos pos' p apos : Pos} {m mo ma mb mi : RM} {g : GM} {ms ms1 ms2 : AM} {n : Nat} {f nm x : Str} {L : Lens} {σ : L2.St} {CX : CXT} {k : Nat} {fad : Addr} {fd : FuncData} {ps : List Str} {F : FM} {XE : XK}
def tAL (c : LC) (E : En) (ms1 : AM) (L : Lens) (ms2 : AM) : TA := fun σ H Q => ∃ P S T ρ ds1 d ds2, Wd c E P S T σ H ρ ∧ ms1 ρ = some ds1 ∧ L.get ρ = some d ∧ ms2 ρ = some ds2 ∧
  ∀ vs1 v vs2 H' P' U1 U2 Sd R, Gr P H P' H' → RepL c P' H' ds1 vs1 U1 → Loc c L P' H' σ ρ S v d Sd R → RepL c P' H' ds2 vs2 U2 → Q (vs1 ++ v :: vs2) H'
theorem al_here (he : PE X e (tPl ⟨X.K, cl, X.w⟩ E L)) (ha : PA X es (tAR ⟨X.K, cl, X.w⟩ E ms2)) (hs : starEach (e :: es) X.env = (false, eval e X.env) :: starEach es X.env := by rfl) : PA X (e :: es) (tAL ⟨X.K, cl, X.w⟩ E nilM L ms2) :=
  PA_imp (pa_cons he ha hs) fun σ H Q ⟨P, S, T, ρ, ds1, d, ds2, w, e1, e2, e3, q⟩ => by
    cases e1
    exact ⟨P, S, T, ρ, d, w, e2, fun v Sd R l => ⟨P, S, T, ρ, ds2, w, e3, fun vs H1 P1 U1 g1 r1 => q [] v vs H1 P1 fz U1 Sd R g1 ⟨rfl, rfl⟩ (l.grow g1) r1⟩⟩
theorem al_next (he : PE X e (tR ⟨X.K, cl, X.w⟩ E m)) (ha : PA X es (tAL ⟨X.K, cl, X.w⟩ E ms1 L ms2)) (hs : starEach (e :: es) X.env = (false, eval e X.env) :: starEach es X.env := by rfl) : PA X (e :: es) (tAL ⟨X.K, cl, X.w⟩ E (consM m ms1) L ms2) :=
  PA_imp (pa_cons he ha hs) fun σ H Q ⟨P, S, T, ρ, ds1, d, ds2, w, e1, e2, e3, q⟩ => by
    rw [ev_cons] at e1
    cases z1 : m ρ with
    | none => rw [z1] at e1; cases e1
    | some d0 =>
      cases z2 : ms1 ρ with
      | none => rw [z1, z2] at e1; cases e1
      | some ds0 =>
        rw [z1, z2] at e1
        cases e1
        refine ⟨P, S, T, ρ, d0, w, z1, fun v0 H1 P1 U0 g1 r0 => ⟨P1, S, T, ρ, ds0, d, ds2, w.grow g1, z2, e2, e3, fun vs1 v vs2 H2 P2 U1 U2 Sd R g2 r1 l r2 => ?_⟩⟩
        exact q (v0 :: vs1) v vs2 H2 P2 (fa U0 U1) U2 Sd R (g1.trans g2) ⟨v0, vs1, U0, U1, rfl, r0.gr g2, r1, rfl⟩ l r2
def lendM (F : FM) (ms1 : AM) (L : Lens) (ms2 : AM) : GM := fun ρ => (ms1 ρ).bind fun ds1 => (L.get ρ).bind fun d => (ms2 ρ).bind fun ds2 => if frzL ds1 = true ∧ frzL ds2 = true then (F (ds1 ++ d :: ds2)).bind fun r => (r.2[ds1.length]?).map fun d' => (r.1, L.put ρ d') else none
theorem lend_split {ρ : List D} {r : D × List D} (h : lendM F ms1 L ms2 ρ = some r) : ∃ ds1 d ds2 d1 ds' d', ms1 ρ = some ds1 ∧ L.get ρ = some d ∧ ms2 ρ = some ds2 ∧ frzL ds1 = true ∧ frzL ds2 = true ∧ F (ds1 ++ d :: ds2) = some (d1, ds') ∧ ds'[ds1.length]? = some d' ∧ r = (d1, L.put ρ d') := by
  unfold lendM at h
  cases e1 : ms1 ρ with
  | none => rw [e1] at h; cases h
  | some ds1 =>
    cases e2 : L.get ρ with
    | none => rw [e1, e2] at h; cases h
    | some d =>
      cases e3 : ms2 ρ with
      | none => rw [e1, e2, e3] at h; cases h
      | some ds2 =>
        rw [e1, e2, e3, Option.bind_some, Option.bind_some, Option.bind_some] at h
        split at h
        · rename_i hc
          cases e4 : F (ds1 ++ d :: ds2) with
          | none => rw [e4] at h; cases h
          | some rr =>
            obtain ⟨d1, ds'⟩ := rr
            rw [e4, Option.bind_some] at h
            dsimp only at h
            cases e5 : ds'[ds1.length]? with
            | none => rw [e5] at h; cases h
            | some d' => rw [e5] at h; cases h; exact ⟨ds1, d, ds2, d1, ds', d', rfl, rfl, rfl, hc.1, hc.2, e4, e5, rfl⟩
        · cases h
theorem g_lend (G : FnOk X.prog X.w X.K X.mg X.base CX k fad fd ps (spD ⟨X.K, cl, X.w⟩ F)) (hr : Room k X.A) (hg : Gl X x) (hm : X.mg x = some (.ref fad)) (hk : PySem.W.keepIn X.K (.ref fad) = true) (hb : Binds X.K fd ps []) (hx : Passes CX X XE)
    (ha : PA X (e :: es) (tAL ⟨X.K, cl, X.w⟩ E ms1 L ms2)) (hdb : (x == ("__debug__" : Str)) = false := by decide) (he : starEach (e :: es) X.env = (false, eval e X.env) :: starEach es X.env := by rfl) (hpl : (backTo pos (starEach es X.env)).any (·.1) = false := by rfl) :
    PE X (.Call (.Name x p) (e :: es) [] pos) (tG ⟨X.K, cl, X.w⟩ E (lendM F ms1 L ms2)) := PE_imp (pe_call G hr hg hm hk hb .nil hx ha hdb he hpl) fun σ H Q ⟨P, S, T, ρ, d1, ρ', w, hm, q⟩ => by
  obtain ⟨ds1, d, ds2, d2, ds', d', e1, e2, e3, z1, z2, e4, e5, e6⟩ := lend_split hm
  cases e6
  refine ⟨P, S, T, ρ, ds1, d, ds2, w, e1, e2, e3, fun vs1 v vs2 H1 P1 U1 U2 Sd R g1 r1 l r2 => ?_⟩
  have y1 := RepL.frz0 ds1 vs1 U1 z1 r1
  have y2 := RepL.frz0 ds2 vs2 U2 z2 r2
  subst y1; subst y2
  have w1 := w.grow g1
  show spD ⟨X.K, cl, X.w⟩ F ((vs1 ++ v :: vs2) ++ []) H1 Q XE
  rw [List.append_nil]
  have rall : RepL ⟨X.K, cl, X.w⟩ P1 H1 (ds1 ++ d :: ds2) (vs1 ++ v :: vs2) (fa fz (fa Sd fz)) := RepL.append r1 ⟨v, vs2, Sd, fz, rfl, l.rep, r2, rfl⟩
  rw [fa_fz, fz_fa] at rall
  refine ⟨P1, Sd, _, _, ds', rall, g1.ph, fun b => by have := w.le b; have := l.sum b; omega, fun b hb => w1.out b (by have := l.sum b; omega), e4, fun v2 H2 P2 U S' st rd rl => ?_⟩
  obtain ⟨v', Sd', R', h1, h2, h3, _⟩ := rl.focus e5
  have hv : v' = v := by
    rw [r1.length, List.getElem?_append_right (Nat.le_refl _), Nat.sub_self] at h1
    simpa using h1.symm
  subst hv
  have henv := l.put P2 H2 d' Sd' st.p0 (fun b u hb hu => st.fr b u (by have := w.le b; have := l.sum b; omega) hu) h2
  have w2 := w1.through l.sum st henv (U := U) (fun b => by have := h3 b; simp only [fa]; omega) (Rep.there d1 v2 U rd)
  exact q v2 H2 P2 _ U w2 (g1.p.trans st.p0) rd fun b u hb hu => st.fr b u (by have := w.le b; have := l.sum b; omega) (g1.h b u hu)
end
end LI

namespace LI
open PySem L2

section
variable {X : Cx} {cl : Nat → Addr} {E : En} {e a b o i : Expr} {pos p apos cpos : Pos} {g ga gb : GM} {m ma mb mc mk mv : RM} {r : R2} {f : D → D → Option D}
end
end LI

namespace LI
open PySem L2

section
variable {c : LC} {P H : Hp}
theorem dk_heap (e : Ex P H) {o : Bool} {ks : List Key} {ds : List D} {v : V} {U : FP} (r : Rep c P H (.dK o ks ds) v U) : ∃ a xs T, v = .ref a ∧ H a = some (.dK (ks.zip xs)) ∧ ks.length = xs.length ∧ RepL c P H ds xs T ∧ ∀ b, T b ≤ U b := by
  cases o with
  | true =>
    obtain ⟨a, xs, T, e1, h, n, rl, f⟩ := r
    exact ⟨a, xs, T, e1, h, n, rl, fun b => by rw [f]; simp only [fa]; omega⟩
  | false =>
    obtain ⟨a, xs, e1, h, n, rl⟩ := r
    exact ⟨a, xs, U, e1, e _ _ h, n, rl, fun b => Nat.le_refl _⟩
theorem valV_under {ks : List Key} {ds : List D} {xs : List V} {T : FP} (n : ks.length = xs.length) (rl : RepL c P H ds xs T) (k : Key) : match under ks ds k with
    | some d => ∃ x T', valV (ks.zip xs) k = some x ∧ Rep c P H d x T' ∧ ∀ b, T' b ≤ T b
    | none => valV (ks.zip xs) k = none := by
  cases z : under ks ds k with
  | some d =>
    obtain ⟨x, T', h1, h2, h3⟩ := under_rep rl n z
    exact ⟨x, T', by unfold valV; rw [h1]; rfl, h2, h3⟩
  | none => exact under_none rl n z
end
section
variable {X : Cx} {cl : Nat → Addr} {E : En} {e a b o i f0 : Expr} {pos p apos cpos pos' : Pos} {m ma mb mc mk mv mi : RM} {g : GM} {L : Lens}
theorem hr_units {n : Nat} (h : n + 64 < cLine) : n + 1 < cLine := by omega
def getD2 : D → D → D → Option D
  | .dK _ ks ds, k, x => (keyD k).map fun k => (under ks ds k).getD x
  | _, _, _ => none
def getM2 (ma mb mc : RM) : RM := fun ρ => (ma ρ).bind fun d => (mb ρ).bind fun k => (mc ρ).bind fun x => getD2 d k x
theorem getD2_split {d k x r : D} (h : getD2 d k x = some r) : ∃ o ks ds k', d = .dK o ks ds ∧ keyD k = some k' ∧ r = (under ks ds k').getD x := by
  cases d with
  | dK o ks ds =>
    replace h : (keyD k).map (fun k => (under ks ds k).getD x) = some r := h
    cases e : keyD k with
    | none => rw [e] at h; cases h
    | some k' => rw [e] at h; cases h; exact ⟨o, ks, ds, k', rfl, rfl, rfl⟩
  | _ => cases h
theorem getM2_split {ρ : List D} {r : D} (h : getM2 ma mb mc ρ = some r) : ∃ o ks ds dk k x, ma ρ = some (.dK o ks ds) ∧ mb ρ = some dk ∧ keyD dk = some k ∧ mc ρ = some x ∧ r = (under ks ds k).getD x := by
  unfold getM2 at h
  cases e1 : ma ρ with
  | none => rw [e1] at h; cases h
  | some d =>
    cases e2 : mb ρ with
    | none => rw [e1, e2] at h; cases h
    | some dk =>
      cases e3 : mc ρ with
      | none => rw [e1, e2, e3] at h; cases h
      | some x =>
        rw [e1, e2, e3] at h
        obtain ⟨o, ks, ds, k, rfl, e4, e5⟩ := getD2_split h
        exact ⟨o, ks, ds, dk, k, x, rfl, rfl, e4, rfl, e5⟩
theorem r_get2 (hu : X.A.units + 1 < cLine) (ho : PE X o (tR ⟨X.K, cl, X.w⟩ E ma)) (he : PE X e (tR ⟨X.K, cl, X.w⟩ E mb)) (hf : PE X f0 (tR ⟨X.K, cl, X.w⟩ E mc)) (hm : M2 X o "get" apos e f0 cpos := by exact ⟨rfl, rfl, rfl, rfl⟩) : PE X (.Call (.Attribute o "get" apos) [e, f0] [] cpos) (tR ⟨X.K, cl, X.w⟩ E (getM2 ma mb mc)) :=
  PE_imp (pe_dget2 hu ho he hf hm) fun σ H Q ⟨P, S, T, ρ, d, w, hm, q⟩ => by
    obtain ⟨o, ks, ds, dk, k, x, e1, e2, e3, e4, rfl⟩ := getM2_split hm
    refine ⟨P, S, T, ρ, _, w, e1, fun v H1 P1 U1 g1 r1 => ?_⟩
    obtain ⟨a, xs, T1, rfl, h1, n1, rl, _⟩ := dk_heap g1.ph r1
    refine ⟨a, rfl, .inl ⟨_, .inl h1⟩, P1, S, T, ρ, dk, w.grow g1, e2, fun y H2 P2 U2 g2 r2 => ?_⟩
    obtain rfl := keyD_v e3 r2
    refine ⟨P2, S, T, ρ, x, w.grow (g1.trans g2), e4, fun z H3 P3 U3 g3 r3 => ?_⟩
    refine ⟨valV (ks.zip xs) k, DGet.k (g3.h _ _ (g2.h _ _ h1)), ?_⟩
    have hv := valV_under n1 (rl.gr (g2.trans g3)) k
    cases hz : under ks ds k with
    | some d =>
      rw [hz] at hv q
      obtain ⟨x', T', hx, hr, _⟩ := hv
      rw [hx]
      exact q _ _ _ _ ((g1.trans g2).trans g3) hr
    | none =>
      rw [hz] at hv q
      rw [hv]
      exact q _ _ _ _ ((g1.trans g2).trans g3) r3
end
end LI

namespace LI
open PySem L2

theorem Wd.iceL {c : LC} {P H : Hp} {S T : FP} {σ : L2.St} {ρ : List D} {L : Lens} {v : V} {d : D} {Sd R : FP} (w : Wd c E P S T σ H ρ) (l : Loc c L P H σ ρ S v d Sd R) : ∃ P' S', Wd c E P' S' T σ H (L.put ρ (ice d)) ∧ Ex P P' := by
  have h1 := l.sum
  have hP : ∀ a, 0 < Sd a → P a = none := fun a z => w.out a (by have := h1 a; omega)
  have ex : Ex P (fun a => if 0 < Sd a then H a else P a) := fun a o z => by
    by_cases hu : 0 < Sd a
    · rw [hP a hu] at z; cases z
    · simp [hu, z]
  have hr : Rep c (fun a => if 0 < Sd a then H a else P a) H (ice d) v fz := Rep.ice ex d v Sd (fun a o z1 z2 => by simp [z1, z2]) l.rep
  have henv := l.put _ H _ fz ex (fun _ _ _ h => h) hr
  rw [fz_fa] at henv
  refine ⟨fun a => if 0 < Sd a then H a else P a, R, ⟨henv, fun a => ?_, fun a z => ?_, w.th, fun a o z => ?_, w.p0.trans ex, w.fr, fun a z => ?_, fun a z => w.ns a (by have := h1 a; omega), w.kp⟩, ex⟩
  · have := w.le a; have := h1 a; omega
  · have l2 := w.le a; have s := h1 a
    have hu : ¬ 0 < Sd a := by omega
    simp only [hu, if_false]
    exact w.out a (by omega)
  · by_cases hu : 0 < Sd a
    · simpa [hu] using z
    · exact w.ph a o (by simpa [hu] using z)
  · by_cases hu : 0 < Sd a
    · exact .inr (w.ns a (by have := h1 a; omega))
    · exact w.np a (by simpa [hu] using z)
abbrev AGM := List D → Option (List D × List D)
section
variable {X : Cx} {cl : Nat → Addr} {E : En} {e : Expr} {es : List Expr} {pos p : Pos} {g : GM} {ms : AGM} {CX : CXT} {k : Nat} {f : Addr} {fd : FuncData} {ps : List Str} {F : FM} {XE : XK} {x : Str}
end
end LI

namespace LI
open PySem L2

section
variable {X : Cx} {cl : Nat → Addr} {E : En} {e a b : Expr} {pos : Pos} {m ma mb mi : RM} {L : Lens}
end
end LI
namespace LI
open PySem L2
section
variable {X : Cx} {cl : Nat → Addr} {E : En} {e : Expr} {es : List Expr} {pos p : Pos} {g : GM} {ms : AGM}
end
end LI

namespace LI
open PySem L2

def wkD : D → D
  | .key ks => .tup (ks.map kD)
  | d => d
theorem keys_rep {c : LC} {P H : Hp} : ∀ ks : List Key, RepL c P H (ks.map kD) (ks.map kV) fz
  | [] => ⟨rfl, rfl⟩
  | k :: ks => ⟨kV k, ks.map kV, fz, fz, rfl, kD_rep k, keys_rep ks, by rw [fa_fz]⟩
theorem wk_rep {c : LC} {P H : Hp} : ∀ {d : D} {v : V} {U : FP}, Rep c P H d v U → Rep c P H (wkD d) v U := fun {d v U} r => by
  cases d with
  | key ks =>
    obtain ⟨a, e, q, z⟩ := r
    subst z
    exact ⟨a, ks.map kV, e, .inl (.inl q), keys_rep ks⟩
  | _ => exact r
def wkM (m : RM) : RM := fun ρ => (m ρ).map wkD
def keyM (ms : AM) : RM := fun ρ => (ms ρ).bind fun ds => if ds.length ≤ LIM then (keyDs ds).map .key else none
section
variable {X : Cx} {cl : Nat → Addr} {E : En} {e a b o i : Expr} {es : List Expr} {pos p apos : Pos} {m ma mb : RM} {ms : AM} {L : Lens}
theorem r_wk (h : PE X e (tR ⟨X.K, cl, X.w⟩ E m)) : PE X e (tR ⟨X.K, cl, X.w⟩ E (wkM m)) := PE_imp h fun σ H Q ⟨P, S, T, ρ, d, w, hm, q⟩ => by
  unfold wkM at hm
  cases e1 : m ρ with
  | none => rw [e1] at hm; cases hm
  | some d1 =>
    rw [e1] at hm
    cases hm
    exact ⟨P, S, T, ρ, d1, w, e1, fun v H' P' U g r => q v H' P' U g (wk_rep r)⟩
theorem FQ.key {c : LC} {P H : Hp} {Q : VK} {ks : List Key} (h : FQ c P H (.key ks) Q) (e : Ex P H) : ∀ p, H p = none → Q (.ref p) (upd H p (.tup (ks.map kV))) := fun p hp => by
  have hP := none_of e hp
  refine h _ _ (upd P p (.tup (ks.map kV))) fz ⟨ex_new hP, ex_new hp, fun a o z => ?_, fun a z => ?_⟩ ⟨p, rfl, upd_same, rfl⟩ (fun _ => Nat.zero_le _) (fun a z => by simp [fz] at z)
  · by_cases q : a = p
    · subst q; rw [upd_same] at z ⊢; exact z
    · rw [upd_ne q] at z ⊢; exact e a o z
  · by_cases q : a = p
    · subst q; exact .inr hp
    · rw [upd_ne q] at z; exact .inl z
theorem f_key {x1} (h : PA X es (tAR ⟨X.K, cl, X.w⟩ E ms)) : PE X (.Tuple es x1 pos) (tF ⟨X.K, cl, X.w⟩ E (keyM ms)) := PE_imp (pe_tup h) fun σ H Q ⟨P, S, T, ρ, d, w, hm, q⟩ => by
  unfold keyM at hm
  cases e1 : ms ρ with
  | none => rw [e1] at hm; cases hm
  | some ds =>
    rw [e1, Option.bind_some] at hm
    split at hm
    · rename_i hl
      cases ek : keyDs ds with
      | none => rw [ek] at hm; cases hm
      | some ks =>
        rw [ek] at hm
        cases hm
        refine ⟨P, S, T, ρ, ds, w, e1, fun vs H' P' U g r => ⟨by rw [← r.length]; exact lim_le hl, ?_⟩⟩
        rw [keyDs_v ek r]
        exact (q.grow g).key g.ph
    · cases hm
theorem dt_heap {c : LC} {P H : Hp} (e : Ex P H) {o : Bool} {ks : List (List Key)} {ds : List D} {v : V} {U : FP} (r : Rep c P H (.dT o ks ds) v U) : ∃ a xs T, v = .ref a ∧ H a = some (.dT (ks.zip xs)) ∧ ks.length = xs.length ∧ RepL c P H ds xs T ∧ ∀ b, T b ≤ U b := by
  cases o with
  | true =>
    obtain ⟨a, xs, T, e1, h, n, rl, f⟩ := r
    exact ⟨a, xs, T, e1, h, n, rl, fun b => by rw [f]; simp only [fa]; omega⟩
  | false =>
    obtain ⟨a, xs, e1, h, n, rl⟩ := r
    exact ⟨a, xs, U, e1, e _ _ h, n, rl, fun b => Nat.le_refl _⟩
theorem valT_under {c : LC} {P H : Hp} {ks : List (List Key)} {ds : List D} {xs : List V} {T : FP} (n : ks.length = xs.length) (rl : RepL c P H ds xs T) (k : List Key) : match under ks ds k with
    | some d => ∃ x T', valV (ks.zip xs) k = some x ∧ Rep c P H d x T' ∧ ∀ b, T' b ≤ T b
    | none => valV (ks.zip xs) k = none := by
  cases z : under ks ds k with
  | some d =>
    obtain ⟨x, T', h1, h2, h3⟩ := under_rep rl n z
    exact ⟨x, T', by unfold valV; rw [h1]; rfl, h2, h3⟩
  | none => exact under_none rl n z
def ixT : D → D → Option D
  | .dT _ ks ds, .key k => under ks ds k
  | _, _ => none
theorem r_ixT (hu : X.A.units + 1 < cLine) (ha : PE X a (tR ⟨X.K, cl, X.w⟩ E ma)) (hb : PE X b (tR ⟨X.K, cl, X.w⟩ E mb)) (hs : PlainIx b := by exact fun _ _ => rfl) : PE X (.Subscript a b pos) (tR ⟨X.K, cl, X.w⟩ E (m2 ixT ma mb)) := by
  refine PE_imp (pe_dget hu ha hb hs) fun σ H Q ⟨P, S, T, ρ, d, w, hm, q⟩ => ?_
  unfold m2 at hm
  cases ea : ma ρ with
  | none => rw [ea] at hm; cases hm
  | some da =>
    cases eb : mb ρ with
    | none => rw [ea, eb] at hm; cases hm
    | some db =>
      rw [ea, eb] at hm
      replace hm : ixT da db = some d := hm
      unfold ixT at hm
      split at hm
      · rename_i o ks ds k
        refine ⟨P, S, T, ρ, .dT o ks ds, w, ea, fun x H1 P1 U1 g1 r1 => ⟨P1, S, T, ρ, .key k, w.grow g1, eb, fun y H2 P2 U2 g2 r2 => ?_⟩⟩
        obtain ⟨p, xs, T', e1, hh, n, rl, _⟩ := dt_heap g2.ph (r1.gr g2)
        obtain ⟨kb, e2, hk, _⟩ := r2
        have hv := valT_under n rl k
        rw [hm] at hv
        obtain ⟨x', T2, hx, hr, _⟩ := hv
        refine ⟨p, x', e1, ?_, q x' H2 P2 T2 (g1.trans g2) hr⟩
        rw [e2, ← hx]
        exact DGet.t hh (g2.ph _ _ hk)
      · cases hm
end
def putL {κ β : Type} [DecidableEq κ] (ks : List κ) (xs : List β) (k : κ) (y : β) : List κ × List β :=
  if (ks.any fun j => decide (j = k)) = true then (ks, (ks.zip xs).map fun p => if p.1 = k then y else p.2) else (ks ++ [k], xs ++ [y])
theorem zip_any {κ : Type} [DecidableEq κ] {k : κ} : ∀ {ks : List κ} {xs : List V}, ks.length = xs.length → ((ks.zip xs).any fun kv => decide (kv.1 = k)) = ks.any fun j => decide (j = k)
  | [], xs, _ => by simp
  | j :: ks, [], h => by simp at h
  | j :: ks, x :: xs, h => by
    rw [List.zip_cons_cons, List.any_cons, List.any_cons, zip_any (ks := ks) (xs := xs) (by simpa using h)]
theorem zip_repl {κ : Type} [DecidableEq κ] {k : κ} {y : V} : ∀ {ks : List κ} {xs : List V}, ks.length = xs.length → ((ks.zip xs).map fun kv => if kv.1 = k then (kv.1, y) else kv) = ks.zip ((ks.zip xs).map fun p => if p.1 = k then y else p.2)
  | [], xs, _ => by simp
  | j :: ks, [], h => by simp at h
  | j :: ks, x :: xs, h => by
    rw [List.zip_cons_cons, List.map_cons, List.map_cons, List.zip_cons_cons, zip_repl (ks := ks) (xs := xs) (by simpa using h)]
    by_cases e : j = k <;> simp [e]
theorem putK_zip {κ : Type} [DecidableEq κ] {k : κ} {y : V} {ks : List κ} {xs : List V} (h : ks.length = xs.length) : putK (ks.zip xs) k y = (putL ks xs k y).1.zip (putL ks xs k y).2 := by
  unfold putK putL
  rw [zip_any h]
  split
  · exact zip_repl h
  · show ks.zip xs ++ [(k, y)] = (ks ++ [k]).zip (xs ++ [y])
    rw [List.zip_append h]; rfl
theorem putL_len {κ β : Type} [DecidableEq κ] {k : κ} {y : β} {ks : List κ} {xs : List β} (h : ks.length = xs.length) : (putL ks xs k y).1.length = (putL ks xs k y).2.length := by
  unfold putL
  split
  · show ks.length = (List.map _ (ks.zip xs)).length
    rw [List.length_map, List.length_zip, ← h, Nat.min_self]
  · show (ks ++ [k]).length = (xs ++ [y]).length
    rw [List.length_append, List.length_append, h]; rfl
theorem repl_rep {κ : Type} [DecidableEq κ] {c : LC} {P H : Hp} {k : κ} {d : D} {y : V} (r : Rep c P H d y fz) : ∀ {ks : List κ} {ds : List D} {xs : List V}, ks.length = xs.length → RepL c P H ds xs fz → RepL c P H ((ks.zip ds).map fun p => if p.1 = k then d else p.2) ((ks.zip xs).map fun p => if p.1 = k then y else p.2) fz
  | [], ds, xs, _, _ => ⟨by simp, rfl⟩
  | j :: ks, [], xs, h, rl => by rw [rl.1] at h; simp at h
  | j :: ks, d0 :: ds, xs, h, rl => by
    obtain ⟨x, ys, T, U, e, r0, rs, f⟩ := rl
    subst e
    have hT : T = fz := by funext b; have := congrFun f b; simp only [fa, fz] at this ⊢; omega
    have hU : U = fz := by funext b; have := congrFun f b; simp only [fa, fz] at this ⊢; omega
    subst hT hU
    have ih := repl_rep (k := k) r (ks := ks) (by simpa using h) rs
    rw [List.zip_cons_cons, List.zip_cons_cons, List.map_cons, List.map_cons]
    refine ⟨_, _, fz, fz, rfl, ?_, ih, by rw [fa_fz]⟩
    by_cases e : j = k
    · rw [if_pos e, if_pos e]; exact r
    · rw [if_neg e, if_neg e]; exact r0
theorem putL_rep {κ : Type} [DecidableEq κ] {c : LC} {P H : Hp} {k : κ} {d : D} {y : V} {ks : List κ} {ds : List D} {xs : List V} (r : Rep c P H d y fz) (h : ks.length = xs.length) (rl : RepL c P H ds xs fz) : RepL c P H (putL ks ds k d).2 (putL ks xs k y).2 fz := by
  unfold putL
  split
  · exact repl_rep r h rl
  · exact repL_cat rl ⟨y, [], fz, fz, rfl, r, ⟨rfl, rfl⟩, by rw [fa_fz]⟩
theorem putL_keys {κ β γ : Type} [DecidableEq κ] {k : κ} {y : β} {z : γ} {ks : List κ} {xs : List β} {zs : List γ} : (putL ks xs k y).1 = (putL ks zs k z).1 := by
  unfold putL; split <;> rfl
theorem dt_upd {c : LC} {E : En} {P H : Hp} {S T : FP} {σ : L2.St} {ρ : List D} {L : Lens} {v : V} {ks : List (List Key)} {ds : List D} {Sd R : FP} (w : Wd c E P S T σ H ρ) (l : Loc c L P H σ ρ S v (.dT true ks ds) Sd R) (hz : frzL ds = true) : ∃ a xs, v = .ref a ∧ H a = some (.dT (ks.zip xs)) ∧ ks.length = xs.length ∧ RepL c P H ds xs fz ∧
    ∀ (js : List (List Key)) (ys : List V) (es : List D), js.length = ys.length → (∀ H', RepL c P H' es ys fz) → ∃ S', Wd c E P S' T σ (upd H a (.dT (js.zip ys))) (L.put ρ (.dT true js es)) ∧ ∀ b u, 0 < T b → H b = some u → upd H a (.dT (js.zip ys)) b = some u := by
  have w' : Wd c E P S (fa T fz) σ H ρ := by rw [fa_fz]; exact w
  obtain ⟨a, xs, T1, e1, hh, n, rl, hf⟩ := l.rep
  have z := RepL.frz0 ds xs T1 hz rl
  subst z
  have hS : ∀ b, Sd b = one a b + fz b := fun b => by rw [hf]; rfl
  refine ⟨a, xs, e1, hh, n, rl, fun js ys es hl hr => ?_⟩
  have w2 := loc_own w' l hS (fun b hb => by simp [fz] at hb) (.dT (js.zip ys)) (.dT true js es) fz fz ⟨a, ys, fz, e1, upd_same, hl, hr _, rfl⟩ fun b => by simp only [fz]; omega
  rw [fa_fz T] at w2
  refine ⟨_, w2, fun b u hb hu => ?_⟩
  have : b ≠ a := fun q => by
    subst q
    have := w.le b; have := l.sum b; have := hS b
    simp [one] at *; omega
  rw [upd_ne this]; exact hu
def dputT (L : Lens) (mi : RM) (g : GM) : SM := fun ρ => (g ρ).bind fun r => (L.get r.2).bind fun l => (mi r.2).bind fun k => match l, k with
  | .dT true ks ds, .key k => if frzL ds = true ∧ frz r.1 = true ∧ ks.length < LIM then some (.nx, L.put r.2 (.dT true (putL ks ds k r.1).1 (putL ks ds k r.1).2)) else none
  | _, _ => none
theorem dputT_split {L : Lens} {mi : RM} {g : GM} {ρ : List D} {r : Fl × List D} (h : dputT L mi g ρ = some r) : ∃ d ρ1 ks ds k, g ρ = some (d, ρ1) ∧ L.get ρ1 = some (.dT true ks ds) ∧ mi ρ1 = some (.key k) ∧ frzL ds = true ∧ frz d = true ∧ ks.length < LIM ∧ r = (.nx, L.put ρ1 (.dT true (putL ks ds k d).1 (putL ks ds k d).2)) := by
  unfold dputT at h
  cases e1 : g ρ with
  | none => rw [e1] at h; cases h
  | some r1 =>
    obtain ⟨d, ρ1⟩ := r1
    rw [e1, Option.bind_some] at h
    dsimp only at h
    cases e2 : L.get ρ1 with
    | none => rw [e2] at h; cases h
    | some l =>
      cases e3 : mi ρ1 with
      | none => rw [e2, e3] at h; cases h
      | some k =>
        rw [e2, e3, Option.bind_some, Option.bind_some] at h
        split at h
        · rename_i ks ds k
          split at h
          · rename_i hc
            cases h; exact ⟨d, ρ1, ks, ds, k, rfl, e2, e3, hc.1, hc.2.1, hc.2.2, rfl⟩
          · cases h
        · cases h
theorem s_dputT {X : Cx} {cl : Nat → Addr} {E : En} {e o i : Expr} {pos pos' : Pos} {mi : RM} {g : GM} {L : Lens} (hu : X.A.units + 1 < cLine) (he : PE X e (tG ⟨X.K, cl, X.w⟩ E g)) (ho : PE X o (tPl ⟨X.K, cl, X.w⟩ E L)) (hi : PE X i (tR ⟨X.K, cl, X.w⟩ E mi)) (hs : swapsWith e (some (.Subscript o i pos')) pos.line X.env = pure false := by rfl) :
    PS X (.Assign [.Subscript o i pos'] e pos) (tS ⟨X.K, cl, X.w⟩ E (dputT L mi g)) :=
  PS_imp (ps_dput hu ho hi he hs) fun D σ H ⟨P, S, ρ, fl, ρ', w, hm, q⟩ => by
    obtain ⟨d, ρ1, ks, ds, k, eg, el, ei, hz, hd, hl, e3⟩ := dputT_split hm
    cases e3
    refine g_run w eg fun y H1 P1 S1 U w1 ex r1 => ?_
    have hU := Rep.frz0 d y U hd r1
    subst hU
    refine ⟨P1, S1, fz, ρ1, _, w1, el, fun v Sd R l => ?_⟩
    refine ⟨P1, S1, fz, ρ1, _, w1, ei, fun iv H2 P2 U2 g2 r2 => ?_⟩
    obtain ⟨a, xs, ev, hh, n, rl, kk⟩ := dt_upd (w1.grow g2) (l.grow g2) hz
    obtain ⟨kb, e2, hk, _⟩ := r2
    obtain ⟨S', w2, kT⟩ := kk (putL ks xs k y).1 (putL ks xs k y).2 (putL ks ds k d).2 (putL_len n) fun H' => putL_rep (Rep.mono g2.p d y fz (fun _ _ h => by simp [fz] at h) r1) n (repL_any rl H')
    refine ⟨a, _, ev, by rw [e2]; exact DPut.t hh (g2.ph _ _ hk) (by rw [List.length_zip, ← n, Nat.min_self]; exact lim_lt hl), ?_⟩
    rw [putK_zip n]
    rw [show (putL ks xs k y).1 = (putL ks ds k d).1 from putL_keys] at w2 ⊢
    exact q σ _ P2 S' w2 (ex.trans g2.p)
theorem dk_upd {c : LC} {E : En} {P H : Hp} {S T : FP} {σ : L2.St} {ρ : List D} {L : Lens} {v : V} {ks : List Key} {ds : List D} {Sd R : FP} (w : Wd c E P S T σ H ρ) (l : Loc c L P H σ ρ S v (.dK true ks ds) Sd R) (hz : frzL ds = true) : ∃ a xs, v = .ref a ∧ H a = some (.dK (ks.zip xs)) ∧ ks.length = xs.length ∧ RepL c P H ds xs fz ∧
    ∀ (js : List Key) (ys : List V) (es : List D), js.length = ys.length → (∀ H', RepL c P H' es ys fz) → ∃ S', Wd c E P S' T σ (upd H a (.dK (js.zip ys))) (L.put ρ (.dK true js es)) ∧ ∀ b u, 0 < T b → H b = some u → upd H a (.dK (js.zip ys)) b = some u := by
  have w' : Wd c E P S (fa T fz) σ H ρ := by rw [fa_fz]; exact w
  obtain ⟨a, xs, T1, e1, hh, n, rl, hf⟩ := l.rep
  have z := RepL.frz0 ds xs T1 hz rl
  subst z
  have hS : ∀ b, Sd b = one a b + fz b := fun b => by rw [hf]; rfl
  refine ⟨a, xs, e1, hh, n, rl, fun js ys es hl hr => ?_⟩
  have w2 := loc_own w' l hS (fun b hb => by simp [fz] at hb) (.dK (js.zip ys)) (.dK true js es) fz fz ⟨a, ys, fz, e1, upd_same, hl, hr _, rfl⟩ fun b => by simp only [fz]; omega
  rw [fa_fz T] at w2
  refine ⟨_, w2, fun b u hb hu => ?_⟩
  have : b ≠ a := fun q => by
    subst q
    have := w.le b; have := l.sum b; have := hS b
    simp [one] at *; omega
  rw [upd_ne this]; exact hu
def dputK (L : Lens) (mi : RM) (g : GM) : SM := fun ρ => (g ρ).bind fun r => (L.get r.2).bind fun l => (mi r.2).bind fun k => match l, k with
  | .dK true ks ds, k => (keyD k).bind fun k => if frzL ds = true ∧ frz r.1 = true ∧ ks.length < LIM then some (.nx, L.put r.2 (.dK true (putL ks ds k r.1).1 (putL ks ds k r.1).2)) else none
  | _, _ => none
theorem dputK_split {L : Lens} {mi : RM} {g : GM} {ρ : List D} {r : Fl × List D} (h : dputK L mi g ρ = some r) : ∃ d ρ1 ks ds dk k, g ρ = some (d, ρ1) ∧ L.get ρ1 = some (.dK true ks ds) ∧ mi ρ1 = some dk ∧ keyD dk = some k ∧ frzL ds = true ∧ frz d = true ∧ ks.length < LIM ∧ r = (.nx, L.put ρ1 (.dK true (putL ks ds k d).1 (putL ks ds k d).2)) := by
  unfold dputK at h
  cases e1 : g ρ with
  | none => rw [e1] at h; cases h
  | some r1 =>
    obtain ⟨d, ρ1⟩ := r1
    rw [e1, Option.bind_some] at h
    dsimp only at h
    cases e2 : L.get ρ1 with
    | none => rw [e2] at h; cases h
    | some l =>
      cases e3 : mi ρ1 with
      | none => rw [e2, e3] at h; cases h
      | some k =>
        rw [e2, e3, Option.bind_some, Option.bind_some] at h
        split at h
        · rename_i ks ds
          cases e4 : keyD k with
          | none => rw [e4] at h; cases h
          | some kk =>
            rw [e4, Option.bind_some] at h
            split at h
            · rename_i hc
              cases h; exact ⟨d, ρ1, ks, ds, k, kk, rfl, e2, e3, e4, hc.1, hc.2.1, hc.2.2, rfl⟩
            · cases h
        · cases h
theorem s_dputK {X : Cx} {cl : Nat → Addr} {E : En} {e o i : Expr} {pos pos' : Pos} {mi : RM} {g : GM} {L : Lens} (hu : X.A.units + 1 < cLine) (he : PE X e (tG ⟨X.K, cl, X.w⟩ E g)) (ho : PE X o (tPl ⟨X.K, cl, X.w⟩ E L)) (hi : PE X i (tR ⟨X.K, cl, X.w⟩ E mi)) (hs : swapsWith e (some (.Subscript o i pos')) pos.line X.env = pure false := by rfl) :
    PS X (.Assign [.Subscript o i pos'] e pos) (tS ⟨X.K, cl, X.w⟩ E (dputK L mi g)) :=
  PS_imp (ps_dput hu ho hi he hs) fun D σ H ⟨P, S, ρ, fl, ρ', w, hm, q⟩ => by
    obtain ⟨d, ρ1, ks, ds, dk, k, eg, el, ei, ek, hz, hd, hl, e3⟩ := dputK_split hm
    cases e3
    refine g_run w eg fun y H1 P1 S1 U w1 ex r1 => ?_
    have hU := Rep.frz0 d y U hd r1
    subst hU
    refine ⟨P1, S1, fz, ρ1, _, w1, el, fun v Sd R l => ?_⟩
    refine ⟨P1, S1, fz, ρ1, _, w1, ei, fun iv H2 P2 U2 g2 r2 => ?_⟩
    obtain ⟨a, xs, ev, hh, n, rl, kk⟩ := dk_upd (w1.grow g2) (l.grow g2) hz
    have e2 := keyD_v ek r2
    obtain ⟨S', w2, kT⟩ := kk (putL ks xs k y).1 (putL ks xs k y).2 (putL ks ds k d).2 (putL_len n) fun H' => putL_rep (Rep.mono g2.p d y fz (fun _ _ h => by simp [fz] at h) r1) n (repL_any rl H')
    refine ⟨a, _, ev, by rw [e2]; exact DPut.k hh (by rw [List.length_zip, ← n, Nat.min_self]; exact lim_lt hl), ?_⟩
    rw [putK_zip n]
    rw [show (putL ks xs k y).1 = (putL ks ds k d).1 from putL_keys] at w2 ⊢
    exact q σ _ P2 S' w2 (ex.trans g2.p)
theorem FQ.dT0 {c : LC} {P H : Hp} {Q : VK} (h : FQ c P H (.dT true [] []) Q) (e : Ex P H) : ∀ p, H p = none → Q (.ref p) (upd H p (.dT [])) := fun p hp => by
  have hP := none_of e hp
  exact h _ _ P (one p) ⟨.refl _, ex_new hp, e.trans (ex_new hp), fun _ z => .inl z⟩ ⟨p, [], fz, rfl, upd_same, rfl, ⟨rfl, rfl⟩, by rw [fa_fz]⟩ one_le fun a z => by rw [one_pos z]; exact ⟨hp, hP⟩
def newT : RM := fun _ => some (.dT true [] [])
theorem f_dnewT {X : Cx} {cl : Nat → Addr} {E : En} {pos : Pos} : PE X (.Dict [] [] pos) (tF ⟨X.K, cl, X.w⟩ E newT) := PE_imp pe_dnewT fun σ H Q ⟨P, S, T, ρ, d, w, hm, q⟩ => by
  cases hm
  exact fun p hp => q.dT0 w.ph p hp
def strD : List D → Option D
  | [.int i] => if i.natAbs.log2 < 1920 then some (.str ((toString i).toList.map Char.toNat)) else none
  | _ => none
theorem op_strD {c : LC} : OpA c (fun xs H Q => ∃ i, xs = [.int i] ∧ i.natAbs.log2 < 1920 ∧ Q (.str (toString i)) H) strD := by
  intro P H e ds d vs U hf r Q q
  unfold strD at hf
  split at hf
  · split at hf
    · rename_i i hl
      cases hf
      obtain ⟨v, T, rfl, r1⟩ := repL1 r
      obtain ⟨rfl, _⟩ := r1
      exact ⟨i, rfl, hl, q.flat e ⟨congrArg V.str (Str.ofString_eq_toList _), rfl⟩⟩
    · cases hf
  · cases hf
end LI

namespace LI
open PySem L2

abbrev Ts := List Char
def eU : Unit → D := fun _ => .non
def eI : Int → D := .int
def eB : Bool → D := .bl
def eS (s : Ts) : D := .str (s.map Char.toNat)
def eC : List Int → D := .scr
def eK (ss : List Ts) : D := .kst (ss.map fun s => s.map Char.toNat)
def eO {α : Type} (e : α → D) : Option α → D
  | none => .non
  | some x => e x
def eL {α : Type} (o : Bool) (e : α → D) (xs : List α) : D := .lst o (xs.map e)
def e1 {α : Type} (a : α → D) (t : α) : D := .tup [a t]
def e2 {α β : Type} (a : α → D) (b : β → D) (t : α × β) : D := .tup [a t.1, b t.2]
def e3 {α β γ : Type} (a : α → D) (b : β → D) (c : γ → D) (t : α × β × γ) : D := .tup [a t.1, b t.2.1, c t.2.2]
def e4 {α β γ δ : Type} (a : α → D) (b : β → D) (c : γ → D) (d : δ → D) (t : α × β × γ × δ) : D := .tup [a t.1, b t.2.1, c t.2.2.1, d t.2.2.2]
def e5 {α β γ δ ε : Type} (a : α → D) (b : β → D) (c : γ → D) (d : δ → D) (e : ε → D) (t : α × β × γ × δ × ε) : D := .tup [a t.1, b t.2.1, c t.2.2.1, d t.2.2.2.1, e t.2.2.2.2]
def e6 {α β γ δ ε ζ : Type} (a : α → D) (b : β → D) (c : γ → D) (d : δ → D) (e : ε → D) (f : ζ → D) (t : α × β × γ × δ × ε × ζ) : D := .tup [a t.1, b t.2.1, c t.2.2.1, d t.2.2.2.1, e t.2.2.2.2.1, f t.2.2.2.2.2]
structure An where
  d : D
  ng : notGone d = true
  fz : frz d = true
def eA (a : An) : D := a.d

class Ng {α : Type} (e : α → D) : Prop where
  ng : ∀ x, notGone (e x) = true
class Fz {α : Type} (e : α → D) : Prop where
  fz : ∀ x, frz (e x) = true
class Ic {α : Type} (e : α → D) (e' : outParam (α → D)) : Prop where
  ic : ∀ x, ice (e x) = e' x
class Nic {α : Type} (e : α → D) : Prop where
  ni : ∀ x, noIce (e x) = true
section
variable {α β γ δ ε ζ : Type} {a : α → D} {b : β → D} {c : γ → D} {d : δ → D} {e : ε → D} {f : ζ → D} {a' : α → D} {b' : β → D} {c' : γ → D} {d' : δ → D} {e' : ε → D} {f' : ζ → D} {o : Bool}
instance : Ng eI := ⟨fun _ => rfl⟩
instance : Ng eB := ⟨fun _ => rfl⟩
instance : Ng eS := ⟨fun _ => rfl⟩
instance : Ng eC := ⟨fun _ => rfl⟩
instance [Ng a] : Ng (eO a) := ⟨fun x => by cases x with | none => rfl | some x => exact Ng.ng x⟩
instance : Ng (eL o a) := ⟨fun _ => rfl⟩
instance : Ng (e2 a b) := ⟨fun _ => rfl⟩
instance : Ng (e3 a b c) := ⟨fun _ => rfl⟩
instance : Ng (e4 a b c d) := ⟨fun _ => rfl⟩
instance : Nic eI := ⟨fun _ => rfl⟩
instance : Nic eB := ⟨fun _ => rfl⟩
instance [Nic a] : Nic (eO a) := ⟨fun x => by cases x with | none => rfl | some x => exact Nic.ni x⟩
instance : Fz eI := ⟨fun _ => rfl⟩
instance : Fz eS := ⟨fun _ => rfl⟩
instance : Fz eC := ⟨fun _ => rfl⟩
instance : Fz eA := ⟨fun x => x.fz⟩
instance [Fz a] : Fz (eO a) := ⟨fun x => by cases x with | none => rfl | some x => exact Fz.fz x⟩
theorem fz_map [Fz a] (xs : List α) : frzL (xs.map a) = true := frzL_map.mpr fun x _ => Fz.fz x
instance [Fz a] : Fz (eL false a) := ⟨fun x => by simp [eL, Fz.fz]⟩
instance [Fz a] [Fz b] : Fz (e2 a b) := ⟨fun x => by simp [e2, Fz.fz]⟩
instance [Fz a] [Fz b] [Fz c] : Fz (e3 a b c) := ⟨fun x => by simp [e3, Fz.fz]⟩
instance [Fz a] [Fz b] [Fz c] [Fz d] : Fz (e4 a b c d) := ⟨fun x => by simp [e4, Fz.fz]⟩
instance : Ic eI eI := ⟨fun _ => rfl⟩
instance : Ic eS eS := ⟨fun _ => rfl⟩
instance : Ic eC eC := ⟨fun _ => rfl⟩
instance : Ic eA eA := ⟨fun x => ice_frz _ x.fz⟩
instance [Ic a a'] : Ic (eO a) (eO a') := ⟨fun x => by cases x with | none => rfl | some x => exact Ic.ic x⟩
instance [Ic a a'] : Ic (eL o a) (eL false a') := ⟨fun x => by simp [eL, Ic.ic (e := a)]⟩
instance [Ic a a'] [Ic b b'] : Ic (e2 a b) (e2 a' b') := ⟨fun x => by simp [e2, Ic.ic (e := a), Ic.ic (e := b)]⟩
instance [Ic a a'] [Ic b b'] [Ic c c'] : Ic (e3 a b c) (e3 a' b' c') := ⟨fun x => by simp [e3, Ic.ic (e := a), Ic.ic (e := b), Ic.ic (e := c)]⟩
instance [Ic a a'] [Ic b b'] [Ic c c'] [Ic d d'] : Ic (e4 a b c d) (e4 a' b' c' d') := ⟨fun x => by simp [e4, Ic.ic (e := a), Ic.ic (e := b), Ic.ic (e := c), Ic.ic (e := d)]⟩
end

theorem toNat_lt (c : Char) : c.toNat < 1114112 := by
  rcases c.valid with h | ⟨_, h⟩
  · have : c.toNat < 55296 := h
    omega
  · exact h
theorem toNat_inj {a b : Char} (h : a.toNat = b.toNat) : a = b := Char.toNat_inj.mp h
class Pe {α : Type} (e : α → D) (n : outParam Nat) where
  p : α → PyData
  to : ∀ x, toP (e x) = some (p x)
  lay : ∀ x, (p x).canLay0 = true
  dep : ∀ x, (p x).depth ≤ n
  eq : ∀ x y, (p x).eqv (p y) = true ↔ x = y
instance : Pe eI 0 := ⟨.int, fun _ => rfl, fun _ => by simp [PyData.canLay0], fun _ => by simp [PyData.depth], fun _ _ => by simp [PyData.eqv]⟩
theorem ts_map_inj {x y : Ts} : x.map Char.toNat = y.map Char.toNat ↔ x = y :=
  ⟨fun h => List.map_inj_right (fun _ _ => toNat_inj) |>.mp h, fun h => by rw [h]⟩
instance : Pe eS 0 := ⟨fun s => .str ⟨(s.map Char.toNat).toArray⟩, fun _ => rfl, fun s => by
    simp [PyData.canLay0, PyData.strOk, toNat_lt], fun _ => by simp [PyData.depth], fun x y => by
    have : ((⟨(x.map Char.toNat).toArray⟩ : Str) == ⟨(y.map Char.toNat).toArray⟩) = (x.map Char.toNat == y.map Char.toNat) := str_beq _ _
    simp only [PyData.eqv, this, beq_iff_eq, ts_map_inj]⟩
theorem pe_toL {α : Type} {e : α → D} {n : Nat} [Pe e n] : ∀ xs : List α, toPL (xs.map e) = some (xs.map (Pe.p e))
  | [] => rfl
  | x :: xs => by simp [toPL, Pe.to (e := e) x, pe_toL xs]
theorem pe_lays {α : Type} {e : α → D} {n : Nat} [Pe e n] : ∀ xs : List α, PyData.canLayAll0 (xs.map (Pe.p e)) = true
  | [] => rfl
  | x :: xs => by simp [PyData.canLayAll0, Pe.lay (e := e) x, pe_lays xs]
theorem pe_deps {α : Type} {e : α → D} {n : Nat} [Pe e n] : ∀ xs : List α, PyData.depthAll (xs.map (Pe.p e)) ≤ n
  | [] => Nat.zero_le _
  | x :: xs => by have := Pe.dep (e := e) x; have := pe_deps (e := e) xs; simp [PyData.depthAll]; omega
theorem pe_eqs {α : Type} {e : α → D} {n : Nat} [Pe e n] : ∀ xs ys : List α, PyData.eqvAll (xs.map (Pe.p e)) (ys.map (Pe.p e)) = true ↔ xs = ys
  | [], [] => by simp [PyData.eqvAll]
  | [], y :: ys => by simp [PyData.eqvAll]
  | x :: xs, [] => by simp [PyData.eqvAll]
  | x :: xs, y :: ys => by simp [PyData.eqvAll, Pe.eq (e := e), pe_eqs xs ys]
instance {α : Type} {e : α → D} {n : Nat} {o : Bool} [Pe e n] : Pe (eL o e) (n + 1) := ⟨fun xs => .list (xs.map (Pe.p e)), fun xs => by simp [eL, toP, pe_toL], fun xs => by simp [PyData.canLay0, pe_lays], fun xs => by
  have := pe_deps (e := e) xs; simp [PyData.depth]; omega, fun x y => by simp [PyData.eqv, pe_eqs]⟩
section
variable {α β γ δ ε ζ : Type} {a : α → D} {b : β → D} {c : γ → D} {d : δ → D} {e : ε → D} {f : ζ → D} {na nb nc nd ne nf : Nat}
class Nn {α : Type} (e : α → D) : Prop where
  nn : ∀ x, ∀ p, toP (e x) = some p → p.eqv .none = false ∧ PyData.eqv .none p = false
instance : Nn eI := ⟨fun x p h => by cases h; simp [PyData.eqv]⟩
instance [Nn a] [Pe a na] : Pe (eO a) na := ⟨fun x => match x with | none => .none | some x => Pe.p a x, fun x => by cases x with | none => rfl | some x => exact Pe.to (e := a) x,
  fun x => by cases x with | none => simp [PyData.canLay0] | some x => exact Pe.lay (e := a) x, fun x => by cases x with | none => simp [PyData.depth] | some x => exact Pe.dep (e := a) x, fun x y => by
    cases x with
    | none => cases y with
      | none => simp [PyData.eqv]
      | some y => have := (Nn.nn (e := a) y _ (Pe.to (e := a) y)).2; simp [this]
    | some x => cases y with
      | none => have := (Nn.nn (e := a) x _ (Pe.to (e := a) x)).1; simp [this]
      | some y => simp [Pe.eq (e := a)]⟩
instance [Pe a na] [Pe b nb] : Pe (e2 a b) (max na nb + 1) := ⟨fun t => .tuple [Pe.p a t.1, Pe.p b t.2], fun t => by simp [e2, toP, toPL, Pe.to (e := a), Pe.to (e := b)], fun t => by simp [PyData.canLay0, PyData.canLayAll0, Pe.lay (e := a), Pe.lay (e := b)], fun t => by
  have h1 := Pe.dep (e := a) t.1; have h2 := Pe.dep (e := b) t.2; simp [PyData.depth, PyData.depthAll]; omega, fun x y => by simp [PyData.eqv, PyData.eqvAll, Pe.eq (e := a), Pe.eq (e := b), Prod.ext_iff]⟩
instance [Pe a na] [Pe b nb] [Pe c nc] [Pe d nd] : Pe (e4 a b c d) (max na (max nb (max nc nd)) + 1) := ⟨fun t => .tuple [Pe.p a t.1, Pe.p b t.2.1, Pe.p c t.2.2.1, Pe.p d t.2.2.2], fun t => by simp [e4, toP, toPL, Pe.to (e := a), Pe.to (e := b), Pe.to (e := c), Pe.to (e := d)], fun t => by simp [PyData.canLay0, PyData.canLayAll0, Pe.lay (e := a), Pe.lay (e := b), Pe.lay (e := c), Pe.lay (e := d)], fun t => by
  have h1 := Pe.dep (e := a) t.1; have h2 := Pe.dep (e := b) t.2.1; have h3 := Pe.dep (e := c) t.2.2.1; have h4 := Pe.dep (e := d) t.2.2.2; simp [PyData.depth, PyData.depthAll]; omega, fun x y => by simp [PyData.eqv, PyData.eqvAll, Pe.eq (e := a), Pe.eq (e := b), Pe.eq (e := c), Pe.eq (e := d), Prod.ext_iff]⟩
end
theorem eqB_ice (x y : D) : eqB x y = eqB (ice x) (ice y) := by unfold eqB; rw [toP_ice, toP_ice]
theorem eqB_pe {α : Type} [DecidableEq α] {e1 e2 e' : α → D} {n : Nat} [Ic e1 e'] [Ic e2 e'] [Pe e' n] (hn : n ≤ 64) (x y : α) : eqB (e1 x) (e2 y) = some (decide (x = y)) := by
  rw [eqB_ice, Ic.ic (e := e1), Ic.ic (e := e2)]
  unfold eqB
  have s : ∀ z, SeqAt.shaped (Pe.p e' z) = true := fun z => by
    have := Pe.dep (e := e') z
    simp [SeqAt.shaped, Pe.lay (e := e') z]; omega
  have q : (Pe.p e' x).eqv (Pe.p e' y) = decide (x = y) := by
    rw [Bool.eq_iff_iff, Pe.eq, decide_eq_true_iff]
  simp only [Pe.to (e := e'), Option.bind_some, s, and_self, if_true, q]
end LI

namespace LI
open PySem L2

def Ev {α : Type} (e : α → D) (m : RM) (ρ : List D) (o : Option α) : Prop := ∀ x, o = some x → m ρ = some (e x)
def Et (m : BM) (ρ : List D) (o : Option Bool) : Prop := ∀ x, o = some x → m ρ = some x
def Eg {α : Type} (e : α → D) (env : α → List D) (g : GM) (ρ : List D) (o : Option α) : Prop := ∀ x, o = some x → g ρ = some (e x, env x)
structure Ea {τ : Type} (e e' : τ → List D) (z : Bool) (ms : AM) (ρ : List D) (o : Option τ) : Prop where
  run : ∀ x, o = some x → ms ρ = some (e x)
  ic : ∀ x, iceL (e x) = e' x
  fz : z = true → ∀ x, frzL (e x) = true
def Ei {α : Type} (e : α → D) (ms : AM) (ρ : List D) (o : Option (List α)) : Prop := ∀ xs, o = some xs → ms ρ = some (xs.map e)
def Eo (m : OM) (ρ : List D) (o : Option (Option Int)) : Prop := ∀ x, o = some x → m ρ = some x

theorem ob_some {α β : Type} {o : Option α} {k : α → Option β} {z : β} (h : o.bind k = some z) : ∃ x, o = some x ∧ k x = some z := by
  cases o with
  | none => cases h
  | some x => exact ⟨x, rfl, h⟩

section
variable {α β γ δ : Type} {a : α → D} {b : β → D} {c : γ → D} {e : α → D} {e' : α → D} {m ma mb mc : RM} {ρ : List D} {o oa : Option α} {ob : Option β} {oc : Option γ}
theorem x_v {i : Nat} (e : α → D) (x : α) [Ng e] (h : ρ[i]? = some (e x)) : Ev e (vM i) ρ (some x) := fun y hy => by
  cases hy; rw [LI.ev_v, h]; simp [Ng.ng]
theorem x_k {d : D} (e : α → D) (x : α) (h : d = e x) : Ev e (kM d) ρ (some x) := fun y hy => by cases hy; rw [LI.ev_k, h]
theorem x_map {e : α → D} {f : β → D} (k : α → β) (hk : ∀ x, f (k x) = e x) (h : Ev e m ρ o) : Ev f m ρ (o.bind fun x => some (k x)) := fun y hy => by
  obtain ⟨x, h1, h2⟩ := ob_some hy; cases h2; rw [h x h1, hk]
theorem x_un {o : Option (Option α)} (h : Ev (eO e) m ρ o) : Ev e m ρ (o.bind fun x => x) := fun y hy => by
  obtain ⟨x, h1, h2⟩ := ob_some hy; rw [h x h1, h2]; rfl
def an {α : Type} (e : α → D) [Ng e] [Fz e] (x : α) : An := ⟨e x, Ng.ng x, Fz.fz x⟩
theorem x_fr [Fz e] (h : Ev e m ρ o) : Ev e (frM m) ρ o := fun y hy => by rw [LI.ev_fr, h y hy]; simp [Fz.fz]
theorem x_cold [Ic e e'] (h : Ev e m ρ o) : Ev e' (coldM m) ρ o := fun y hy => by rw [LI.ev_cold, h y hy, Option.map_some, Ic.ic]

def O2 (f : D → D → Option D) (a : α → D) (b : β → D) (c : γ → D) (g : α → β → Option γ) : Prop := ∀ x y z, g x y = some z → f (a x) (b y) = some (c z)
def O1 (f : D → Option D) (a : α → D) (c : γ → D) (g : α → Option γ) : Prop := ∀ x z, g x = some z → f (a x) = some (c z)
theorem x_m2 {f : D → D → Option D} {g : α → β → Option γ} (hf : O2 f a b c g) (ha : Ev a ma ρ oa) (hb : Ev b mb ρ ob) : Ev c (m2 f ma mb) ρ (oa.bind fun x => ob.bind fun y => g x y) := fun z hz => by
  obtain ⟨x, h1, h2⟩ := ob_some hz
  obtain ⟨y, h3, h4⟩ := ob_some h2
  rw [LI.ev_m2, ha x h1, Option.bind_some, hb y h3, Option.bind_some, hf x y z h4]
theorem x_m1 {f : D → Option D} {g : α → Option γ} (hf : O1 f a c g) (ha : Ev a ma ρ oa) : Ev c (m1 f ma) ρ (oa.bind g) := fun z hz => by
  obtain ⟨x, h1, h2⟩ := ob_some hz
  rw [LI.ev_m1, ha x h1, Option.bind_some, hf x z h2]
theorem x_a1 {f : List D → Option D} {g : α → Option γ} (hf : O1 (fun d => f [d]) a c g) (ha : Ev a ma ρ oa) : Ev c (mA f (consM ma nilM)) ρ (oa.bind g) := fun z hz => by
  obtain ⟨x, h1, h2⟩ := ob_some hz
  have := hf x z h2
  simp only [ev_mA, LI.ev_cons, ha x h1, Option.bind_some, LI.ev_nil, Option.map_some]
  exact this
theorem x_a2 {f : List D → Option D} {g : α → β → Option γ} (hf : O2 (fun d u => f [d, u]) a b c g) (ha : Ev a ma ρ oa) (hb : Ev b mb ρ ob) : Ev c (mA f (consM ma (consM mb nilM))) ρ (oa.bind fun x => ob.bind fun y => g x y) := fun z hz => by
  obtain ⟨x, h1, h2⟩ := ob_some hz
  obtain ⟨y, h3, h4⟩ := ob_some h2
  have := hf x y z h4
  simp only [ev_mA, LI.ev_cons, ha x h1, hb y h3, Option.bind_some, LI.ev_nil, Option.map_some]
  exact this
theorem o2_tot {f : D → D → Option D} {g : α → β → γ} (h : ∀ x y, f (a x) (b y) = some (c (g x y))) : O2 f a b c (fun x y => some (g x y)) := fun x y z hz => by cases hz; exact h x y
theorem o1_tot {f : D → Option D} {g : α → γ} (h : ∀ x, f (a x) = some (c (g x))) : O1 f a c (fun x => some (g x)) := fun x z hz => by cases hz; exact h x
end

def catS (x y : Ts) : Option Ts := if x.length + y.length ≤ LIM then some (x ++ y) else none
def catL {α : Type} (x y : List α) : Option (List α) := if x.length + y.length ≤ LIM then some (x ++ y) else none
def repS (x : Ts) (k : Int) : Option Ts := if k ≤ 1000000 ∧ -1000000 ≤ k ∧ x.length * k.toNat ≤ LIM then some (List.replicate k.toNat x).flatten else none
def mulT (x y : Int) : Option Int := if (-(2 ^ 64) < x ∧ x < 2 ^ 64) ∨ (-(2 ^ 64) < y ∧ y < 2 ^ 64) then some (x * y) else none
def modT (x y : Int) : Option Int := if 0 < y then some (x % y) else none
theorem o2_addI : O2 addD eI eI eI (fun x y => some (x + y)) := o2_tot fun _ _ => rfl
theorem o2_catS : O2 addD eS eS eS catS := fun x y z h => by
  unfold catS at h; split at h
  · cases h; simp [eS, addD, *]
  · cases h
theorem o2_catL {α : Type} {a : α → D} [Fz a] {o p : Bool} : O2 addD (eL o a) (eL p a) (eL true a) catL := fun x y z h => by
  unfold catL at h; split at h
  · cases h; simp [eL, addD, *, Fz.fz]
  · cases h
theorem o2_subI : O2 subD eI eI eI (fun x y => some (x - y)) := o2_tot fun _ _ => rfl
theorem o2_mul : O2 mulD eI eI eI mulT := fun x y z h => by
  unfold mulT at h; split at h
  · cases h; rename_i q; exact if_pos q
  · cases h
theorem o2_repS : O2 mulD eS eI eS repS := fun x y z h => by
  unfold repS at h; split at h
  · cases h; rename_i q; simp [eS, eI, mulD, q]
  · cases h
theorem o2_mod : O2 modD eI eI eI modT := fun x y z h => by
  unfold modT at h; split at h
  · cases h; rename_i q; exact if_pos q
  · cases h
theorem o1_neg : O1 negD eI eI (fun x => some (-x)) := o1_tot fun _ => rfl
section
variable {α β : Type} {e : α → D} {m ma mb : RM} {ρ : List D} {oa ob : Option Int}
def b64 (k : Int) : Bool := decide (-18446744073709551616 < k) && decide (k < 18446744073709551616)
theorem b64_in {k : Int} (h : b64 k = true) : -(2 ^ 64) < k ∧ k < 2 ^ 64 := by
  unfold b64 at h; simp at h; exact ⟨by omega, by omega⟩
theorem x_mulR (k : Int) (hk : b64 k = true) (ha : Ev eI ma ρ oa) : Ev eI (m2 mulD ma (kM (.int k))) ρ (oa.bind fun x => some (x * k)) := fun z hz => by
  obtain ⟨x, h1, h2⟩ := ob_some hz; cases h2
  rw [LI.ev_m2, ha x h1]; exact if_pos (.inr (b64_in hk))
theorem x_mulK (k : Int) (hk : b64 k = true) (ha : Ev eI ma ρ oa) : Ev eI (m2 mulD (kM (.int k)) ma) ρ (oa.bind fun x => some (k * x)) := fun z hz => by
  obtain ⟨x, h1, h2⟩ := ob_some hz; cases h2
  rw [LI.ev_m2, LI.ev_k, Option.bind_some, ha x h1]; exact if_pos (.inl (b64_in hk))
theorem log_lt {k : Int} (h : b64 k = true) : k.natAbs.log2 < 9000 := by
  have := b64_in h
  by_cases z : k.natAbs = 0
  · rw [z]; decide
  · have h1 : k.natAbs < 2 ^ 9000 := Nat.lt_of_lt_of_le (show k.natAbs < 2 ^ 65 by omega) (Nat.pow_le_pow_right (by decide) (by decide))
    exact (Nat.log2_lt z).mpr h1
theorem x_modP (k : Int) {mk : RM} (hk : decide (0 < k) = true) (ha : Ev eI ma ρ oa) (hm : Ev eI mk ρ (some k)) : Ev eI (m2 modD ma mk) ρ (oa.bind fun x => some (x % k)) := fun z hz => by
  obtain ⟨x, h1, h2⟩ := ob_some hz; cases h2
  rw [LI.ev_m2, ha x h1, hm k rfl]; exact if_pos (of_decide_eq_true hk)
theorem x_fdivP (k : Int) {mk : RM} (hk : (decide (0 < k) && b64 k) = true) (ha : Ev eI ma ρ oa) (hm : Ev eI mk ρ (some k)) : Ev eI (m2 fdivD ma mk) ρ (oa.bind fun x => some (x / k)) := fun z hz => by
  obtain ⟨x, h1, h2⟩ := ob_some hz; cases h2
  simp only [Bool.and_eq_true] at hk
  rw [LI.ev_m2, ha x h1, hm k rfl]; exact if_pos ⟨of_decide_eq_true hk.1, log_lt hk.2⟩
theorem x_pow (x y c : Int) (h : (decide (0 ≤ y) && decide (y ≤ 1000000) && b64 x && (x ^ y.toNat == c)) = true) : Ev eI (m2 powD (kM (.int x)) (kM (.int y))) ρ (some c) := fun z hz => by
  cases hz
  simp only [Bool.and_eq_true, beq_iff_eq] at h
  obtain ⟨⟨⟨h1, h2⟩, h3⟩, h4⟩ := h
  have := b64_in h3
  rw [LI.ev_m2, LI.ev_k, LI.ev_k, Option.bind_some, Option.bind_some, pow_int, if_pos ⟨of_decide_eq_true h1, of_decide_eq_true h2, by omega⟩, h4]; rfl
end

theorem o2_ltI : O2 ltD eI eI eB (fun x y => some (decide (x < y))) := o2_tot fun _ _ => rfl
theorem o2_leI : O2 leD eI eI eB (fun x y => some (decide (x ≤ y))) := o2_tot fun _ _ => rfl
theorem o2_gtI : O2 gtD eI eI eB (fun x y => some (decide (y < x))) := o2_tot fun _ _ => rfl
theorem o2_eq {α : Type} [DecidableEq α] {a b e' : α → D} {n : Nat} [Ic a e'] [Ic b e'] [Pe e' n] (hn : n ≤ 64) : O2 eqD a b eB (fun x y => some (decide (x = y))) := o2_tot fun x y => by
  unfold eqD; rw [eqB_pe (e' := e') hn]; rfl
theorem o2_ne {α : Type} [DecidableEq α] {a b e' : α → D} {n : Nat} [Ic a e'] [Ic b e'] [Pe e' n] (hn : n ≤ 64) : O2 neD a b eB (fun x y => some (!decide (x = y))) := o2_tot fun x y => by
  unfold neD; rw [eqB_pe (e' := e') hn]; rfl
def eqA (x y : An) : Option Bool := eqB x.d y.d
theorem o2_eqA : O2 eqD eA eA eB eqA := fun x y z h => by unfold eqA at h; simp [eqD, eA, h]; rfl
theorem o2_neA : O2 neD eA eA eB (fun x y => (eqA x y).bind fun k => some (!k)) := fun x y z h => by
  obtain ⟨k, h1, h2⟩ := ob_some h; cases h2; unfold eqA at h1; simp [neD, eA, h1]; rfl
class No {α : Type} (e : α → D) : Prop where
  no : ∀ x, isNo (e x) = some false
instance : No eI := ⟨fun _ => rfl⟩
section
variable {α β γ δ ε ζ : Type} {a : α → D} {b : β → D} {c : γ → D} {d : δ → D} {e : ε → D} {f : ζ → D} {o : Bool}
theorem o2_isN [No a] : O2 isD (eO a) eU eB (fun x _ => some x.isNone) := o2_tot fun x y => by
  cases x with
  | none => rfl
  | some x => simp [eO, eU, isD, No.no]; rfl
theorem o2_nisN [No a] : O2 nisD (eO a) eU eB (fun x _ => some x.isSome) := o2_tot fun x y => by
  cases x with
  | none => rfl
  | some x => simp [eO, eU, nisD, No.no]; rfl
end

section
variable {α : Type} {e : α → D} {m ma mb mc : RM} {ρ : List D} {o : Option α} {x y : Bool} {ta tb : BM} {oa ob : Option Bool}
theorem et_b {o : Option Bool} (h : Ev eB m ρ o) : Et (bM m) ρ o := fun z hz => by rw [ev_bM, h z hz]; rfl
theorem et_not (h : Et ta ρ oa) : Et (notB ta) ρ (oa.bind fun b => some (!b)) := fun z hz => by
  obtain ⟨x, h1, h2⟩ := ob_some hz; cases h2; rw [ev_notB, h x h1]; rfl
theorem et_and (h : Et ta ρ oa) (k : Et tb ρ ob) : Et (andB ta tb) ρ (oa.bind fun b => if b = true then ob else some false) := fun z hz => by
  obtain ⟨x, h1, h2⟩ := ob_some hz
  rw [ev_andB, h x h1, Option.bind_some]
  cases x with
  | true => rw [if_pos rfl] at h2 ⊢; exact k z h2
  | false => simpa using h2
theorem et_or (h : Et ta ρ oa) (k : Et tb ρ ob) : Et (orB ta tb) ρ (oa.bind fun b => if b = true then some true else ob) := fun z hz => by
  obtain ⟨x, h1, h2⟩ := ob_some hz
  rw [ev_orB, h x h1, Option.bind_some]
  cases x with
  | true => simpa using h2
  | false => simp at h2 ⊢; exact k z h2
theorem et_andT (h : Et ta ρ (some x)) (k : Et tb ρ (some y)) : Et (andB ta tb) ρ (some (x && y)) := fun z hz => by
  cases hz; rw [ev_andB, h x rfl, Option.bind_some]; cases x <;> simp [k y rfl]
theorem et_orT (h : Et ta ρ (some x)) (k : Et tb ρ (some y)) : Et (orB ta tb) ρ (some (x || y)) := fun z hz => by
  cases hz; rw [ev_orB, h x rfl, Option.bind_some]; cases x <;> simp [k y rfl]
theorem x_andT (h : Ev eB ma ρ (some x)) (k : Ev eB mb ρ (some y)) : Ev eB (andM ma mb) ρ (some (x && y)) := fun z hz => by
  cases hz; rw [ev_andM, et_b h x rfl, Option.bind_some]; cases x <;> simp [k y rfl] <;> rfl
class Tr {α : Type} (e : α → D) (t : outParam (α → Option Bool)) : Prop where
  tr : ∀ x z, t x = some z → truD (e x) = some z
instance : Tr eB (fun x => some x) := ⟨fun x z h => by cases h; rfl⟩
theorem et_tru {t : α → Option Bool} [Tr e t] (h : Ev e m ρ o) : Et (truM m) ρ (o.bind t) := fun z hz => by
  obtain ⟨x, h1, h2⟩ := ob_some hz; rw [ev_tru, h x h1]; exact Tr.tr x z h2
theorem x_not {t : α → Option Bool} [Tr e t] (h : Ev e m ρ o) : Ev eB (notD m) ρ ((o.bind t).bind fun b => some (!b)) := fun z hz => by
  obtain ⟨y, h1, h2⟩ := ob_some hz; cases h2
  have := et_tru (t := t) h y h1
  rw [ev_tru] at this
  rw [ev_notD, this]; rfl
end
section
variable {α β γ : Type} {a : α → D} {b : β → D} {c : γ → D} {f g : D → D → Option D} {ma mb mc : RM} {ρ : List D} {oa : Option α} {ob : Option β} {oc : Option γ}
theorem x_ch {p : α → β → Option Bool} {q : β → γ → Option Bool} (hf : O2 f a b eB p) (hg : O2 g b c eB q) (ha : Ev a ma ρ oa) (hb : Ev b mb ρ ob) (hc : Ev c mc ρ oc) :
    Ev eB (chM f g ma mb mc) ρ (oa.bind fun x => ob.bind fun y => (p x y).bind fun k => if k = true then oc.bind fun z => q y z else some false) := fun z hz => by
  obtain ⟨x, h1, h2⟩ := ob_some hz
  obtain ⟨y, h3, h4⟩ := ob_some h2
  obtain ⟨k, h5, h6⟩ := ob_some h4
  rw [LI.ev_ch, ha x h1, Option.bind_some, hb y h3, Option.bind_some, hf x y k h5, Option.bind_some]
  cases k with
  | false => simp at h6; subst h6; rfl
  | true =>
    rw [if_pos rfl] at h6
    obtain ⟨u, h7, h8⟩ := ob_some h6
    show (mc ρ).bind _ = _
    rw [hc u h7, Option.bind_some, hg y u z h8]
theorem x_chT {p : α → β → Bool} {q : β → γ → Bool} {x : α} {y : β} {z : γ} (hf : O2 f a b eB (fun x y => some (p x y))) (hg : O2 g b c eB (fun x y => some (q x y))) (ha : Ev a ma ρ (some x)) (hb : Ev b mb ρ (some y)) (hc : Ev c mc ρ (some z)) :
    Ev eB (chM f g ma mb mc) ρ (some (p x y && q y z)) := fun u hu => by
  cases hu
  have := x_ch hf hg ha hb hc (p x y && q y z) (by cases h : p x y <;> simp [h])
  exact this
end

def ixS (s : Ts) (i : Int) : Option Ts := if s.length ≤ LIM then (atI s i).map fun c => [c] else none
theorem o2_ixL {α : Type} {a : α → D} {o : Bool} : O2 ixD (eL o a) eI a (fun xs i => atI xs i) := fun x y z h => by
  show atI (x.map a) y = _
  rw [atI_map]; simp [h]
theorem o2_ixC : O2 ixD eC eI eI (fun xs i => atI xs i) := fun x y z h => by show (atI x y).map D.int = _; simp [h]; rfl
theorem o2_ixS : O2 ixD eS eI eS ixS := fun x y z h => by
  unfold ixS at h; split at h
  · rename_i q
    cases w : atI x y with
    | none => rw [w] at h; cases h
    | some c =>
      rw [w] at h; cases h
      show (if (x.map Char.toNat).length ≤ LIM then (atI (x.map Char.toNat) y).map fun k => D.str [k] else none) = _
      rw [if_pos (by simpa using q), atI_map, w]; rfl
  · cases h
theorem x_pr {α β : Type} {e : α → D} {f : β → D} {m : RM} {ρ : List D} {o : Option α} (k : Int) (p : α → β) (hp : ∀ x, ixD (e x) (.int k) = some (f (p x))) (h : Ev e m ρ o) : Ev f (m2 ixD m (kM (.int k))) ρ (o.bind fun x => some (p x)) := fun z hz => by
  obtain ⟨x, h1, h2⟩ := ob_some hz; cases h2
  rw [LI.ev_m2, h x h1, Option.bind_some, LI.ev_k, Option.bind_some, hp]
theorem eo_no {ρ : List D} : Eo noM ρ (some none) := fun x h => by cases h; rfl
theorem eo_so {m : RM} {ρ : List D} {o : Option Int} (h : Ev eI m ρ o) : Eo (soM m) ρ (o.bind fun x => some (some x)) := fun z hz => by
  obtain ⟨x, h1, h2⟩ := ob_some hz; cases h2
  rw [ev_soM, h x h1]; rfl
class Sl {α : Type} {β : outParam Type} (e : α → D) (f : outParam (β → D)) (g : outParam (Option Int → Option Int → α → Option β)) : Prop where
  sl : ∀ lo hi x z, g lo hi x = some z → slD lo hi (e x) = some (f z)
instance {α : Type} {a : α → D} {o : Bool} [Fz a] : Sl (eL o a) (eL true a) (fun lo hi xs => some (cutL xs lo hi)) := ⟨fun lo hi x z h => by cases h; simp [eL, slD, Fz.fz, cutL_map]⟩
theorem x_sl {α β : Type} {e : α → D} {f : β → D} {g : Option Int → Option Int → α → Option β} [Sl e f g] {m : RM} {lo hi : OM} {ρ : List D} {o : Option α} {ol oh : Option (Option Int)} (h : Ev e m ρ o) (hl : Eo lo ρ ol) (hh : Eo hi ρ oh) :
    Ev f (slM m lo hi) ρ (o.bind fun x => ol.bind fun l => oh.bind fun h => g l h x) := fun z hz => by
  obtain ⟨x, h1, h2⟩ := ob_some hz
  obtain ⟨y, h3, h4⟩ := ob_some h2
  obtain ⟨u, h5, h6⟩ := ob_some h4
  rw [ev_slM, h x h1, Option.bind_some, hl y h3, Option.bind_some, hh u h5, Option.bind_some, Sl.sl y u x z h6]
def eV {α : Type} (e : α → D) (xs : List α) : D := .tup (xs.map e)
instance {α : Type} {a : α → D} : Ng (eV a) := ⟨fun _ => rfl⟩
instance {α : Type} {a : α → D} [Fz a] : Fz (eV a) := ⟨fun x => by simp [eV, Fz.fz]⟩
instance {α : Type} {a a' : α → D} [Ic a a'] : Ic (eV a) (eV a') := ⟨fun x => by simp [eV, Ic.ic (e := a)]⟩
instance {α : Type} {a : α → D} [Fz a] : Sl (eV a) (eV a) (fun lo hi xs => some (cutL xs lo hi)) := ⟨fun lo hi x z h => by cases h; simp [eV, slD, Fz.fz, cutL_map]⟩
theorem o2_ixV {α : Type} {a : α → D} : O2 ixD (eV a) eI a (fun xs i => atI xs i) := fun x y z h => by
  show atI (x.map a) y = _
  rw [atI_map]; simp [h]
def inS (x z : Ts) : Option Bool := match x with | [c] => some (decide (c ∈ z)) | _ => none
theorem mem_toNat {c : Char} {z : Ts} : c.toNat ∈ z.map Char.toNat ↔ c ∈ z := by
  rw [List.mem_map]
  exact ⟨fun ⟨x, h1, h2⟩ => toNat_inj h2 ▸ h1, fun h => ⟨c, h, rfl⟩⟩
theorem inB_S {x z : Ts} {k : Bool} (h : inS x z = some k) : inB (eS x) (eS z) = some k := by
  unfold inS at h
  split at h
  · cases h
    show some (decide (Char.toNat _ ∈ z.map Char.toNat)) = _
    congr 1
    exact decide_eq_decide.mpr mem_toNat
  · cases h
def memT {α : Type} [DecidableEq α] (x : α) (xs : List α) : Bool := decide (x ∈ xs)
class In {α β : Type} (a : α → D) (b : β → D) (g : outParam (α → β → Option Bool)) : Prop where
  is : ∀ x y k, g x y = some k → inB (a x) (b y) = some k
instance : In eS eS inS := ⟨fun _ _ _ h => inB_S h⟩
instance : In eS eK (fun x ss => some (memT x ss)) := ⟨fun x y k h => by
  cases h; unfold memT
  have : inB (eS x) (eK y) = some ((y.map fun s => s.map Char.toNat).any fun u => u == x.map Char.toNat) := by
    unfold eS eK
    rcases x with _ | ⟨c, _ | ⟨c2, t⟩⟩ <;> rfl
  rw [this]
  congr 1
  rw [Bool.eq_iff_iff]
  simp only [List.any_eq_true, List.mem_map, beq_iff_eq, decide_eq_true_iff]
  exact ⟨fun ⟨u, ⟨s, h1, h2⟩, h3⟩ => by rw [← h2, ts_map_inj] at h3; rw [← h3]; exact h1, fun h => ⟨_, ⟨x, h, rfl⟩, rfl⟩⟩⟩
theorem o2_in {α β : Type} {a : α → D} {b : β → D} {g : α → β → Option Bool} [In a b g] : O2 inD a b eB g := fun x y z h => by
  unfold inD; rw [In.is x y z h]; rfl
def lenS (s : Ts) : Option Int := if s.length ≤ LIM then some (s.length : Int) else none
theorem o1_lenL {α : Type} {a : α → D} {o : Bool} : O1 (fun d => lenD [d]) (eL o a) eI (fun xs => some (xs.length : Int)) := o1_tot fun x => by simp [eL, lenD]; rfl
theorem o1_lenC : O1 (fun d => lenD [d]) eC eI (fun xs => some (xs.length : Int)) := o1_tot fun x => rfl
theorem o1_lenS : O1 (fun d => lenD [d]) eS eI lenS := fun x z h => by
  unfold lenS at h; split at h
  · cases h; simp [eS, lenD, *]; rfl
  · cases h
theorem o1_lenK {α : Type} {a : α → D} {n : Int} (h : ∀ x, lenD [a x] = some (.int n)) : O1 (fun d => lenD [d]) a eI (fun _ => some n) := o1_tot fun x => h x
theorem o2_max : O2 (fun x y => max2D [x, y]) eI eI eI (fun x y => some (max x y)) := o2_tot fun x y => by
  show some (D.int (if y > x then y else x)) = some (D.int (max x y))
  congr 2; rw [Int.max_def]; split <;> split <;> omega
theorem o2_min : O2 (fun x y => min2D [x, y]) eI eI eI (fun x y => some (min x y)) := o2_tot fun x y => by
  show some (D.int (if y < x then y else x)) = some (D.int (min x y))
  congr 2; rw [Int.min_def]; split <;> split <;> omega
def b01 (b : Bool) : Int := if b = true then 1 else 0
theorem o1_intB : O1 (fun d => intD [d]) eB eI (fun x => some (b01 x)) := o1_tot fun _ => rfl
theorem o1_sum {o : Bool} : O1 (fun d => sumD [d]) (eL o eI) eI (fun xs => some xs.sum) := o1_tot fun x => by
  show (intsD (x.map D.int)).map _ = _
  rw [ints_map (f := fun i => i)]; simp; rfl
theorem o1_listL {α : Type} {a : α → D} [Fz a] {o : Bool} : O1 (fun d => listD [d]) (eL o a) (eL true a) (fun x => some x) := o1_tot fun x => by simp [eL, listD, Fz.fz]
def joinT (sep : Ts) : List Ts → Ts
  | [] => []
  | [s] => s
  | s :: ss => s ++ sep ++ joinT sep ss
def joinS (sep : Ts) (ss : List Ts) : Option Ts := if (ss.map List.length).sum + ss.length * sep.length ≤ LIM then some (joinT sep ss) else none
theorem strsOf_ts : ∀ ss : List Ts, strsOf (ss.map eS) = some (ss.map fun s => s.map Char.toNat)
  | [] => rfl
  | s :: ss => by show (strsOf (ss.map eS)).map _ = _; rw [strsOf_ts ss]; rfl
theorem joinT_map (sep : Ts) : ∀ ss : List Ts, TL.joinL (sep.map Char.toNat) (ss.map fun s => s.map Char.toNat) = (joinT sep ss).map Char.toNat
  | [] => rfl
  | [s] => rfl
  | s :: t :: ss => by
    have := joinT_map sep (t :: ss)
    simp only [List.map_cons] at this ⊢
    simp [TL.joinL, joinT, this]
theorem o2_join {o : Bool} : O2 joinD2 eS (eL o eS) eS joinS := fun x y z h => by
  unfold joinS at h; split at h
  · rename_i q
    cases h
    show (strsOf (y.map eS)).bind _ = _
    rw [strsOf_ts, Option.bind_some, if_pos, joinT_map]
    · rfl
    · have : (y.map fun s => s.map Char.toNat).map List.length = y.map List.length := by rw [List.map_map]; apply List.map_congr_left; intro s _; simp
      rw [this, List.length_map, List.length_map]; exact q
  · cases h
theorem x_isi {α : Type} {e : α → D} {ty : String} {m : RM} {ρ : List D} {o : Option α} (k : α → Bool) (hk : ∀ x, ((tyD (e x)).bind fun t => kitB t ty) = some (k x)) (h : Ev e m ρ o) : Ev eB (isiM ty m) ρ (o.bind fun x => some (k x)) := fun z hz => by
  obtain ⟨x, h1, h2⟩ := ob_some hz; cases h2
  have := hk x
  rw [LI.ev_isi, h x h1, Option.bind_some]
  cases w : tyD (e x) with
  | none => rw [w] at this; cases this
  | some t => rw [w, Option.bind_some] at this; rw [Option.bind_some, this]; rfl
section
variable {α τ β : Type} {e e' : α → D} {et et' : τ → List D} {z : Bool} {m : RM} {ms : AM} {ρ : List D} {o : Option α} {os : Option τ}
theorem ea_nil : Ea (τ := Unit) (fun _ => []) (fun _ => []) true nilM ρ (some ()) := ⟨fun x h => by cases h; rfl, fun _ => rfl, fun _ _ => rfl⟩
theorem ea_cons [Ic e e'] [Fz e] (h : Ev e m ρ o) (hs : Ea et et' z ms ρ os) : Ea (fun t : α × τ => e t.1 :: et t.2) (fun t => e' t.1 :: et' t.2) z (consM m ms) ρ (o.bind fun x => os.bind fun xs => some (x, xs)) :=
  ⟨fun x hx => by
    obtain ⟨y, h1, h2⟩ := ob_some hx
    obtain ⟨ys, h3, h4⟩ := ob_some h2
    cases h4
    rw [LI.ev_cons, h y h1, Option.bind_some, hs.run ys h3]; rfl, fun x => by rw [iceL_cons, Ic.ic (e := e), hs.ic], fun hz x => by rw [fzL_cons, Fz.fz, hs.fz hz]; rfl⟩
theorem ea_consW [Ic e e'] (h : Ev e m ρ o) (hs : Ea et et' z ms ρ os) : Ea (fun t : α × τ => e t.1 :: et t.2) (fun t => e' t.1 :: et' t.2) false (consM m ms) ρ (o.bind fun x => os.bind fun xs => some (x, xs)) :=
  ⟨fun x hx => by
    obtain ⟨y, h1, h2⟩ := ob_some hx
    obtain ⟨ys, h3, h4⟩ := ob_some h2
    cases h4
    rw [LI.ev_cons, h y h1, Option.bind_some, hs.run ys h3]; rfl, fun x => by rw [iceL_cons, Ic.ic (e := e), hs.ic], fun hz => by cases hz⟩
theorem x_tup {f : β → D} (k : τ → β) (hs : Ea et et' true ms ρ os) (hk : ∀ t, f (k t) = .tup (et t)) (hl : ∀ t, (et t).length ≤ LIM) : Ev f (tupM ms) ρ (os.bind fun t => some (k t)) := fun x hx => by
  obtain ⟨t, h1, h2⟩ := ob_some hx; cases h2
  rw [LI.ev_tup, hs.run t h1, Option.bind_some, if_pos ⟨hs.fz rfl t, hl t⟩, hk]
theorem x_lst {f : β → D} (k : τ → β) (hs : Ea et et' true ms ρ os) (hk : ∀ t, f (k t) = .lst true (et t)) (hl : ∀ t, (et t).length ≤ LIM) : Ev f (lstM ms) ρ (os.bind fun t => some (k t)) := fun x hx => by
  obtain ⟨t, h1, h2⟩ := ob_some hx; cases h2
  rw [LI.ev_lst, hs.run t h1, Option.bind_some, if_pos ⟨hs.fz rfl t, hl t⟩, hk]
def Tf {σ : Type} (et' : τ → List D) (er : σ → D) (F : FM) (t : τ → Option σ) : Prop := ∀ x r, t x = some r → ∃ ds', F (et' x) = some (er r, ds')
theorem x_call {σ : Type} {er : σ → D} {F : FM} {t : τ → Option σ} (hT : Tf et' er F t) (hs : Ea et et' true ms ρ os) : Ev er (callM F ms) ρ (os.bind t) := fun r hr => by
  obtain ⟨x, h1, h2⟩ := ob_some hr
  obtain ⟨ds', h3⟩ := hT x r h2
  rw [LI.ev_call, hs.run x h1, Option.bind_some, hs.ic, h3, Option.bind_some, if_pos (.inl (hs.fz rfl x))]
theorem x_callF {σ : Type} {er : σ → D} {F : FM} {t : τ → Option σ} [Nic er] (hT : Tf et' er F t) (hs : Ea et et' z ms ρ os) : Ev er (callM F ms) ρ (os.bind t) := fun r hr => by
  obtain ⟨x, h1, h2⟩ := ob_some hr
  obtain ⟨ds', h3⟩ := hT x r h2
  rw [LI.ev_call, hs.run x h1, Option.bind_some, hs.ic, h3, Option.bind_some, if_pos (.inr (Nic.ni r))]
theorem x_callV {σ : Type} {er : σ → D} {F : FM} {t : τ → Option σ} (hT : Tf et' er F t) (hs : Ea et et' z ms ρ os) : Ev er (callVM F ms) ρ (os.bind t) := fun r hr => by
  obtain ⟨x, h1, h2⟩ := ob_some hr
  obtain ⟨ds', h3⟩ := hT x r h2
  rw [LI.ev_callV, hs.run x h1, Option.bind_some, hs.ic, h3]; rfl
end

def rngT (n : Int) : Option (List Int) := if -(2 ^ 62) ≤ n ∧ n < 2 ^ 62 then some ((List.range n.toNat).map fun (k : Nat) => (k : Int)) else none
def rng2T (i j : Int) : Option (List Int) := if -(2 ^ 62) ≤ i ∧ i < 2 ^ 62 ∧ -(2 ^ 62) ≤ j ∧ j < 2 ^ 62 then some ((List.range (j - i).toNat).map fun (k : Nat) => i + (k : Int)) else none
class It1 {α : Type} {β : outParam Type} (e : α → D) (f : outParam (β → D)) (g : outParam (α → List β)) : Prop where
  it : ∀ x, itemsV (e x) = some ((g x).map f)
  fr : ∀ x, frz (e x) = true → itemsD (e x) = some ((g x).map f)
def chars (s : Ts) : List Ts := s.map fun c => [c]
instance {α : Type} {a : α → D} [Fz a] {o : Bool} : It1 (eL o a) a (fun x => x) := ⟨fun x => by simp [eL, itemsV, Fz.fz], fun x h => by
  cases o with
  | true => simp [eL] at h
  | false => simp [eL, itemsD, Fz.fz]⟩
theorem chars_map (s : Ts) : strsD (s.map Char.toNat) = (chars s).map eS := by
  unfold strsD chars; rw [List.map_map, List.map_map]; rfl
instance : It1 eS eS chars := ⟨fun x => by show some (strsD _) = _; rw [chars_map], fun x _ => by show some (strsD _) = _; rw [chars_map]⟩
section
variable {α β γ δ : Type} {e : α → D} {f : β → D} {g : α → List β} {m ma mb : RM} {ρ : List D} {o : Option α}
theorem ei_it [It1 e f g] [Fz e] (h : Ev e m ρ o) : Ei f (itM m) ρ (o.bind fun x => some (g x)) := fun z hz => by
  obtain ⟨x, h1, h2⟩ := ob_some hz; cases h2
  rw [ev_it, h x h1]; exact It1.fr x (Fz.fz x)
theorem ei_itV [It1 e f g] (h : Ev e m ρ o) : Ei f (itV m) ρ (o.bind fun x => some (g x)) := fun z hz => by
  obtain ⟨x, h1, h2⟩ := ob_some hz; cases h2
  rw [ev_itV, h x h1]; exact It1.it x
theorem ei_rng1 {o : Option Int} (h : Ev eI m ρ o) : Ei eI (rng1M m) ρ (o.bind rngT) := fun z hz => by
  obtain ⟨x, h1, h2⟩ := ob_some hz
  unfold rngT at h2; split at h2
  · rename_i q
    cases h2
    rw [ev_rng1, h x h1]
    show rng1D (.int x) = _
    show (if -(2 ^ 62) ≤ x ∧ x < 2 ^ 62 then some (upD 0 x.toNat) else none) = _
    rw [if_pos q, upD0, List.map_map]; rfl
  · cases h2
theorem ei_rng2 {oa ob : Option Int} (h : Ev eI ma ρ oa) (k : Ev eI mb ρ ob) : Ei eI (rng2M ma mb) ρ (oa.bind fun x => ob.bind fun y => rng2T x y) := fun z hz => by
  obtain ⟨x, h1, h2⟩ := ob_some hz
  obtain ⟨y, h3, h4⟩ := ob_some h2
  unfold rng2T at h4; split at h4
  · rename_i q
    cases h4
    rw [ev_rng2, h x h1, Option.bind_some, k y h3]
    show rng2D (.int x) (.int y) = _
    show (if -(2 ^ 62) ≤ x ∧ x < 2 ^ 62 ∧ -(2 ^ 62) ≤ y ∧ y < 2 ^ 62 then some (upD x (y - x).toNat) else none) = _
    rw [if_pos q, upD_eq, List.map_map]; rfl
  · cases h4
end
def compG {α β : Type} (p : α → Option Bool) (g : α → Option β) : List α → Option (List β)
  | [] => some []
  | x :: xs => (p x).bind fun k => if k = true then (g x).bind fun y => (compG p g xs).bind fun ys => some (y :: ys) else compG p g xs
def compT {α β : Type} (p : α → Option Bool) (g : α → Option β) (xs : List α) : Option (List β) := if xs.length ≤ LIM then compG p g xs else none
theorem compL_T {α β : Type} {e : α → D} {f : β → D} [Fz f] {t : TgM} {mc : BM} {me : RM} {ρ0 : List D} {env : α → List D} {p : α → Option Bool} {g : α → Option β} (ht : ∀ x, t (e x) ρ0 = some (env x)) (hc : ∀ x, Et mc (env x) (p x)) (he : ∀ x, Ev f me (env x) (g x)) :
    ∀ (xs : List α) (ys : List β), compG p g xs = some ys → compL t mc me ρ0 (xs.map e) = some (ys.map f)
  | [], ys, h => by cases h; rfl
  | x :: xs, ys, h => by
    obtain ⟨k, h1, h2⟩ := ob_some h
    rw [List.map_cons, compL, ht, Option.bind_some, hc x k h1, Option.bind_some]
    cases k with
    | true =>
      rw [if_pos rfl] at h2 ⊢
      obtain ⟨y, h3, h4⟩ := ob_some h2
      obtain ⟨zs, h5, h6⟩ := ob_some h4
      cases h6
      rw [he x y h3, Option.bind_some, if_pos (Fz.fz y), compL_T ht hc he xs zs h5]; rfl
    | false =>
      simp only [if_neg Bool.false_ne_true] at h2 ⊢
      exact compL_T ht hc he xs ys h2
theorem x_comp {α β : Type} {e : α → D} {f : β → D} [Fz f] {vs : List Nat} {t : TgM} {mc : BM} {me : RM} {ms : AM} {ρ : List D} {p : α → Option Bool} {g : α → Option β} {o : Option (List α)} (env : α → List D) (hi : Ei e ms ρ o) (ht : ∀ x, t (e x) (goneAt ρ vs) = some (env x)) (hc : ∀ x, Et mc (env x) (p x)) (he : ∀ x, Ev f me (env x) (g x)) :
    Ev (eL true f) (compM vs t mc me ms) ρ (o.bind fun xs => compT p g xs) := fun ys hy => by
  obtain ⟨xs, h1, h2⟩ := ob_some hy
  unfold compT at h2; split at h2
  · rename_i q
    rw [LI.ev_comp, hi xs h1, Option.bind_some, if_pos (by simpa using q), compL_T ht hc he xs ys h2]; rfl
  · cases h2
theorem et_yes {ρ : List D} : Et yesB ρ (some true) := fun x h => by cases h; rfl
end LI

namespace LI
open PySem L2

def Bk {τ : Type} (Q : Fl → List D → τ → Prop) (m : SM) (ρ : List D) (o : Option τ) : Prop := ∀ t, o = some t → ∃ fl ρ', m ρ = some (fl, ρ') ∧ Q fl ρ' t
def nxB : Fl → Bool
  | .nx => true | _ => false
def goB : Fl → Bool
  | .nx => true | .ct => true | _ => false
def rtB : Fl → Bool
  | .rt _ => true | .ex _ _ _ => true | _ => false
def Qn {τ : Type} (Q : Fl → List D → τ → Prop) : Fl → List D → τ → Prop := fun fl ρ t => nxB fl = false ∧ Q fl ρ t
def Qj {σ : Type} (kl : List Nat) (env : σ → List D) : Fl → List D → σ → Prop := fun fl ρ s => nxB fl = true ∧ goneAt ρ kl = env s
def Qm {σ τ : Type} (kl : List Nat) (env : σ → List D) (Q : Fl → List D → τ → Prop) : Fl → List D → σ ⊕ τ → Prop := fun fl ρ t => match t with
  | .inl s => nxB fl = true ∧ goneAt ρ kl = env s
  | .inr t => nxB fl = false ∧ Q fl ρ t
def Ql {σ : Type} (kl : List Nat) (env : σ → List D) : Fl → List D → σ → Prop := fun fl ρ s => goB fl = true ∧ goneAt ρ kl = env s
inductive St (σ τ : Type) where
  | nx (s : σ) | bk (s : σ) | rt (t : τ)
def Qs {σ τ : Type} (kl : List Nat) (env : σ → List D) (Q : Fl → List D → τ → Prop) : Fl → List D → St σ τ → Prop := fun fl ρ t => match t with
  | .nx s => goB fl = true ∧ goneAt ρ kl = env s
  | .bk s => fl = .bk ∧ goneAt ρ kl = env s
  | .rt t => rtB fl = true ∧ Q fl ρ t
def Qf {τ : Type} (e : τ → D) (kp : List Bool) (mk : τ → List D) : Fl → List D → τ → Prop := fun fl ρ r => (fl = .rt (e r) ∨ (fl = .nx ∧ e r = .non)) ∧ maskL kp ρ = mk r

def seqT {σ τ : Type} (u : σ ⊕ τ) (k : σ → Option τ) : Option τ := match u with
  | .inl s => k s
  | .inr t => some t
theorem nxB_nx {fl : Fl} (h : nxB fl = true) : fl = .nx := by cases fl <;> first | rfl | cases h
section
variable {α β σ τ : Type} {Q : Fl → List D → τ → Prop} {e e' : α → D} {env : α → List D} {m r a b : SM} {g : GM} {mm : RM} {ρ : List D} {o : Option α} {oc : Option Bool} {c : BM} {k : α → Option τ}
theorem eg_f (h : Ev e mm ρ o) : Eg e (fun _ => ρ) (upF mm) ρ o := fun x hx => by rw [ev_upF, h x hx]; rfl
theorem eg_r [Fz e] (h : Ev e mm ρ o) : Eg e (fun _ => ρ) (upR mm) ρ o := fun x hx => by rw [ev_upR, h x hx, Option.bind_some, if_pos (Fz.fz x)]
theorem eg_mv {L : Lens} (e : α → D) (x : α) (ρ' : List D) (h : L.get ρ = some (e x)) (h2 : L.put ρ .gone = ρ') : Eg e (fun _ => ρ') (mvM L) ρ (some x) := fun y hy => by
  cases hy; rw [LI.ev_mv, h, Option.bind_some, h2]
theorem b_asg {f : TgM} (env2 : α → List D) (h : Eg e env g ρ o) (hf : ∀ x, f (e x) (env x) = some (env2 x)) (h2 : ∀ x, Bk Q m (env2 x) (k x)) : Bk Q (seqM (asgM f g) m) ρ (o.bind k) := fun t ht => by
  obtain ⟨x, h3, h4⟩ := ob_some ht
  obtain ⟨fl, ρ', h5, h6⟩ := h2 x t h4
  refine ⟨fl, ρ', ?_, h6⟩
  unfold seqM asgM
  rw [h x h3, Option.bind_some, hf]
  exact h5
theorem b_asgI {f : TgM} {i : Nat} (env2 : α → List D) (h : Eg e env g ρ o) (hf : ∀ x, (f (e x) (env x)).map (iceAt i) = some (env2 x)) (h2 : ∀ x, Bk Q m (env2 x) (k x)) : Bk Q (seqM (iceM i (asgM f g)) m) ρ (o.bind k) := fun t ht => by
  obtain ⟨x, h3, h4⟩ := ob_some ht
  obtain ⟨fl, ρ', h5, h6⟩ := h2 x t h4
  refine ⟨fl, ρ', ?_, h6⟩
  have := hf x
  cases w : f (e x) (env x) with
  | none => rw [w] at this; cases this
  | some ρ1 =>
    rw [w] at this
    have e2 : iceAt i ρ1 = env2 x := Option.some.inj this
    rw [← e2] at h5
    unfold seqM iceM asgM
    rw [h x h3, Option.bind_some, w]
    exact h5
theorem b_expr (h : Eg e env g ρ o) (h2 : ∀ x, Bk Q m (env x) (k x)) : Bk Q (seqM (exprM g) m) ρ (o.bind k) := fun t ht => by
  obtain ⟨x, h3, h4⟩ := ob_some ht
  obtain ⟨fl, ρ', h5, h6⟩ := h2 x t h4
  refine ⟨fl, ρ', ?_, h6⟩
  unfold seqM exprM
  rw [h x h3]
  exact h5
theorem b_ret {k : α → τ} (h : Eg e env g ρ o) (h2 : ∀ x, Q (.rt (e x)) (env x) (k x)) : Bk Q (seqM (retM g) m) ρ (o.bind fun x => some (k x)) := fun t ht => by
  obtain ⟨x, h3, h4⟩ := ob_some ht
  cases h4
  refine ⟨_, _, ?_, h2 x⟩
  unfold seqM retM
  rw [h x h3]; rfl
theorem b_retI {e : τ → D} {env : τ → List D} {o : Option τ} (h : Eg e env g ρ o) (h2 : ∀ x, Q (.rt (e x)) (env x) x) : Bk Q (seqM (retM g) m) ρ o := fun t ht => by
  refine ⟨_, _, ?_, h2 t⟩
  unfold seqM retM
  rw [h t ht]; rfl
theorem b_nil {t : τ} (h : Q .nx ρ t) : Bk Q skipM ρ (some t) := fun t' ht => by cases ht; exact ⟨_, _, rfl, h⟩
theorem b_bk {t : τ} (h : Q .bk ρ t) : Bk Q (seqM bkM m) ρ (some t) := fun t' ht => by cases ht; exact ⟨_, _, rfl, h⟩
theorem b_never {a : SM} : Bk Q a ρ none := fun t ht => by cases ht
theorem b_ifT {oa ob : Option τ} (hc : Et c ρ oc) (ha : Bk (Qn Q) a ρ oa) (hr : Bk Q r ρ ob) : Bk Q (seqM (ifM c a skipM) r) ρ (oc.bind fun k => if k = true then oa else ob) := fun t ht => by
  obtain ⟨x, h1, h2⟩ := ob_some ht
  cases x with
  | true =>
    rw [if_pos rfl] at h2
    obtain ⟨fl, ρ', h3, h4, h5⟩ := ha t h2
    refine ⟨fl, ρ', ?_, h5⟩
    unfold seqM ifM
    rw [hc _ h1, Option.bind_some, if_pos rfl, h3]
    cases fl <;> first | rfl | cases h4
  | false =>
    simp at h2
    obtain ⟨fl, ρ', h3, h4⟩ := hr t h2
    refine ⟨fl, ρ', ?_, h4⟩
    unfold seqM ifM
    rw [hc _ h1, Option.bind_some, if_neg Bool.false_ne_true]
    exact h3
theorem b_join {kl : List Nat} (env : σ → List D) {oa ob : Option σ} {k : σ → Option τ} (hc : Et c ρ oc) (ha : Bk (Qj kl env) a ρ oa) (hb : Bk (Qj kl env) b ρ ob) (hr : ∀ s, Bk Q r (env s) (k s)) : Bk Q (seqM (ifM c a b) (killM kl r)) ρ (oc.bind fun x => (if x = true then oa else ob).bind k) := fun t ht => by
  obtain ⟨x, h1, h2⟩ := ob_some ht
  obtain ⟨s, h3, h4⟩ := ob_some h2
  obtain ⟨fl, ρ', h5, h6⟩ := hr s t h4
  have main : ∀ m : SM, Bk (Qj kl env) m ρ (if x = true then oa else ob) → ifM c a b ρ = m ρ → ∃ fl ρ', seqM (ifM c a b) (killM kl r) ρ = some (fl, ρ') ∧ Q fl ρ' t := fun m hm he => by
    obtain ⟨f2, ρ2, h7, h8, h9⟩ := hm s h3
    refine ⟨fl, ρ', ?_, h6⟩
    unfold seqM
    rw [he, h7, nxB_nx h8]
    show r (goneAt ρ2 kl) = _
    rw [h9]; exact h5
  cases x with
  | true => exact main a ha (if_T (hc _ h1))
  | false => exact main b hb (if_F (hc _ h1))
theorem b_mix {kl : List Nat} (env : σ → List D) {oa ob : Option (σ ⊕ τ)} {k : σ → Option τ} (hc : Et c ρ oc) (ha : Bk (Qm kl env Q) a ρ oa) (hb : Bk (Qm kl env Q) b ρ ob) (hr : ∀ s, Bk Q r (env s) (k s)) :
    Bk Q (seqM (ifM c a b) (killM kl r)) ρ (oc.bind fun x => (if x = true then oa else ob).bind fun u => seqT u k) := fun t ht => by
  obtain ⟨x, h1, h2⟩ := ob_some ht
  obtain ⟨u, h3, h4⟩ := ob_some h2
  have main : ∀ m : SM, Bk (Qm kl env Q) m ρ (if x = true then oa else ob) → ifM c a b ρ = m ρ → ∃ fl ρ', seqM (ifM c a b) (killM kl r) ρ = some (fl, ρ') ∧ Q fl ρ' t := fun m hm he => by
    obtain ⟨f2, ρ2, h7, h8⟩ := hm u h3
    cases u with
    | inl s =>
      obtain ⟨fl, ρ', h5, h6⟩ := hr s t h4
      refine ⟨fl, ρ', ?_, h6⟩
      unfold seqM
      rw [he, h7, nxB_nx h8.1]
      show r (goneAt ρ2 kl) = _
      rw [h8.2]; exact h5
    | inr t2 =>
      cases h4
      refine ⟨f2, ρ2, ?_, h8.2⟩
      unfold seqM
      rw [he, h7]
      cases f2 <;> first | rfl | cases h8.1
  cases x with
  | true => exact main a ha (if_T (hc _ h1))
  | false => exact main b hb (if_F (hc _ h1))
end

def foldT {σ α : Type} (g : σ → α → Option σ) : List α → σ → Option σ
  | [], s => some s
  | x :: xs, s => (g s x).bind fun s => foldT g xs s
def forT {σ α τ : Type} (g : σ → α → Option (St σ τ)) : List α → σ → Option (σ ⊕ τ)
  | [], s => some (.inl s)
  | x :: xs, s => (g s x).bind fun u => match u with
    | .nx s => forT g xs s
    | .bk s => some (.inl s)
    | .rt t => some (.inr t)
def whileT {σ : Type} (p : σ → Option Bool) (g : σ → Option σ) : Nat → σ → Option σ
  | 0, _ => none
  | n + 1, s => (p s).bind fun k => if k = true then (g s).bind fun s => whileT p g n s else some s
section
variable {α σ τ : Type} {Q : Fl → List D → τ → Prop} {e : α → D} {r body : SM} {ρ : List D} {oxs : Option (List α)} {c : BM} {k : σ → Option τ} {ms : AM} {f : TgM} {kl : List Nat}
theorem for_fold1 (env : σ → List D) (env1 : σ → α → List D) {g : σ → α → Option σ} (hf : ∀ s x, f (e x) (env s) = some (env1 s x)) (hb : ∀ s x, Bk (Ql kl env) body (env1 s x) (g s x)) : ∀ (xs : List α) (s s' : σ), foldT g xs s = some s' → forL f body kl (xs.map e) (env s) = some (.nx, env s')
  | [], s, s', h => by cases h; rfl
  | x :: xs, s, s', h => by
    obtain ⟨s1, h1, h2⟩ := ob_some h
    obtain ⟨fl, ρ', h3, h4, h5⟩ := hb s x s1 h1
    rw [List.map_cons]; unfold forL
    rw [hf, Option.bind_some, h3, Option.bind_some]
    have ih := for_fold1 env env1 hf hb xs s1 s' h2
    cases fl with
    | nx => simp only [h5]; exact ih
    | ct => simp only [h5]; exact ih
    | bk => cases h4
    | rt d => cases h4
    | ex n fs es => cases h4
theorem b_for (env : σ → List D) (s0 : σ) (env1 : σ → α → List D) {g : σ → α → Option σ} (hi : Ei e ms ρ oxs) (hρ : ρ = env s0) (hf : ∀ s x, f (e x) (env s) = some (env1 s x)) (hb : ∀ s x, Bk (Ql kl env) body (env1 s x) (g s x)) (hr : ∀ s, Bk Q r (env s) (k s)) :
    Bk Q (seqM (forM f body kl ms) r) ρ (oxs.bind fun xs => (foldT g xs s0).bind k) := fun t ht => by
  obtain ⟨xs, h1, h2⟩ := ob_some ht
  obtain ⟨s, h3, h4⟩ := ob_some h2
  obtain ⟨fl, ρ', h5, h6⟩ := hr s t h4
  refine ⟨fl, ρ', ?_, h6⟩
  unfold seqM
  rw [for_at (hi xs h1), hρ, for_fold1 env env1 hf hb xs s0 s h3]
  exact h5
theorem for_step1 (env : σ → List D) (env1 : σ → α → List D) {g : σ → α → Option (St σ τ)} (hf : ∀ s x, f (e x) (env s) = some (env1 s x)) (hb : ∀ s x, Bk (Qs kl env Q) body (env1 s x) (g s x)) : ∀ (xs : List α) (s : σ) (u : σ ⊕ τ), forT g xs s = some u →
    ∃ fl ρ', forL f body kl (xs.map e) (env s) = some (fl, ρ') ∧ match u with | .inl s => fl = .nx ∧ ρ' = env s | .inr t => rtB fl = true ∧ Q fl ρ' t
  | [], s, u, h => by cases h; exact ⟨_, _, rfl, rfl, rfl⟩
  | x :: xs, s, u, h => by
    obtain ⟨v, h1, h2⟩ := ob_some h
    obtain ⟨fl, ρ', h3, h4⟩ := hb s x v h1
    rw [List.map_cons]; unfold forL
    rw [hf, Option.bind_some, h3, Option.bind_some]
    cases v with
    | nx s1 =>
      obtain ⟨f2, ρ2, h5, h6⟩ := for_step1 env env1 hf hb xs s1 u h2
      refine ⟨f2, ρ2, ?_, h6⟩
      cases fl with
      | nx => simp only [h4.2]; exact h5
      | ct => simp only [h4.2]; exact h5
      | bk => cases h4.1
      | rt d => cases h4.1
      | ex n fs es => cases h4.1
    | bk s1 =>
      cases h2
      rw [h4.1]
      exact ⟨_, _, rfl, rfl, h4.2⟩
    | rt t =>
      cases h2
      cases fl with
      | rt d => exact ⟨_, _, rfl, h4⟩
      | ex n fs es => exact ⟨_, _, rfl, h4⟩
      | _ => cases h4.1
theorem b_forR (env : σ → List D) (s0 : σ) (env1 : σ → α → List D) {g : σ → α → Option (St σ τ)} (hi : Ei e ms ρ oxs) (hρ : ρ = env s0) (hf : ∀ s x, f (e x) (env s) = some (env1 s x)) (hb : ∀ s x, Bk (Qs kl env Q) body (env1 s x) (g s x)) (hr : ∀ s, Bk Q r (env s) (k s)) :
    Bk Q (seqM (forM f body kl ms) r) ρ (oxs.bind fun xs => (forT g xs s0).bind fun u => seqT u k) := fun t ht => by
  obtain ⟨xs, h1, h2⟩ := ob_some ht
  obtain ⟨u, h3, h4⟩ := ob_some h2
  obtain ⟨f2, ρ2, h7, h8⟩ := for_step1 env env1 hf hb xs s0 u h3
  unfold seqM
  rw [for_at (hi xs h1), hρ, h7, Option.bind_some]
  cases u with
  | inl s =>
    obtain ⟨rfl, rfl⟩ := h8
    exact hr s t h4
  | inr t2 =>
    cases h4
    cases f2 with
    | rt d => exact ⟨_, _, rfl, h8.2⟩
    | ex n fs es => exact ⟨_, _, rfl, h8.2⟩
    | _ => cases h8.1
theorem while_fold1 (env : σ → List D) {p : σ → Option Bool} {g : σ → Option σ} (hc : ∀ s, Et c (env s) (p s)) (hb : ∀ s, Bk (Ql kl env) body (env s) (g s)) : ∀ (n : Nat) (s s' : σ), whileT p g n s = some s' → whileL c body kl n (env s) = some (.nx, env s')
  | 0, s, s', h => by cases h
  | n + 1, s, s', h => by
    obtain ⟨b, h1, h2⟩ := ob_some h
    unfold whileL
    rw [hc s b h1, Option.bind_some]
    cases b with
    | false => simp at h2; rw [h2]; rfl
    | true =>
      rw [if_pos rfl] at h2 ⊢
      obtain ⟨s1, h3, h4⟩ := ob_some h2
      obtain ⟨fl, ρ', h5, h6, h7⟩ := hb s s1 h3
      rw [h5, Option.bind_some]
      have ih := while_fold1 env hc hb n s1 s' h4
      cases fl with
      | nx => simp only [h7]; exact ih
      | ct => simp only [h7]; exact ih
      | bk => cases h6
      | rt d => cases h6
      | ex n fs es => cases h6
theorem b_while {n : Nat} (env : σ → List D) (s0 : σ) {p : σ → Option Bool} {g : σ → Option σ} (hρ : ρ = env s0) (hc : ∀ s, Et c (env s) (p s)) (hb : ∀ s, Bk (Ql kl env) body (env s) (g s)) (hr : ∀ s, Bk Q r (env s) (k s)) :
    Bk Q (seqM (whileM n c body kl) r) ρ ((whileT p g n s0).bind k) := fun t ht => by
  obtain ⟨s, h3, h4⟩ := ob_some ht
  obtain ⟨fl, ρ', h5, h6⟩ := hr s t h4
  refine ⟨fl, ρ', ?_, h6⟩
  unfold seqM whileM
  rw [hρ, while_fold1 env hc hb n s0 s h3]
  exact h5
end

theorem run_T {τ : Type} {e : τ → D} {n : Nat} {kp : List Bool} {m : SM} {ds : List D} {mk : τ → List D} {o : Option τ} {r : τ} (hl : (ds.length == kp.length) = true) (hb : Bk (Qf e kp mk) m (ds ++ List.replicate (n - ds.length) .gone) o) (h : o = some r) : runM n kp m ds = some (e r, mk r) := by
  obtain ⟨fl, ρ', h1, h2, h3⟩ := hb r h
  unfold runM
  rw [if_pos (by simpa using hl), h1, Option.bind_some]
  rcases h2 with rfl | ⟨rfl, h2⟩
  · rw [← h3]
  · rw [← h3, h2]
end LI

namespace LI
open PySem L2

theorem icL {α : Type} {e e' : α → D} [Ic e e'] (xs : List α) : xs.map (fun x => ice (e x)) = xs.map e' := List.map_congr_left fun x _ => Ic.ic x
theorem fzL {α : Type} {e : α → D} [Fz e] (xs : List α) : frzL (xs.map e) = true := frzL_map.mpr fun x _ => Fz.fz x
theorem eL_map {α β : Type} {e : α → D} {f : β → D} {o : Bool} (k : α → β) (h : ∀ x, f (k x) = e x) (xs : List α) : eL o f (xs.map k) = eL o e xs := by
  unfold eL; rw [List.map_map]; congr 1; exact List.map_congr_left fun x _ => h x
section
variable {α β γ τ σ : Type} {e : α → D} {env : α → List D} {m mo : RM} {ms : AM} {g : GM} {ρ : List D} {o : Option α} {L : Lens}
theorem ev_get {x : α} (h : L.get ρ = some (e x)) : Ev e L.get ρ (some x) := fun y hy => by cases hy; exact h
def appT {α : Type} (xs : List α) (x : α) : Option (List α) := if xs.length < LIM then some (xs ++ [x]) else none
theorem eg_app {a : α → D} {xs : List α} {env : List α → List D} (h : L.get ρ = some (eL true a xs)) (hx : Ev a m ρ o) (hp : ∀ ys, L.put ρ (eL true a ys) = env ys) : Eg (fun _ => .non) env (appL L m) ρ (o.bind fun x => appT xs x) := fun ys hy => by
  obtain ⟨x, h1, h2⟩ := ob_some hy
  unfold appT at h2
  split at h2
  · rename_i q
    cases h2
    rw [LI.ev_app, h, Option.bind_some, hx x h1, Option.bind_some]
    show (if (xs.map a).length < LIM then _ else none) = _
    rw [if_pos (by simpa using q), ← hp]
    simp [eL]
  · cases h2
theorem b_fld {Q : Fl → List D → τ → Prop} {r : SM} {k : α → Option τ} {n : Nat} {f : Str} (env2 : α → List D) (h : Eg e env g ρ o) (hp : ∀ x, ((L.get (env x)).bind fun self => (setFD n f (e x) self).map fun self' => L.put (env x) self') = some (env2 x)) (h2 : ∀ x, Bk Q r (env2 x) (k x)) : Bk Q (seqM (fldM n f L g) r) ρ (o.bind k) := fun t ht => by
  obtain ⟨x, h3, h4⟩ := ob_some ht
  obtain ⟨fl, ρ', h5, h6⟩ := h2 x t h4
  refine ⟨fl, ρ', ?_, h6⟩
  have := hp x
  unfold seqM fldM
  rw [h x h3, Option.bind_some]
  cases w1 : L.get (env x) with
  | none => rw [w1] at this; cases this
  | some self =>
    rw [w1, Option.bind_some] at this
    simp only [w1, Option.bind_some]
    cases w2 : setFD n f (e x) self with
    | none => rw [w2] at this; cases this
    | some s2 =>
      rw [w2] at this
      have e2 : L.put (env x) s2 = env2 x := Option.some.inj this
      rw [Option.map_some, e2]
      exact h5
def To {κ : Type} (ec : κ → D) (et : τ → List D) (er : σ → D) (F : FM) (t : κ → τ → Option σ) : Prop := ∀ x p r, t x p = some r → ∃ ds', F (ec x :: et p) = some (er r, ec x :: ds')
def Tn {κ : Type} (n : Nat) (et : τ → List D) (ec : κ → D) (F : FM) (t : τ → Option κ) : Prop := ∀ p r, t p = some r → ∃ ds', F (.obj true n [] [] :: et p) = some (.non, ec r :: ds')
theorem x_look {κ : Type} {ec ec' : κ → D} {et et' : τ → List D} {er : σ → D} {F : FM} {t : κ → τ → Option σ} {n : Nat} {nm : Str} {os : Option τ} {ok : Option κ} [Fz ec] [Ic ec ec'] (hk : ∀ x, isObjK n nm (ec x) = true) (hT : To ec' et' er F t) (ho : Ev ec mo ρ ok) (hs : Ea et et' true ms ρ os) :
    Ev er (lookM n nm mo F ms) ρ (ok.bind fun x => os.bind fun p => t x p) := fun r hr => by
  obtain ⟨x, h1, h2⟩ := ob_some hr
  obtain ⟨p, h3, h4⟩ := ob_some h2
  obtain ⟨ds', h5⟩ := hT x p r h4
  unfold lookM
  rw [ho x h1, Option.bind_some, hs.run p h3, Option.bind_some, if_pos (hk x), iceL_cons, Ic.ic (e := ec), hs.ic, h5, Option.bind_some, if_pos (.inl (by rw [fzL_cons, Fz.fz, hs.fz rfl]; rfl))]
theorem x_lookF {κ : Type} {ec ec' : κ → D} {et et' : τ → List D} {er : σ → D} {F : FM} {t : κ → τ → Option σ} {n : Nat} {nm : Str} {os : Option τ} {ok : Option κ} {z : Bool} [Nic er] [Ic ec ec'] (hk : ∀ x, isObjK n nm (ec x) = true) (hT : To ec' et' er F t) (ho : Ev ec mo ρ ok) (hs : Ea et et' z ms ρ os) :
    Ev er (lookM n nm mo F ms) ρ (ok.bind fun x => os.bind fun p => t x p) := fun r hr => by
  obtain ⟨x, h1, h2⟩ := ob_some hr
  obtain ⟨p, h3, h4⟩ := ob_some h2
  obtain ⟨ds', h5⟩ := hT x p r h4
  unfold lookM
  rw [ho x h1, Option.bind_some, hs.run p h3, Option.bind_some, if_pos (hk x), iceL_cons, Ic.ic (e := ec), hs.ic, h5, Option.bind_some, if_pos (.inr (Nic.ni r))]
theorem x_mk {κ : Type} {ec : κ → D} {et et' : τ → List D} {F : FM} {t : τ → Option κ} {n : Nat} {os : Option τ} (hT : Tn n et ec F t) (hs : Ea et et' true ms ρ os) : Ev ec (mkM n F ms) ρ (os.bind t) := fun r hr => by
  obtain ⟨p, h1, h2⟩ := ob_some hr
  obtain ⟨ds', h3⟩ := hT p r h2
  unfold mkM
  rw [hs.run p h1, Option.bind_some, if_pos (hs.fz rfl p), h3, Option.bind_some]
end
class Ki {α : Type} (e : α → D) (k : outParam String) : Prop where
  ki : ∀ x, tyD (e x) = some k
instance : Ki eI "int" := ⟨fun _ => rfl⟩
instance : Ki eS "str" := ⟨fun _ => rfl⟩
section
variable {α β γ δ ε ζ : Type} {a : α → D} {b : β → D} {c : γ → D} {d : δ → D} {e : ε → D} {f : ζ → D} {o : Bool}
instance : Ki (eL o a) "list" := ⟨fun _ => rfl⟩
instance : Ki (e2 a b) "tuple" := ⟨fun _ => rfl⟩
end
theorem x_isK {α : Type} {e : α → D} {k ty : String} {b : Bool} [Ki e k] {m : RM} {ρ : List D} {o : Option α} (hb : kitB k ty = some b) (h : Ev e m ρ o) : Ev eB (isiM ty m) ρ (o.bind fun _ => some b) :=
  x_isi (fun _ => b) (fun x => by rw [Ki.ki (e := e), Option.bind_some, hb]) h
end LI
namespace OW
end OW

theorem bind_same {α : Type} (x : Option α) : (x.bind fun y => some y) = x := Option.bind_fun_some x
namespace LI
open PySem L2

section
variable {α β γ κ τ σ τ1 τ2 : Type} {Q : Fl → List D → τ → Prop} {e e' : α → D} {env : α → List D} {m r : SM} {g : GM} {mm mi : RM} {ms1 ms2 : AM} {ρ : List D} {o : Option α} {k : α → Option τ} {L : Lens}
theorem ice_set {i : Nat} {x : α} {ρ2 : List D} [Ic e e'] (h : ρ[i]? = some (e x)) (h2 : ρ.set i (e' x) = ρ2) : iceAt i ρ = ρ2 := by
  unfold iceAt
  rw [h]
  show ρ.set i (ice (e x)) = ρ2
  rw [Ic.ic (e := e), h2]
theorem b_asgC {i : Nat} [ic : Ic e e'] (env2 : α → List D) (h : Eg e env g ρ o) (hl : ∀ x, decide (i < (env x).length) = true) (h2 : ∀ x, (env x).set i (e' x) = env2 x) (h3 : ∀ x, Bk Q m (env2 x) (k x)) : Bk Q (seqM (iceM i (asgM (nameT i) g)) m) ρ (o.bind k) :=
  b_asgI env2 h (fun x => by
    rw [ev_name, Option.map_some, ice_set (e := e) (x := x) (ρ2 := env2 x)]
    · rw [List.getElem?_set_self (of_decide_eq_true (hl x))]
    · rw [List.set_set, h2]) h3
theorem eg_rev {a : α → D} {xs : List α} {env : List α → List D} [Fz a] (h : L.get ρ = some (eL true a xs)) (hp : ∀ ys, L.put ρ (eL true a ys) = env ys) : Eg (fun _ => .non) env (revL L) ρ (some xs.reverse) := fun z hz => by
  cases hz
  unfold revL
  rw [h, Option.bind_some]
  show (if frzL (xs.map a) = true then _ else none) = _
  rw [if_pos (fzL _), ← hp]
  simp [eL]
def Tl (et1 : τ1 → List D) (ec : κ → D) (et2 : τ2 → List D) (er : σ → D) (slf : σ → κ) (F : FM) (t : τ1 → κ → τ2 → Option σ) : Prop := ∀ p x q r, t p x q = some r → ∃ ds', F (et1 p ++ ec x :: et2 q) = some (er r, ds') ∧ ds'[(et1 p).length]? = some (ec (slf r))
theorem eg_lend {ec : κ → D} {x : κ} {et1 et1' : τ1 → List D} {et2 et2' : τ2 → List D} {er : σ → D} {slf : σ → κ} {F : FM} {t : τ1 → κ → τ2 → Option σ} {env : σ → List D} {o1 : Option τ1} {o2 : Option τ2} (hT : Tl et1 ec et2 er slf F t) (hg : L.get ρ = some (ec x)) (h1 : Ea et1 et1' true ms1 ρ o1) (h2 : Ea et2 et2' true ms2 ρ o2) (hp : ∀ r, L.put ρ (ec (slf r)) = env r) :
    Eg er env (lendM F ms1 L ms2) ρ (o1.bind fun p => o2.bind fun q => t p x q) := fun r hr => by
  obtain ⟨p, h3, h4⟩ := ob_some hr
  obtain ⟨q, h5, h6⟩ := ob_some h4
  obtain ⟨ds', h7, h8⟩ := hT p x q r h6
  unfold lendM
  rw [h1.run p h3, Option.bind_some, hg, Option.bind_some, h2.run q h5, Option.bind_some, if_pos ⟨h1.fz rfl p, h2.fz rfl q⟩, h7, Option.bind_some]
  dsimp only
  rw [h8, Option.map_some, hp]
end
end LI

namespace LI
open PySem L2

section
variable {α β γ κ τ σ ζ η : Type} {Q : Fl → List D → τ → Prop} {e e1 : α → D} {env env1 : α → List D} {m r a b : SM} {g ga gb : GM} {mm : RM} {ρ : List D} {o : Option α} {c : BM} {mc md : BGM} {oc od : Option (Bool × α)} {k : α → Option τ}
end
end LI

namespace LI
open PySem L2

def kS (s : Ts) : Key := .inr ⟨(s.map Char.toNat).toArray⟩
def kI (i : Int) : Key := .inl i
class Ky {κ : Type} (ek : κ → D) (kk : outParam (κ → Key)) : Prop where
  ky : ∀ x, keyD (ek x) = some (kk x)
  inj : ∀ x y, kk x = kk y → x = y
instance : Ky eI kI := ⟨fun _ => rfl, fun x y h => Sum.inl.inj h⟩
instance : Ky eS kS := ⟨fun _ => rfl, fun x y h => by
  have h1 : (⟨(x.map Char.toNat).toArray⟩ : Str) = ⟨(y.map Char.toNat).toArray⟩ := Sum.inr.inj h
  have h2 : (x.map Char.toNat).toArray = (y.map Char.toNat).toArray := congrArg (fun s : Str => s.cps) h1
  exact ts_map_inj.mp (Array.toList_inj.mpr h2)⟩
def eD {κ α : Type} (o : Bool) (kk : κ → Key) (a : α → D) (m : List (κ × α)) : D := .dK o (m.map fun p => kk p.1) (m.map fun p => a p.2)
section
variable {κ α β : Type} {o : Bool} {ek : κ → D} {kk : κ → Key} {a a' : α → D} {ρ : List D} {ma mb mc mk mv : RM} {ms mt : AM}
theorem frzL2 [Fz a] : ∀ m : List (κ × α), frzL (m.map fun p => a p.2) = true
  | [] => rfl
  | p :: m => by rw [List.map_cons]; show (frz (a p.2) && frzL _) = true; rw [Fz.fz, frzL2 m]; rfl
instance : Ng (eD o kk a) := ⟨fun _ => rfl⟩
def getT {κ α : Type} [DecidableEq κ] : List (κ × α) → κ → Option α
  | [], _ => none
  | p :: m, k => if p.1 = k then some p.2 else getT m k
theorem under_get [DecidableEq κ] [Ky ek kk] (k : κ) : ∀ m : List (κ × α), under (m.map fun p => kk p.1) (m.map fun p => a p.2) (kk k) = (getT m k).map a
  | [] => rfl
  | p :: m => by
    rw [List.map_cons, List.map_cons]
    unfold under getT
    by_cases h : p.1 = k
    · rw [if_pos h, if_pos (by rw [h])]; rfl
    · rw [if_neg h, if_neg (fun q => h (Ky.inj ek _ _ q)), under_get k m]
theorem o2_ixD [DecidableEq κ] [Ky ek kk] : O2 ixD (eD o kk a) ek a getT := fun m k z h => by
  show (keyD (ek k)).bind _ = _
  rw [Ky.ky (ek := ek) k, Option.bind_some, under_get (ek := ek), h]; rfl
theorem x_get2 [DecidableEq κ] [Ky ek kk] {om : Option (List (κ × α))} {ok : Option κ} {oc : Option α} (h : Ev (eD o kk a) ma ρ om) (hk : Ev ek mb ρ ok) (hc : Ev a mc ρ oc) : Ev a (getM2 ma mb mc) ρ (om.bind fun m => ok.bind fun k => oc.bind fun x => some ((getT m k).getD x)) := fun z hz => by
  obtain ⟨m, h1, h2⟩ := ob_some hz
  obtain ⟨k, h3, h4⟩ := ob_some h2
  obtain ⟨x, h5, h6⟩ := ob_some h4
  cases h6
  unfold getM2
  rw [h m h1, Option.bind_some, hk k h3, Option.bind_some, hc x h5, Option.bind_some]
  show (keyD (ek k)).map _ = _
  rw [Ky.ky (ek := ek) k, Option.map_some, under_get (ek := ek)]
  cases getT m k <;> rfl
def Edp (kk : κ → Key) (a : α → D) (ms mt : AM) (ρ : List D) (o : Option (List (κ × α))) : Prop := ∀ m, o = some m → ∃ kds, ms ρ = some kds ∧ keyDs kds = some (m.map fun p => kk p.1) ∧ mt ρ = some (m.map fun p => a p.2)
theorem edp_nil : Edp kk a nilM nilM ρ (some []) := fun m h => by cases h; exact ⟨[], rfl, rfl, rfl⟩
theorem edp_cons [Ky ek kk] {ok : Option κ} {ov : Option α} {om : Option (List (κ × α))} (hk : Ev ek mk ρ ok) (hv : Ev a mv ρ ov) (h : Edp kk a ms mt ρ om) : Edp kk a (consM mk ms) (consM mv mt) ρ (ok.bind fun k => ov.bind fun v => om.bind fun m => some ((k, v) :: m)) := fun z hz => by
  obtain ⟨k, h1, h2⟩ := ob_some hz
  obtain ⟨v, h3, h4⟩ := ob_some h2
  obtain ⟨m, h5, h6⟩ := ob_some h4
  cases h6
  obtain ⟨kds, e1, e2, e3⟩ := h m h5
  refine ⟨ek k :: kds, ?_, ?_, ?_⟩
  · unfold consM; rw [hk k h1, e1]; rfl
  · show (keyD (ek k)).bind _ = _
    rw [Ky.ky (ek := ek) k, Option.bind_some, e2]; rfl
  · unfold consM; rw [hv v h3, e3]; rfl
def dispT {κ α : Type} [DecidableEq κ] (m : List (κ × α)) : Option (List (κ × α)) := if (m.map (·.1)).Nodup ∧ m.length ≤ 15 then some m else none
theorem nodup_kk [DecidableEq κ] (ek : κ → D) [Ky ek kk] : ∀ m : List (κ × α), (m.map (·.1)).Nodup → (m.map fun p => kk p.1).Nodup
  | [], _ => List.nodup_nil
  | p :: m, h => by
    rw [List.map_cons, List.nodup_cons] at h ⊢
    refine ⟨fun q => h.1 ?_, nodup_kk ek m h.2⟩
    obtain ⟨r, hr, e⟩ := List.mem_map.mp q
    rw [← Ky.inj ek _ _ e]
    exact List.mem_map_of_mem hr
theorem x_disp [DecidableEq κ] (ek : κ → D) [Ky ek kk] [Fz a] {om : Option (List (κ × α))} (h : Edp kk a ms mt ρ om) : Ev (eD true kk a) (dispM ms mt) ρ (om.bind fun m => dispT m) := fun z hz => by
  obtain ⟨m, h1, h2⟩ := ob_some hz
  unfold dispT at h2
  split at h2
  · rename_i q
    cases h2
    obtain ⟨kds, e1, e2, e3⟩ := h z h1
    unfold dispM
    rw [e1, Option.bind_some, e3, Option.bind_some, e2, Option.bind_some, if_pos ⟨nodup_kk ek z q.1, frzL2 z, by simpa using q.2, by simp⟩]
    rfl
  · cases h2
end
end LI
namespace LI
open PySem L2
end LI

namespace LI
open PySem L2
section
variable {α β γ δ ε ζ : Type} {a : α → D} {b : β → D} {c : γ → D} {d : δ → D} {e : ε → D} {f : ζ → D}
end
section
variable {α : Type} {o : Bool} {e e' : α → D}
end
section
variable {α β σ τ : Type} {e : α → D} {env : α → List D} {g : GM} {ms : AGM} {ρ : List D} {o : Option α}
end
theorem bk_of {τ : Type} {Q : Fl → List D → τ → Prop} {m : SM} {ρ : List D} {o o' : Option τ} (h : Bk Q m ρ o) (e : ∀ t, o' = some t → o = some t) : Bk Q m ρ o' := fun t ht => h t (e t ht)
end LI

namespace LI
open PySem L2
section
variable {α β σ τ : Type} {o : Bool} {a : α → D} {xs : List α} {ρ : List D} {L : Lens} {mi : RM} {oi : Option Int} {envs : List α → List D} {g : GM}
end
end LI

namespace LI
open PySem L2
def eY {κ : Type} (kk : κ → List Key) (x : κ) : D := .key (kk x)
class KyT {κ : Type} (kk : κ → List Key) : Prop where
  inj : ∀ x y, kk x = kk y → x = y
def k2 {α β : Type} (a : α → Key) (b : β → Key) (t : α × β) : List Key := [a t.1, b t.2]
class Kj {α : Type} (a : α → Key) : Prop where
  inj : ∀ x y, a x = a y → x = y
instance : Kj kI := ⟨fun x y h => Sum.inl.inj h⟩
section
variable {α β γ κ τ : Type} {a : α → Key} {b : β → Key} {c : γ → Key} {kk : κ → List Key} {e : α → D} {e' : κ → D} {o : Bool} {ρ : List D} {m ma mb : RM} {ms : AM}
instance [Kj a] [Kj b] : KyT (k2 a b) := ⟨fun x y h => by
  unfold k2 at h
  simp only [List.cons.injEq, and_true] at h
  exact Prod.ext (Kj.inj _ _ h.1) (Kj.inj _ _ h.2)⟩
instance : Ng (eY kk) := ⟨fun _ => rfl⟩
instance : Fz (eY kk) := ⟨fun _ => rfl⟩
instance : Ic (eY kk) (eY kk) := ⟨fun _ => rfl⟩
theorem x_wk {ok : Option κ} (hk : ∀ x, wkD (.key (kk x)) = e' x) (h : Ev (eY kk) m ρ ok) : Ev e' (wkM m) ρ ok := fun x hx => by
  unfold wkM
  rw [h x hx, Option.map_some]
  exact congrArg some (hk x)
theorem x_key {et et' : τ → List D} {os : Option τ} (k : τ → κ) (hs : Ea et et' true ms ρ os) (hk : ∀ t, keyDs (et t) = some (kk (k t))) (hl : ∀ t, (et t).length ≤ LIM) : Ev (eY kk) (keyM ms) ρ (os.bind fun t => some (k t)) := fun x hx => by
  obtain ⟨t, h1, h2⟩ := ob_some hx; cases h2
  unfold keyM
  rw [hs.run t h1, Option.bind_some, if_pos (hl t), hk]; rfl
def eDT {κ α : Type} (o : Bool) (kk : κ → List Key) (a : α → D) (m : List (κ × α)) : D := .dT o (m.map fun p => kk p.1) (m.map fun p => a p.2)
instance {a : α → D} : Ng (eDT o kk a) := ⟨fun _ => rfl⟩
instance {a a' : α → D} [Ic a a'] : Ic (eDT o kk a) (eDT false kk a') := ⟨fun m => by
  show D.dT false _ (iceL (m.map fun p => a p.2)) = .dT false _ (m.map fun p => a' p.2)
  congr 1
  induction m with
  | nil => rfl
  | cons p m ih => simp [iceL, ih, Ic.ic (e := a)]⟩
theorem underT_get [DecidableEq κ] [KyT kk] (k : κ) : ∀ m : List (κ × α), under (m.map fun p => kk p.1) (m.map fun p => e p.2) (kk k) = (getT m k).map e
  | [] => rfl
  | p :: m => by
    rw [List.map_cons, List.map_cons]
    unfold under getT
    by_cases h : p.1 = k
    · rw [if_pos h, if_pos (by rw [h])]; rfl
    · rw [if_neg h, if_neg (fun q => h (KyT.inj _ _ q)), underT_get k m]
theorem o2_ixT [DecidableEq κ] [KyT kk] : O2 ixT (eDT o kk e) (eY kk) e getT := fun m k z h => by
  show under (m.map fun p => kk p.1) (m.map fun p => e p.2) (kk k) = _
  rw [underT_get, h]; rfl
def putT {κ α : Type} [DecidableEq κ] (m : List (κ × α)) (k : κ) (v : α) : List (κ × α) := if (m.any fun p => decide (p.1 = k)) = true then m.map (fun p => if p.1 = k then (p.1, v) else p) else m ++ [(k, v)]
def putC {κ α : Type} [DecidableEq κ] (m : List (κ × α)) (k : κ) (v : α) : Option (List (κ × α)) := if m.length < LIM then some (putT m k v) else none
theorem put_any {κ2 : Type} [DecidableEq κ] [DecidableEq κ2] (f : κ → κ2) (hf : ∀ x y, f x = f y → x = y) (k : κ) : ∀ m : List (κ × α), ((m.map fun p => f p.1).any fun j => decide (j = f k)) = m.any fun p => decide (p.1 = k)
  | [] => rfl
  | p :: m => by
    rw [List.map_cons, List.any_cons, List.any_cons, put_any f hf k m]
    congr 1
    by_cases h : p.1 = k
    · rw [h]; simp
    · rw [decide_eq_false h, decide_eq_false (fun q => h (hf _ _ q))]
theorem put_map {κ2 : Type} [DecidableEq κ] [DecidableEq κ2] (f : κ → κ2) (hf : ∀ x y, f x = f y → x = y) (k : κ) (v : α) : ∀ m : List (κ × α), (((m.map fun p => f p.1).zip (m.map fun p => e p.2)).map fun p => if p.1 = f k then e v else p.2) = (m.map fun p => if p.1 = k then (p.1, v) else p).map fun p => e p.2
  | [] => rfl
  | p :: m => by
    simp only [List.map_cons, List.zip_cons_cons]
    rw [put_map f hf k v m]
    congr 1
    by_cases h : p.1 = k
    · rw [if_pos h, if_pos (by rw [h])]
    · rw [if_neg h, if_neg (fun q => h (hf _ _ q))]
theorem put_eq {κ2 : Type} [DecidableEq κ] [DecidableEq κ2] (f : κ → κ2) (hf : ∀ x y, f x = f y → x = y) (k : κ) (v : α) (m : List (κ × α)) : putL (m.map fun p => f p.1) (m.map fun p => e p.2) (f k) (e v) = ((putT m k v).map (fun p => f p.1), (putT m k v).map fun p => e p.2) := by
  unfold putL putT
  rw [put_any f hf]
  split
  · rw [put_map f hf]
    congr 1
    rw [List.map_map]
    apply List.map_congr_left
    intro p _
    show f p.1 = f (if p.1 = k then (p.1, v) else p).1
    split <;> rfl
  · simp
theorem b_dputT {σ : Type} {Q : Fl → List D → τ → Prop} {ev : σ → D} {env : σ → List D} {g : GM} {o : Option σ} {L : Lens} {mi : RM} {r : SM} {av : α → D} {v : σ → α} {xs : σ → List (κ × α)} {ok : σ → Option κ} {kt : σ × List (κ × α) → Option τ} [DecidableEq κ] [KyT kk] [Fz av] (env2 : σ × List (κ × α) → List D) (h : Eg ev env g ρ o) (hv : ∀ x, ev x = av (v x)) (hg : ∀ x, L.get (env x) = some (eDT true kk av (xs x))) (hi : ∀ x, Ev (eY kk) mi (env x) (ok x)) (hp : ∀ p, L.put (env p.1) (eDT true kk av p.2) = env2 p) (h3 : ∀ p, Bk Q r (env2 p) (kt p)) :
    Bk Q (seqM (dputT L mi g) r) ρ (o.bind fun x => (ok x).bind fun k => (putC (xs x) k (v x)).bind fun ys => kt (x, ys)) := fun t ht => by
  obtain ⟨x, h4, h5⟩ := ob_some ht
  obtain ⟨k, h6, h7⟩ := ob_some h5
  obtain ⟨ys, h8, h9⟩ := ob_some h7
  obtain ⟨fl, ρ', k1, k2⟩ := h3 _ t h9
  refine ⟨fl, ρ', ?_, k2⟩
  unfold putC at h8
  split at h8
  · rename_i hl
    cases h8
    unfold seqM dputT
    rw [h x h4, Option.bind_some]
    dsimp only
    rw [hg, Option.bind_some, hi x k h6, Option.bind_some]
    show ((if frzL ((xs x).map fun p => av p.2) = true ∧ frz (ev x) = true ∧ ((xs x).map fun p => kk p.1).length < LIM then _ else none : Option (Fl × List D)).bind _) = _
    rw [if_pos ⟨frzL2 _, by rw [hv]; exact Fz.fz _, by rw [List.length_map]; exact hl⟩, Option.bind_some, hv, put_eq kk KyT.inj]
    show r (L.put (env x) (eDT true kk av (putT (xs x) k (v x)))) = _
    rw [hp (x, _)]
    exact k1
  · cases h8
theorem b_dputK {σ : Type} {Q : Fl → List D → τ → Prop} {ev : σ → D} {env : σ → List D} {g : GM} {o : Option σ} {L : Lens} {mi : RM} {r : SM} {av : α → D} {ek : κ → D} {kq : κ → Key} {v : σ → α} {xs : σ → List (κ × α)} {ok : σ → Option κ} {kt : σ × List (κ × α) → Option τ} [DecidableEq κ] [Ky ek kq] [Fz av] (env2 : σ × List (κ × α) → List D) (h : Eg ev env g ρ o) (hv : ∀ x, ev x = av (v x)) (hg : ∀ x, L.get (env x) = some (eD true kq av (xs x))) (hi : ∀ x, Ev ek mi (env x) (ok x)) (hp : ∀ p, L.put (env p.1) (eD true kq av p.2) = env2 p) (h3 : ∀ p, Bk Q r (env2 p) (kt p)) :
    Bk Q (seqM (dputK L mi g) r) ρ (o.bind fun x => (ok x).bind fun k => (putC (xs x) k (v x)).bind fun ys => kt (x, ys)) := fun t ht => by
  obtain ⟨x, h4, h5⟩ := ob_some ht
  obtain ⟨k, h6, h7⟩ := ob_some h5
  obtain ⟨ys, h8, h9⟩ := ob_some h7
  obtain ⟨fl, ρ', k1, k2⟩ := h3 _ t h9
  refine ⟨fl, ρ', ?_, k2⟩
  unfold putC at h8
  split at h8
  · rename_i hl
    cases h8
    unfold seqM dputK
    rw [h x h4, Option.bind_some]
    dsimp only
    rw [hg, Option.bind_some, hi x k h6, Option.bind_some]
    show (((keyD (ek k)).bind fun j => (if frzL ((xs x).map fun p => av p.2) = true ∧ frz (ev x) = true ∧ ((xs x).map fun p => kq p.1).length < LIM then some (Fl.nx, L.put (env x) (.dK true (putL ((xs x).map fun p => kq p.1) ((xs x).map fun p => av p.2) j (ev x)).1 (putL ((xs x).map fun p => kq p.1) ((xs x).map fun p => av p.2) j (ev x)).2)) else none : Option (Fl × List D))).bind _) = _
    rw [Ky.ky (ek := ek) k, Option.bind_some, if_pos ⟨frzL2 _, by rw [hv]; exact Fz.fz _, by rw [List.length_map]; exact hl⟩, Option.bind_some, hv, put_eq kq (Ky.inj ek)]
    show r (L.put (env x) (eD true kq av (putT (xs x) k (v x)))) = _
    rw [hp (x, _)]
    exact k1
  · cases h8
theorem x_newT {a : α → D} : Ev (eDT true kk a) newT ρ (some ([] : List (κ × α))) := fun x hx => by cases hx; rfl
end
def strT (i : Int) : Option Ts := if i.natAbs.log2 < 1920 then some (toString i).toList else none
theorem o1_str : O1 (fun d => strD [d]) eI eS strT := fun i z h => by
  unfold strT at h
  split at h
  · rename_i hl
    cases h
    show (if i.natAbs.log2 < 1920 then some (D.str ((toString i).toList.map Char.toNat)) else none) = _
    rw [if_pos hl]; rfl
  · cases h
end LI

namespace LI
open PySem L2
structure GlT (K : PySem.W.Frag) (mg : Str → Option Value) (x : Str) (ss : List (List Nat)) : Prop where
  ex : ∃ a o its n, mg x = some (.ref a) ∧ K.lookup a = some o ∧ o.cls = .type "tuple" ∧ o.data = .seq its n ∧ its.size ≤ sizeLine ∧ Vals (ss.map fun s => V.str ⟨s.toArray⟩) its.toList
section
variable {X : Cx} {cl : Nat → Addr} {E : En} {pos : Pos} {x : Str}
theorem f_glK (ss : List (List Nat)) (G : GlT X.K X.mg x ss) (hg : Gl X x := by rfl) (hd : (x == ("__debug__" : Str)) = false := by decide) : PE X (.Name x pos) (tF ⟨X.K, cl, X.w⟩ E (kM (.kst ss))) := by
  obtain ⟨a, o, its, n, h1, h2, h3, h4, h5, h6⟩ := G.ex
  exact f_gl (v := .ref a) (.kst ss) ⟨_, h1, rfl⟩ (fun _ _ _ => ⟨a, rfl, .inr ⟨o, its, n, h2, h3, h4, h5, h6⟩, rfl⟩) hg hd
theorem ss_never {sts : List Stmt} : PSs X sts (tS ⟨X.K, cl, X.w⟩ E (seqM noM' skipM)) := ⟨fun pins s σ H D I ⟨P, S, ρ, fl, ρ', w, hm, q⟩ => by cases hm⟩
end
end LI

namespace LI
open PySem L2
def ltP (p q : Int × Int) : Bool := if p.1 = q.1 then decide (p.2 < q.2) else decide (p.1 < q.1)
def maxP (x : Int × Int) (xs : List (Int × Int)) : Int × Int := xs.foldl (fun a y => if ltP a y = true then y else a) x
inductive Pr2 (H : Hp) : List Addr → List (Int × Int) → Prop
  | nil : Pr2 H [] []
  | cons {y ys p ps} : H y = some (.tup [.int p.1, .int p.2]) → Pr2 H ys ps → Pr2 H (y :: ys) (p :: ps)
def rMaxY (K : PySem.W.Frag) : List V → Hp → VK → Prop := fun vs H Q => ∃ (a : Addr) (ys : List Addr) (z : Int × Int) (zs : List (Int × Int)), vs = [V.ref a] ∧ SqL K H a (ys.map V.ref) ∧ Pr2 H ys (z :: zs) ∧
  ∀ y, y ∈ ys → H y = some (.tup [.int (maxP z zs).1, .int (maxP z zs).2]) → Q (.ref y) H
section
variable {X : Cx} {pins : List (Addr × Obj)} {σ : L2.St} {H : Hp} {s : Shared}
theorem max_eq (x : Int × Int) (xs : List (Int × Int)) : PySem.W.maxOf x xs = maxP x xs := rfl
theorem hold_pr (I : Inv X pins σ H s) : ∀ {ys : List Addr} {ps : List (Int × Int)} {its : List Value}, Pr2 H ys ps → Vals (ys.map V.ref) its → PySem.W.HoldAll s.heap its ps
  | _, _, _, .nil, r => by cases r; exact .nil
  | _, _, _, .cons (y := y) (p := p) h t, r => by
    cases r with
    | cons r rs =>
      cases r
      obtain ⟨its', r', it, _⟩ := I.tuple (.inl (.inl h))
      obtain ⟨t1, t2, rfl⟩ := Vals.int2 r'
      exact .cons (PySem.W.holds_pair it (PySem.W.holds_int _ _) (PySem.W.holds_int _ _)) (hold_pr I t rs)
theorem pr_at {ys : List Addr} {ps : List (Int × Int)} (h : Pr2 H ys ps) : ∀ {i : Nat} {p : Int × Int}, ps[i]? = some p → ∃ y, ys[i]? = some y ∧ H y = some (.tup [.int p.1, .int p.2]) := by
  induction h with
  | nil => intro i p h; simp at h
  | cons h t ih =>
    intro i p e
    cases i with
    | zero => simp at e; subst e; exact ⟨_, rfl, h⟩
    | succ i => exact ih (by simpa using e)
theorem depth2 {n : Nat} (h : n + 64 < cLine) : n + 1 + PySem.W.Datum.depth (Int × Int) < cLine := by
  have : PySem.W.Datum.depth (Int × Int) ≤ 63 := by decide
  omega
theorem cr_maxY (hc : X.calm = true) (hu : X.A.units + 64 < cLine) : CallR X (.builtin "max") (rMaxY X.K) := by
  intro pins s σ H vs us Q I r h
  obtain ⟨a, ys, z, zs, rfl, hs, hp, q⟩ := h
  obtain ⟨its, rv, hl, _⟩ := I.list hs
  rw [Vals.ref1 r]
  have hh := hold_pr I hp rv
  refine PySem.W.max_list_datum (x := z) (xs := zs) (I.ok.hd hc) hl.isList hh (depth2 hu) fun i v h' tk hi hv hk => ?_
  obtain ⟨p, e1, hv1⟩ := hh.at (i := i) (v := v) (by simpa using hi)
  have e2 : p = maxP z zs := by
    obtain ⟨as, r1⟩ := hv1.keeps hk
    obtain ⟨bs, r2⟩ := hv
    have := (PyProof.Rows.reads_det (fun _ _ e _ => e) r1 r2).1
    have e3 : (PyData.tuple [.int (PySem.W.maxOf z zs).1, .int (PySem.W.maxOf z zs).2]) = (PyData.tuple [.int p.1, .int p.2]) := this
    rw [max_eq] at e3
    injection e3 with e3
    injection e3 with e4 e5
    injection e4 with e4
    injection e5 with e5 _
    injection e5 with e5
    exact (Prod.ext e4 e5).symm
  obtain ⟨y, e3, hy⟩ := pr_at hp e1
  subst e2
  have e4 : v = .ref y := by
    obtain ⟨u, e5, e6⟩ := rv.get (i := i) (x := .ref y) (by simp [e3])
    rw [show its[i]? = some v by simpa using hi] at e5
    cases e5
    cases e6
    rfl
  subst e4
  exact ⟨.ref y, H, I.kept hk, rfl, q y (List.mem_of_getElem? e3) hy⟩
end
def prsD : List D → Option (List (Int × Int))
  | [] => some []
  | .key [.inl i, .inl j] :: ds => (prsD ds).map fun ps => (i, j) :: ps
  | _ :: _ => none
theorem prs_v {c : LC} {P H : Hp} (e : Ex P H) : ∀ {ds : List D} {xs : List V} {U : FP} {ps : List (Int × Int)}, prsD ds = some ps → RepL c P H ds xs U → ∃ ys : List Addr, xs = ys.map V.ref ∧ Pr2 H ys ps ∧ Pr2 P ys ps
  | [], xs, U, ps, h, r => by cases h; exact ⟨[], r.1, .nil, .nil⟩
  | .key [.inl i, .inl j] :: ds, xs, U, ps, h, ⟨y, ys, T, T2, e1, ⟨a, e2, hk, _⟩, rs, _⟩ => by
    rw [prsD] at h
    cases z : prsD ds with
    | none => rw [z] at h; cases h
    | some qs =>
      rw [z] at h; cases h
      obtain ⟨as, e3, p1, p2⟩ := prs_v e z rs
      exact ⟨a :: as, by rw [e1, e2, e3]; rfl, .cons (e _ _ hk) p1, .cons hk p2⟩
theorem pr_mem {H : Hp} {ys : List Addr} {ps : List (Int × Int)} (h : Pr2 H ys ps) : ∀ y, y ∈ ys → ∃ p : Int × Int, H y = some (.tup [.int p.1, .int p.2]) := by
  induction h with
  | nil => intro y h; simp at h
  | cons h t ih =>
    intro y e
    rcases List.mem_cons.mp e with rfl | e
    · exact ⟨_, h⟩
    · exact ih y e
def maxYD : List D → Option D
  | [.lst _ ds] => (prsD ds).bind fun ps => match ps with
    | [] => none
    | z :: zs => some (.key [.inl (maxP z zs).1, .inl (maxP z zs).2])
  | _ => none
theorem op_maxY {c : LC} : OpA c (rMaxY c.K) maxYD := by
  intro P H e ds d vs U hf r Q q
  unfold maxYD at hf
  split at hf
  · rename_i o ds'
    obtain ⟨v, T, rfl, r1⟩ := repL1 r
    obtain ⟨a, xs, T', rfl, h, rl, _⟩ := lst_heap e r1
    cases z : prsD ds' with
    | none => rw [z] at hf; cases hf
    | some ps =>
      rw [z, Option.bind_some] at hf
      cases ps with
      | nil => cases hf
      | cons p ps =>
        cases hf
        obtain ⟨ys, rfl, p1, p2⟩ := prs_v e z rl
        refine ⟨a, ys, p, ps, rfl, .inl (.inl h), p1, fun y hy hm => q.flat e ⟨y, rfl, ?_, rfl⟩⟩
        obtain ⟨w, hw⟩ := pr_mem p2 y hy
        have := (e _ _ hw).symm.trans hm
        rw [hw]
        exact this
  · cases hf
theorem foldl_max : ∀ (zs : List Int) (z : Int), (zs.foldl max z = z ∨ zs.foldl max z ∈ zs) ∧ z ≤ zs.foldl max z ∧ ∀ y ∈ zs, y ≤ zs.foldl max z
  | [], z => ⟨.inl rfl, Int.le_refl _, by simp⟩
  | y :: zs, z => by
    obtain ⟨h1, h2, h3⟩ := foldl_max zs (max z y)
    rw [List.foldl_cons]
    refine ⟨?_, by omega, ?_⟩
    · rcases h1 with h1 | h1
      · rw [h1]
        rcases Int.le_total z y with h | h
        · right; rw [Int.max_eq_right h]; simp
        · left; exact Int.max_eq_left h
      · right; simp [h1]
    · intro x hx
      rcases List.mem_cons.mp hx with rfl | hx
      · omega
      · exact h3 x hx
theorem foldl_min : ∀ (zs : List Int) (z : Int), (zs.foldl min z = z ∨ zs.foldl min z ∈ zs) ∧ zs.foldl min z ≤ z ∧ ∀ y ∈ zs, zs.foldl min z ≤ y
  | [], z => ⟨.inl rfl, Int.le_refl _, by simp⟩
  | y :: zs, z => by
    obtain ⟨h1, h2, h3⟩ := foldl_min zs (min z y)
    rw [List.foldl_cons]
    refine ⟨?_, by omega, ?_⟩
    · rcases h1 with h1 | h1
      · rw [h1]
        rcases Int.le_total z y with h | h
        · left; exact Int.min_eq_left h
        · right; rw [Int.min_eq_right h]; simp
      · right; simp [h1]
    · intro x hx
      rcases List.mem_cons.mp hx with rfl | hx
      · omega
      · exact h3 x hx
def maxYT : List (Int × Int) → Option (Int × Int)
  | [] => none
  | z :: zs => some (maxP z zs)
theorem prs_map : ∀ ps : List (Int × Int), prsD (ps.map (eY (k2 kI kI))) = some ps
  | [] => rfl
  | p :: ps => by
    show (prsD (ps.map (eY (k2 kI kI)))).map (fun qs => (p.1, p.2) :: qs) = _
    rw [prs_map ps]; rfl
theorem o1_maxY {o : Bool} : O1 (fun d => maxYD [d]) (eL o (eY (k2 kI kI))) (eY (k2 kI kI)) maxYT := fun x z h => by
  show (prsD (x.map (eY (k2 kI kI)))).bind _ = _
  rw [prs_map, Option.bind_some]
  cases x with
  | nil => cases h
  | cons p ps => cases h; rfl
end LI

namespace LI
open PySem L2
section
variable {X : Cx} {cl : Nat → Addr} {E : En} {e a b o i : Expr} {es : List Expr} {pos p apos cpos : Pos} {m ma mb : RM} {ms : AM} {L : Lens}
end
section
variable {α β γ κ τ : Type} {kk : κ → List Key} {kq : κ → Key} {ek : κ → D} {a : α → D} {o : Bool} {ρ : List D} {m ma mb : RM}
end
end LI

namespace LI
open PySem L2
def keyQ : Key → PyData
  | .inl i => .int i
  | .inr s => .str s
mutual
def toQ : D → Option PyData
  | .int i => some (.int i)
  | .str s => some (.str ⟨s.toArray⟩)
  | .key ks => some (.tuple (ks.map keyQ))
  | .tup ds => (toQL ds).map .tuple
  | _ => none
def toQL : List D → Option (List PyData)
  | [] => some []
  | d :: ds => (toQ d).bind fun p => (toQL ds).map fun ps => p :: ps
end
section
variable {X : Cx} {pins : List (Addr × Obj)} {σ : L2.St} {H : Hp} {s : Shared}
end
def isTupP : PyData → Bool
  | .tuple (_ :: _) => true
  | _ => false
def isPlP : PyData → Bool
  | .tuple _ => false
  | .none => false
  | _ => true
section
variable {X : Cx} {pins : List (Addr × Obj)} {σ : L2.St} {H : Hp} {s : Shared}
end
class Sd {α : Type} (e : α → D) (p : outParam (α → PyData)) (n : outParam Nat) : Prop where
  to : ∀ x, toQ (e x) = some (p x)
  al : ∀ x y, PySem.W.alike (p x) (p y) = true
  dp : ∀ x, (p x).depth ≤ n
  ok : (∀ x, isTupP (p x) = true) ∨ ∀ x, isPlP (p x) = true
def p2 {α β : Type} (p : α → PyData) (q : β → PyData) (t : α × β) : PyData := .tuple [p t.1, q t.2]
def p3 {α β γ : Type} (p : α → PyData) (q : β → PyData) (r : γ → PyData) (t : α × β × γ) : PyData := .tuple [p t.1, q t.2.1, r t.2.2]
end LI

namespace LI
open PySem L2
section
variable {c : LC} {E : En} {P P1 : Hp} {S S1 T U1 : FP} {σ σ1 : L2.St} {H H1 : Hp} {ρ ρ1 : List D}
end
section
variable {X : Cx} {cl : Nat → Addr} {E : En} {tg : Expr} {pos p : Pos} {x : Str}
end
end LI

namespace LI
open PySem L2
section
variable {X : Cx} {cl : Nat → Addr} {E : En} {es : List Expr} {pos : Pos} {ms : AGM}
end
section
variable {X : Cx} {cl : Nat → Addr} {E : En} {o : Expr} {pos apos : Pos} {g : GM}
end
section
variable {α β σ τ : Type} {Q : Fl → List D → τ → Prop} {e : α → D} {r body : SM} {ρ : List D} {k : σ → Option τ} {f : TgM} {kl : List Nat}
end
end LI

namespace LI
open PySem L2
section
variable {X : Cx} {cl : Nat → Addr} {E : En} {tg e2 : Expr} {pos p p2 tpos : Pos} {x : Str} {elts : List Expr} {kk : Nat} {m2 : RM}
end
section
variable {α β σ τ : Type} {Q : Fl → List D → τ → Prop} {e : α → D} {e2 : β → D} {r body : SM} {ρ : List D} {k : σ → Option τ} {f : TgM} {kl : List Nat} {mb : RM}
end
end LI

namespace LI
open PySem L2
section
variable {L : Lens}
end
section
variable {X : Cx} {cl : Nat → Addr} {E : En} {a : Expr} {pos p2 : Pos} {L : Lens}
end
section
variable {X : Cx} {cl : Nat → Addr} {E : En} {e : Expr} {pos apos : Pos} {g : GM}
end
section
variable {X : Cx} {cl : Nat → Addr} {E : En} {tg : Expr} {pos p p2 p3 : Pos} {x : Str}
end
section
variable {X : Cx} {cl : Nat → Addr} {E : En} {e : Expr} {m : RM}
end
section
variable {α β σ τ : Type} {Q : Fl → List D → τ → Prop} {e : α → D} {r body : SM} {ρ : List D} {k : σ → Option τ} {f : TgM} {kl : List Nat}
end
end LI

namespace LI
open PySem L2
section
variable {X : Cx} {cl : Nat → Addr} {E : En} {pos : Pos}
end
end LI

namespace LI
open PySem L2
section
variable {X : Cx} {cl : Nat → Addr} {E : En} {e a b : Expr} {es : List Expr} {pos : Pos} {m ma mb : RM} {ms : AM}
end
end LI
namespace LI
open PySem L2
section
variable {X : Cx} {cl : Nat → Addr} {E : En} {e o i : Expr} {pos pos' : Pos} {mi : RM} {g : GM} {L : Lens}
end
section
variable {α β γ σ τ κ : Type} {Q : Fl → List D → τ → Prop} {e : α → D} {env : α → List D} {m : SM} {ρ : List D} {L : Lens} {mi : RM} {g : GM} {o : Option α}
end
end LI

namespace LI
open PySem L2
def isiCM (n : Nat) (b : Bool) (m : RM) : RM := fun ρ => (m ρ).bind fun d => match d with
  | .obj _ k _ _ => if k = n then some (.bl b) else none
  | _ => none
section
variable {X : Cx} {cl : Nat → Addr} {E : En} {a : Expr} {pos p p2 : Pos} {ma : RM}
end
@[simp] theorem ev_isiC {n : Nat} {b : Bool} {m : RM} {ρ : List D} : isiCM n b m ρ = (m ρ).bind fun d => match d with
  | .obj _ k _ _ => if k = n then some (.bl b) else none
  | _ => none := (rfl)
instance {κ α : Type} [DecidableEq κ] {ek : κ → D} {kk : κ → Key} [Ky ek kk] {o : Bool} {a : α → D} : In ek (eD o kk a) (fun x m => some (getT m x).isSome) := ⟨fun x m k h => by
  cases h
  have q : inB (ek x) (eD o kk a m) = (keyD (ek x)).map fun k => (under (m.map fun p => kk p.1) (m.map fun p => a p.2) k).isSome := by
    unfold eD
    cases h : ek x <;> try rfl
    rename_i s
    rcases s with _ | ⟨c, _ | ⟨c2, t⟩⟩ <;> rfl
  rw [q, Ky.ky (ek := ek), Option.map_some, under_get (ek := ek)]
  cases getT m x <;> rfl⟩
class Dc {α : Type} (e : α → D) (f : outParam (D → Option α)) : Prop where
  dc : ∀ d x, f d = some x → d = e x
  od : ∀ x, f (e x) = some x
def dS : D → Option Ts
  | .str s => if (s.map Char.ofNat).map Char.toNat = s then some (s.map Char.ofNat) else none
  | _ => none
def dAll {α : Type} (f : D → Option α) : List D → Option (List α)
  | [] => some []
  | d :: ds => (f d).bind fun x => (dAll f ds).bind fun xs => some (x :: xs)
theorem ofNat_toNat (c : Char) : Char.ofNat c.toNat = c := by
  apply Char.ext
  have := Char.ofNat_toNat c
  exact congrArg Char.val this
theorem ts_back (s : Ts) : (s.map Char.toNat).map Char.ofNat = s := by
  rw [List.map_map]
  conv => rhs; rw [← List.map_id s]
  exact List.map_congr_left fun c _ => ofNat_toNat c
instance : Dc eS dS where
  dc := fun d x h => by
    cases d with
    | str s =>
      unfold dS at h
      dsimp only at h
      split at h
      · rename_i q
        cases h
        unfold eS; rw [q]
      · cases h
    | _ => cases h
  od := fun x => by
    show (if _ then _ else _) = _
    rw [ts_back, if_pos rfl]
  theorem dAll_dc {α : Type} {e : α → D} {f : D → Option α} [Dc e f] : ∀ (ds : List D) (xs : List α), dAll f ds = some xs → ds = xs.map e
    | [], xs, h => by cases h; rfl
    | d :: ds, xs, h => by
      obtain ⟨x, h1, h2⟩ := ob_some h
      obtain ⟨ys, h3, h4⟩ := ob_some h2
      cases h4
      rw [Dc.dc (e := e) d x h1, dAll_dc (e := e) ds ys h3, List.map_cons]
  theorem dAll_od {α : Type} {e : α → D} {f : D → Option α} [Dc e f] : ∀ xs : List α, dAll f (xs.map e) = some xs
    | [] => rfl
    | x :: xs => by rw [List.map_cons, dAll, Dc.od (e := e), Option.bind_some, dAll_od (e := e) xs]; rfl
theorem x_dec {α : Type} {e : α → D} {f : D → Option α} [Dc e f] {m : RM} {ρ : List D} {o : Option An} (h : Ev eA m ρ o) : Ev e m ρ (o.bind fun x => f x.d) := fun z hz => by
  obtain ⟨x, h1, h2⟩ := ob_some hz
  rw [h x h1]
  show some x.d = _
  rw [Dc.dc (e := e) x.d z h2]
section
variable {X : Cx} {cl : Nat → Addr} {E : En} {e : Expr} {pos apos : Pos} {g : GM}
end
section
variable {α β σ τ : Type} {Q : Fl → List D → τ → Prop} {e : α → D} {env : α → List D} {m : SM} {ρ : List D} {L : Lens} {mi : RM} {g : GM} {o : Option α}
end
end LI

namespace LI
open PySem L2
section
variable {X : Cx} {cl : Nat → Addr} {E : En} {e o : Expr} {pos apos : Pos} {m : RM} {L : Lens}
end
section
variable {α β : Type} {ρ : List D} {L : Lens} {m : RM}
end
section
variable {α β γ δ ε ζ : Type} {a : α → D} {b : β → D} {c : γ → D} {d : δ → D} {e : ε → D} {f : ζ → D}
end
end LI

namespace LI
open PySem L2
end LI

namespace LI
open PySem L2
section
variable {X : Cx} {cl : Nat → Addr} {E : En} {e o : Expr} {pos apos : Pos} {m mo : RM}
end
section
variable {X : Cx} {cl : Nat → Addr} {E : En} {e o : Expr} {pos apos : Pos} {m mo : RM}
end
end LI

namespace LI
open PySem L2
section
variable {X : Cx}
end
section
variable {X : Cx} {cl : Nat → Addr} {E : En} {pos pos2 : Pos}
end
end LI

namespace LI
open PySem PySem.Spec PyProof.Rows L2

structure NOk (K : PySem.W.Frag) (H : Hp) (a : Addr) (l : List (NestedKey × Addr × V)) : Prop where
  ne : (a == sysModules) = false
  le : l.length ≤ sizeLine
  nd : (l.map (·.1)).Nodup
  at_ : ∀ p ∈ l, NkRep K H p.1 (.ref p.2.1) ∧ p.1.depth ≤ 8
def valN (l : List (NestedKey × Addr × V)) (k : NestedKey) : Option V := valV (l.map fun p => (p.1, p.2.2)) k
section
variable {X : Cx} {pins : List (Addr × Obj)} {σ : L2.St} {H : Hp} {s : Shared}
def DGetN (K : PySem.W.Frag) (w : World) (H : Hp) (a : Addr) (y : V) (r : Option V) : Prop :=
  ∃ l k b, DnAt w H a l ∧ NOk K H a l ∧ y = .ref b ∧ NkRep K H k (.ref b) ∧ k.depth ≤ 8 ∧ r = valN l k
def IsDN (K : PySem.W.Frag) (w : World) (H : Hp) (a : Addr) : Prop := ∃ l, DnAt w H a l ∧ NOk K H a l
variable {a : Addr} {y v d : V} {u r : Value} {o : Option V} {A : Around} {E : Value → Shared → Prop}
theorem DGetN.is (g : DGetN X.K X.w H a y o) : IsDN X.K X.w H a := by
  obtain ⟨l, _, _, e, ok, _⟩ := g
  exact ⟨l, e, ok⟩
end
section
variable {X : Cx} {o i e f value : Expr} {pos pos' tpos apos cpos : Pos} {td ty tv tx : TE}
end
end LI

namespace LI
open PySem PySem.Spec PyProof.Rows L2
def keyN : Key → NestedKey
  | .inl i => .num i
  | .inr x => .text x
mutual
/-- a thing as a key -/
def toNk : D → Option NestedKey
  | .non => some .none
  | .int i => some (.num i)
  | .str s => some (.text ⟨s.toArray⟩)
  | .kst ss => some (.tup (ss.map fun s => .text ⟨s.toArray⟩))
  | .key ks => some (.tup (ks.map keyN))
  | .tup ds => (toNkL ds).map .tup
  | _ => none
def toNkL : List D → Option (List NestedKey)
  | [] => some []
  | d :: ds => (toNk d).bind fun k => (toNkL ds).map fun ks => k :: ks
end
def nkT (d : D) : Option NestedKey := (toNk d).bind fun k => match k with
  | .tup ks => if (NestedKey.tup ks).depth ≤ 8 then some (.tup ks) else none
  | _ => none
section
variable {X : Cx} {cl : Nat → Addr} {E : En} {e a b o i : Expr} {es : List Expr} {pos p apos cpos : Pos} {m ma mb : RM} {ms : AM} {L : Lens}
end
class Nk {κ : Type} (e : κ → D) (f : outParam (κ → NestedKey)) : Prop where
  nk : ∀ x, nkT (e x) = some (f x)
  inj : ∀ x y, f x = f y → x = y
def n2 {α β : Type} (a : α → NestedKey) (b : β → NestedKey) (t : α × β) : NestedKey := .tup [a t.1, b t.2]
section
variable {α β γ κ τ : Type} {a : α → D} {b : β → D} {e : α → D} {ek : κ → D} {f : α → NestedKey} {g : β → NestedKey} {nk : κ → NestedKey} {i j : Nat} {o : Bool} {ρ : List D} {m ma mb : RM}
end
section
variable {X : Cx} {cl : Nat → Addr} {E : En} {e : Expr} {m : RM}
end
end LI

namespace LI
open PySem PySem.Spec PyProof.Rows L2 PySem.W

structure Sk (P : Program) (w : World) (κ : Type) [DecidableEq κ] where
  knd : KeyKind P w κ
  of : κ → Tok → Value
  key : Value → κ
  enc : κ → PyData
  vv : κ → V
  is_of : ∀ k t, knd.is k (of k t) = true
  is_iff : ∀ k j t, knd.is k (of j t) = true ↔ j = k
  scan : ∀ k t, (of k t).scannable = true
  key_of : ∀ k t, key (of k t) = k
  reads : ∀ (h : Heap) k t, Reads h (of k t) (enc k) []
  alk : ∀ k j, alike (enc k) (enc j) = true
  oth : ∀ k, enc k ≠ .none ∧ ∀ xs, enc k ≠ .tuple xs
  dep : ∀ k, (enc k).depth = 0
  rel : ∀ k t, RelV (vv k) (of k t)
  back : ∀ k u, RelV (vv k) u → ∃ t, u = of k t
  tr : ∀ a b c, dataLe false enc a b = true → dataLe false enc b c = true → dataLe false enc a c = true
  tot : ∀ a b, (dataLe false enc a b || dataLe false enc b a) = true
  anti : ∀ a b, dataLe false enc a b = true → dataLe false enc b a = true → a = b
section
variable {P : Program} {w : World} {κ : Type} [DecidableEq κ] {Z : Sk P w κ} {A : Around} {E : Value → Shared → Prop} {s : Shared} {q : Addr} {M : κ → Bool} {c : Nat}
end
end LI

namespace LI
open PySem PySem.Spec PyProof.Rows L2 PySem.W

section
variable {X : Cx} {κ : Type} [DecidableEq κ] {Z : Sk X.prog X.w κ}
end
section
variable {X : Cx} {cl : Nat → Addr} {E : En} {e : Expr} {m : RM} {pos p1 p2 pos2 : Pos}
end
end LI

namespace LI
open PySem PySem.Spec PyProof.Rows L2 PySem.W

section
variable {P : Program} {w : World} {K : PySem.W.Frag} {tg : Expr} {d : Addr} {o : Obj} {l : List (NestedKey × Addr × V)}
end
section
variable {X : Cx} {cl : Nat → Addr} {E : En} {e tg : Expr} {m : RM} {pos p : Pos}
end
section
variable {X : Cx} {pins : List (Addr × Obj)} {σ : L2.St} {H : Hp} {s : Shared}
end
end LI

namespace LI
open PySem PySem.Spec PyProof.Rows L2
section
variable {α κ : Type} {ek : κ → D} {nk : κ → NestedKey} {a : α → D} {ρ : List D} {m : RM} {o : Bool}
end
end LI

namespace LI
open PySem L2
section
variable {α β κ σ τ : Type} [DecidableEq κ] {o : Bool} {a : α → D} {ek : κ → D} {kq : κ → Key} [Ky ek kq] {ρ : List D} {L : Lens} {mi : RM} {g : GM}
end
end LI

namespace LI
open PySem PySem.Spec PyProof.Rows L2 PySem.W
section
variable {prog : Program} {w : World} {A : Around} {E : Value → Shared → Prop} {s : Shared}
end
section
variable {X : Cx} {cl : Nat → Addr} {E : En} {e : Expr} {m : RM} {pos p1 p2 kpos : Pos}
end
end LI

namespace LI
open PySem PySem.Spec PyProof.Rows L2 PySem.W
section
variable {X : Cx} {cl : Nat → Addr} {E : En} {a b : Expr} {ga gb : GM} {pos : Pos}
end
section
variable {X : Cx} {cl : Nat → Addr} {E : En} {a : Expr} {g : GM} {pos : Pos}
end
end LI

namespace LI
open PySem PySem.Spec PyProof.Rows L2 PySem.W
section
variable {P : Program} {w : World} {K : PySem.W.Frag} {mg : Str → Option Value} {base : Heap} {sp : Sp}
end
section
variable {X : Cx} {cl : Nat → Addr} {E : En} {rest : List Stmt} {ma mb : SM}
end
section
variable {X : Cx} {cl : Nat → Addr} {E : En} {k : Nat} {f : Addr} {fd : FuncData} {F : FM} {CX : CXT} {XE : XK} {x y z : Str} {p cp apos pos c0 c1 : Pos} {j0 j1 : Nat}
end
section
variable {X : Cx} {cl : Nat → Addr} {E : En} {e o : Expr} {pos apos : Pos} {m mo : RM}
end
end LI

namespace LI
open PySem L2
section
variable {X : Cx} {cl : Nat → Addr} {E : En} {pos pos2 : Pos}
end
end LI

namespace LI
open PySem PySem.Spec PyProof.Rows L2 PySem.W
section
variable {X : Cx} {cl : Nat → Addr} {E : En} {pos : Pos}
end
section
variable {X : Cx} {cl : Nat → Addr} {E : En} {e : Expr} {es : List Expr} {pos p apos px : Pos} {ms : AGM} {CX : CXT} {k : Nat} {f : Addr} {fd : FuncData} {ps : List Str} {F : FM} {XE : XK} {x nm : Str}
end
section
variable {P : Program} {w : World} {K : PySem.W.Frag} {mg : Str → Option Value} {base : Heap} {cl : Nat → Addr}
end
section
variable {X : Cx} {cl : Nat → Addr} {E : En} {e : Expr} {es : List Expr} {pos p : Pos} {ms : AM} {CX : CXT} {k : Nat} {f : Addr} {fd : FuncData} {ps : List Str} {F : FM} {XE : XK} {x : Str} {dd : List D} {dvs : List V} {us : List Value}
end
section
variable {K : PySem.W.Frag} {x qual : Str} {st : Stmt} {dvs : List V} {f : Addr} {fd : FuncData} {ps : List Str}
end
section
variable {X : Cx} {cl : Nat → Addr} {E : En} {e : Expr} {es : List Expr} {pos p : Pos} {ms : AGM} {x : Str}
end
section
variable {X : Cx} {cl : Nat → Addr} {E : En} {pos : Pos}
end
def revD : D → Option D
  | .lst _ ds => if frzL ds = true then some (.lst true ds.reverse) else none
  | _ => none
section
variable {X : Cx} {cl : Nat → Addr} {E : En} {pos p1 p2 p3 : Pos} {e : Expr} {m : RM} {k : Nat}
theorem f_revL (he : PE X e (tR ⟨X.K, cl, X.w⟩ E m)) : PE X (.Subscript e (.Slice none none (some (.UnaryOp .USub (.Constant (.int 1) k p1) p2)) p3) pos) (tF ⟨X.K, cl, X.w⟩ E (m1 revD m)) := PE_imp (pe_revL he) fun σ H Q ⟨P, S, T, ρ, d, w, hm, q⟩ => by
  unfold m1 at hm
  cases ea : m ρ with
  | none => rw [ea] at hm; cases hm
  | some da =>
    rw [ea, Option.bind_some] at hm
    unfold revD at hm
    split at hm
    · split at hm
      · rename_i o ds hl
        cases hm
        refine ⟨P, S, T, ρ, _, w, ea, fun x H1 P1 U1 g1 r1 => ?_⟩
        obtain ⟨p, xs, rfl, hh, rl⟩ := lst_heap0 g1.ph r1 hl
        exact ⟨p, xs, rfl, .inl (.inl hh), (q.grow g1).lst g1.ph (repL_rev rl)⟩
      · cases hm
    · cases hm
end
theorem o1_revL {α : Type} {a : α → D} {o : Bool} [Fz a] : O1 revD (eL o a) (eL true a) (fun xs => some xs.reverse) := fun xs z h => by
  cases h
  unfold revD eL
  dsimp only
  rw [if_pos (fz_map xs), List.map_reverse]
section
variable {X : Cx} {cl : Nat → Addr} {E : En} {e : Expr} {es : List Expr} {pos p : Pos} {ms : AM} {CX : CXT} {k : Nat} {f : Addr} {fd : FuncData} {ps : List Str} {F : FM} {XE : XK} {x : Str} {dd : List D} {dvs : List V}
end
section
variable {X : Cx} {cl : Nat → Addr} {E : En} {e : Expr} {es : List Expr} {pos p : Pos} {ms : AGM} {CX : CXT} {k : Nat} {f : Addr} {fd : FuncData} {ps : List Str} {F : FM} {XE : XK} {x : Str} {dd : List D} {dvs : List V}
end
section
variable {X : Cx} {cl : Nat → Addr} {E : En} {a : Expr} {pos p2 : Pos} {ma : RM}
end
section
variable {X : Cx} {cl : Nat → Addr} {E : En} {e o : Expr} {pos apos : Pos} {m mo : RM}
end
section
variable {X : Cx} {cl : Nat → Addr} {E : En} {e o : Expr} {pos apos : Pos} {m mo : RM}
end
section
variable {X : Cx} {e : Expr} {te : TE} {apos cpos pos p : Pos}
end
section
variable {X : Cx} {cl : Nat → Addr} {E : En} {e : Expr} {apos cpos pos p : Pos} {m : RM}
end
end LI

namespace LI
open PySem PySem.Spec PyProof.Rows L2 PySem.W
section
variable {X : Cx}
end
section
variable {κ α : Type} {ek : κ → D} {kk : κ → Key} {a b e' : α → D} {n : Nat}
end
section
variable {X : Cx} {cl : Nat → Addr} {E : En} {e : Expr} {es : List Expr} {pos p : Pos} {ms : AGM} {x : Str}
end
end LI

namespace LI
open PySem L2
section
variable {α : Type} {e : α → D} {m : RM} {ρ : List D} {o : Option (List α)} {w : Bool}
end
section
variable {X : Cx} {cl : Nat → Addr} {E : En} {tg a b c : Expr} {pos : Pos} {ma mb mc : RM}
end
section
variable {ρ : List D} {ma mb mc : RM}
end
end LI
namespace LRV
open PySem PySem.Spec PyProof.Rows PySem.W RT L2
section
variable {prog : Program} {w : World} {A : Around} {E : Value → Shared → Prop} {s : Shared}
end
section
variable {X : Cx}
end
end LRV
namespace LI
open PySem L2
section
variable {X : Cx} {cl : Nat → Addr} {E : En} {pos p p2 pos2 : Pos} {e : Expr} {m : RM}
end
end LI
namespace LI
open PySem L2
def PeA (a : An) : Prop := ∃ p, toP a.d = some p ∧ p.canLay0 = true ∧ p.depth ≤ 20 ∧ p.eqv p = true
theorem PeA.mk {α : Type} [DecidableEq α] {e : α → D} {n : Nat} [Pe e n] (hn : n ≤ 20) {a : An} {x : α} (h : a.d = e x) : PeA a :=
  ⟨Pe.p e x, by rw [h]; exact Pe.to (e := e) x, Pe.lay (e := e) x, Nat.le_trans (Pe.dep (e := e) x) hn, by rw [Pe.eq (e := e)]⟩
end LI

namespace LI
open PySem L2
section
variable {X : Cx} {cl : Nat → Addr} {E : En} {e o f0 : Expr} {apos cpos : Pos} {ma mb mc : RM}
end
end LI
namespace LI
open PySem L2
end LI

namespace LI
open PySem L2
section
variable {c : LC} {E : En} {P : Hp} {S T : FP} {σ : L2.St} {H : Hp} {ρ : List D}
theorem Wd.take (w : Wd c E P S T σ H ρ) {i : Nat} {d : D} (hρ : ρ[i]? = some d) (hn : notGone d = true) : ∃ v Sd S', σ[i]? = some (some v) ∧ Rep c P H d v Sd ∧ Wd c E P S' (fa T Sd) σ H (ρ.set i .gone) := by
  obtain ⟨v, Sd, R, hσ, hrep, hsum, hput⟩ := w.env.focus hρ hn
  have henv := hput P H .gone fz (.refl P) (fun _ _ _ h => h) rfl
  refine ⟨v, Sd, _, hσ, hrep, henv, fun b => ?_, fun b h => w.out b ?_, fun b h => ?_, w.ph, w.p0, w.fr, w.np, fun b h => w.ns b ?_, w.kp⟩
  · have := w.le b; have := hsum b; simp only [fa, fz] at *; omega
  · have := hsum b; simp only [fa, fz] at *; omega
  · by_cases z : 0 < T b
    · exact w.th b z
    · exact Rep.there d v Sd hrep b (by simp only [fa] at h; omega)
  · have := hsum b; simp only [fa, fz] at *; omega
end
end LI
namespace LI
open PySem L2
section
variable {X : Cx} {cl : Nat → Addr} {E : En} {pos : Pos}
end
section
variable {X : Cx} {cl : Nat → Addr} {E : En} {tg : Expr} {pos p : Pos} {x : Str}
end
section
variable {α σ τ : Type} {Q : Fl → List D → τ → Prop} {e : α → D} {r body : SM} {ρ : List D} {k : List α × σ → Option τ} {kl : List Nat}
end
end LI

namespace LI
open PySem L2
section
variable {X : Cx} {cl : Nat → Addr} {E : En} {pos apos : Pos} {o e : Expr} {g : GM} {m : RM}
end
section
variable {α β σ τ υ : Type} {Q : Fl → List D → υ → Prop} {e : α → D} {m body : SM} {ρ : List D} {f : TgM} {kl : List Nat} {ev : τ → D} {env : τ → List D} {g : GM} {o : Option τ}
end
end LI

namespace LI
open PySem PySem.Spec PyProof.Rows L2
section
variable {X : Cx} {pins : List (Addr × Obj)} {σ : L2.St} {H : Hp} {s : Shared}
variable {a : Addr} {y z d : V} {u r : Value} {A : Around} {E : Value → Shared → Prop}
end
section
variable {X : Cx} {o e f : Expr} {td ty tx : TE} {apos cpos : Pos}
end
section
variable {c : LC} {E : En} {P H : Hp} {S T : FP} {σ : L2.St} {ρ : List D} {L : Lens} {v : V} {d : D} {Sd R : FP}
end
section
variable {X : Cx} {cl : Nat → Addr} {E : En} {o i e : Expr} {p0 p1 p2 p3 p4 : Pos} {mi mx : RM} {L : Lens}
end
end LI
namespace LI
open PySem L2
section
variable {α β κ σ τ : Type} [DecidableEq κ] {o : Bool} {a : α → D} {ek : κ → D} {nk : κ → NestedKey} [Nk ek nk] {ρ : List D} {L : Lens} {mi : RM} {g : GM}
end
end LI
namespace LI
open PySem L2
end LI
namespace LI
open PySem L2
end LI

namespace LI
open PySem L2

@[simp] theorem foldT_nil {σ α : Type} {g : σ → α → Option σ} {s : σ} : foldT g [] s = some s := (rfl)
@[simp] theorem foldT_cons {σ α : Type} {g : σ → α → Option σ} {s : σ} {x : α} {xs : List α} : foldT g (x :: xs) s = (g s x).bind fun s => foldT g xs s := (rfl)
theorem foldT_app {σ α : Type} {g : σ → α → Option σ} : ∀ {xs ys : List α} {s : σ}, foldT g (xs ++ ys) s = (foldT g xs s).bind fun s => foldT g ys s
  | [], ys, s => rfl
  | x :: xs, ys, s => by
    rw [List.cons_append, foldT_cons, foldT_cons, Option.bind_assoc]
    congr 1; funext s'; exact foldT_app
@[simp] theorem forT_nil {σ α τ : Type} {g : σ → α → Option (St σ τ)} {s : σ} : forT g [] s = some (.inl s) := (rfl)
theorem forT_cons {σ α τ : Type} {g : σ → α → Option (St σ τ)} {s : σ} {x : α} {xs : List α} : forT g (x :: xs) s = (g s x).bind fun u => match u with
    | .nx s => forT g xs s
    | .bk s => some (.inl s)
    | .rt t => some (.inr t) := (rfl)
@[simp] theorem seqT_inl {σ τ : Type} {s : σ} {k : σ → Option τ} : seqT (.inl s) k = k s := (rfl)
@[simp] theorem seqT_inr {σ τ : Type} {t : τ} {k : σ → Option τ} : seqT (.inr t) k = some t := (rfl)
theorem foldT_inv {σ α : Type} {g : σ → α → Option σ} (P : σ → Prop) : ∀ (xs : List α) (s : σ), P s → (∀ s x, P s → x ∈ xs → ∃ s', g s x = some s' ∧ P s') → ∃ s', foldT g xs s = some s' ∧ P s'
  | [], s, h, _ => ⟨s, rfl, h⟩
  | x :: xs, s, h, k => by
    obtain ⟨s1, h1, h2⟩ := k s x h (by simp)
    obtain ⟨s2, h3, h4⟩ := foldT_inv P xs s1 h2 fun s y hs hy => k s y hs (by simp [hy])
    exact ⟨s2, by rw [foldT_cons, h1]; exact h3, h4⟩
theorem foldT_cnt {σ α : Type} {g : σ → α → Option σ} (P : Nat → σ → Prop) : ∀ (xs : List α) (s : σ), P xs.length s → (∀ n s x, P (n + 1) s → x ∈ xs → ∃ s', g s x = some s' ∧ P n s') → ∃ s', foldT g xs s = some s' ∧ P 0 s'
  | [], s, h, _ => ⟨s, rfl, h⟩
  | x :: xs, s, h, k => by
    obtain ⟨s1, h1, h2⟩ := k xs.length s x h (by simp)
    obtain ⟨s2, h3, h4⟩ := foldT_cnt P xs s1 h2 fun n s y hs hy => k n s y hs (by simp [hy])
    exact ⟨s2, by rw [foldT_cons, h1]; exact h3, h4⟩
theorem forT_inv {σ α τ : Type} {g : σ → α → Option (St σ τ)} (P : σ → Prop) : ∀ (xs : List α) (s : σ), P s → (∀ s x, P s → x ∈ xs → ∃ s', g s x = some (.nx s') ∧ P s') → ∃ s', forT g xs s = some (.inl s') ∧ P s'
  | [], s, h, _ => ⟨s, rfl, h⟩
  | x :: xs, s, h, k => by
    obtain ⟨s1, h1, h2⟩ := k s x h (by simp)
    obtain ⟨s2, h3, h4⟩ := forT_inv P xs s1 h2 fun s y hs hy => k s y hs (by simp [hy])
    exact ⟨s2, by rw [forT_cons, h1]; exact h3, h4⟩
theorem forT_unit {α τ : Type} {g : Unit → α → Option (St Unit τ)} (xs : List α) (k : ∀ x, x ∈ xs → g () x = some (.nx ())) : forT g xs () = some (.inl ()) := by
  obtain ⟨s, h, _⟩ := forT_inv (fun _ => True) xs () trivial fun s x _ hx => ⟨(), k x hx, trivial⟩
  exact h
theorem whileT_succ {σ : Type} {p : σ → Option Bool} {g : σ → Option σ} {n : Nat} {s : σ} : whileT p g (n + 1) s = (p s).bind fun k => if k = true then (g s).bind fun s => whileT p g n s else some s := rfl
theorem whileT_inv {σ : Type} {p : σ → Option Bool} {g : σ → Option σ} (P : σ → Prop) (μ : σ → Nat) (E : σ → Prop) (h : ∀ s, P s → (p s = some false ∧ E s) ∨ (p s = some true ∧ ∃ s', g s = some s' ∧ P s' ∧ μ s' < μ s)) : ∀ (n : Nat) (s : σ), P s → μ s < n → ∃ s', whileT p g n s = some s' ∧ P s' ∧ E s'
  | 0, s, _, hm => absurd hm (Nat.not_lt_zero _)
  | n + 1, s, hp, hm => by
    rcases h s hp with ⟨h1, h2⟩ | ⟨h1, s1, h2, h3, h4⟩
    · exact ⟨s, by rw [whileT_succ, h1]; rfl, hp, h2⟩
    · obtain ⟨s2, k1, k2⟩ := whileT_inv P μ E h n s1 h3 (by omega)
      exact ⟨s2, by rw [whileT_succ, h1, Option.bind_some, if_pos rfl, h2]; exact k1, k2⟩
theorem forT_nxt {σ α τ : Type} {g : σ → α → Option (St σ τ)} (P : List α → σ → Prop) (h : ∀ x xs s, P (x :: xs) s → ∃ s', g s x = some (.nx s') ∧ P xs s') : ∀ (xs : List α) (s : σ), P xs s → ∃ s', forT g xs s = some (.inl s') ∧ P [] s'
  | [], s, hp => ⟨s, rfl, hp⟩
  | x :: xs, s, hp => by
    obtain ⟨s1, h1, h2⟩ := h x xs s hp
    obtain ⟨s2, h3, h4⟩ := forT_nxt P h xs s1 h2
    exact ⟨s2, by rw [forT_cons, h1]; exact h3, h4⟩
theorem compG_ex {α β : Type} {g : α → Option β} {P : α → β → Prop} : ∀ {xs : List α}, (∀ x ∈ xs, ∃ y, g x = some y ∧ P x y) → ∃ ys, compG (fun _ => some true) g xs = some ys ∧ ys.length = xs.length ∧ ∀ y ∈ ys, ∃ x ∈ xs, P x y
  | [], _ => ⟨[], rfl, rfl, by simp⟩
  | x :: xs, h => by
    obtain ⟨y, h1, h2⟩ := h x (by simp)
    obtain ⟨ys, h3, h4, h5⟩ := compG_ex (xs := xs) fun z hz => h z (by simp [hz])
    refine ⟨y :: ys, by simp [compG, h1, h3], by simp [h4], ?_⟩
    intro z hz
    rcases List.mem_cons.mp hz with rfl | hz
    · exact ⟨x, by simp, h2⟩
    · obtain ⟨w, h6, h7⟩ := h5 z hz
      exact ⟨w, by simp [h6], h7⟩
theorem compT_ex {α β : Type} {g : α → Option β} {P : α → β → Prop} {xs : List α} (hl : xs.length ≤ LIM) (h : ∀ x ∈ xs, ∃ y, g x = some y ∧ P x y) : ∃ ys, compT (fun _ => some true) g xs = some ys ∧ ys.length = xs.length ∧ ∀ y ∈ ys, ∃ x ∈ xs, P x y := by
  unfold compT; rw [if_pos hl]; exact compG_ex h
theorem compG_map {α β : Type} {g : α → Option β} {f : α → β} : ∀ {xs : List α}, (∀ x ∈ xs, g x = some (f x)) → compG (fun _ => some true) g xs = some (xs.map f)
  | [], _ => rfl
  | x :: xs, h => by simp [compG, h x (by simp), compG_map (xs := xs) fun z hz => h z (by simp [hz])]
theorem compT_map {α β : Type} {g : α → Option β} {f : α → β} {xs : List α} (hl : xs.length ≤ LIM) (h : ∀ x ∈ xs, g x = some (f x)) : compT (fun _ => some true) g xs = some (xs.map f) := by
  unfold compT; rw [if_pos hl]; exact compG_map h
theorem compG_fil {α β : Type} {p : α → Option Bool} {q : α → Bool} {g : α → Option β} {f : α → β} : ∀ {xs : List α}, (∀ x ∈ xs, p x = some (q x)) → (∀ x ∈ xs, q x = true → g x = some (f x)) → compG p g xs = some ((xs.filter q).map f)
  | [], _, _ => rfl
  | x :: xs, hp, h => by
    have ih := compG_fil (xs := xs) (fun z hz => hp z (by simp [hz])) fun z hz => h z (by simp [hz])
    cases hq : q x with
    | true => simp [compG, hp x (by simp), hq, h x (by simp) hq, ih]
    | false => simp [compG, hp x (by simp), hq, ih]
theorem compT_fil {α β : Type} {p : α → Option Bool} {q : α → Bool} {g : α → Option β} {f : α → β} {xs : List α} (hl : xs.length ≤ LIM) (hp : ∀ x ∈ xs, p x = some (q x)) (h : ∀ x ∈ xs, q x = true → g x = some (f x)) : compT p g xs = some ((xs.filter q).map f) := by
  unfold compT; rw [if_pos hl]; exact compG_fil hp h
theorem lenS_ok {s : Ts} (h : s.length ≤ LIM) : lenS s = some (s.length : Int) := if_pos h
theorem catS_ok {s t : Ts} (h : s.length + t.length ≤ LIM) : catS s t = some (s ++ t) := if_pos h
theorem catL_ok {α : Type} {s t : List α} (h : s.length + t.length ≤ LIM) : catL s t = some (s ++ t) := if_pos h
theorem appT_ok {α : Type} {s : List α} {x : α} (h : s.length < LIM) : appT s x = some (s ++ [x]) := if_pos h
theorem rngT_ok {n : Int} (h1 : -1000000000000 ≤ n) (h2 : n ≤ 1000000000000) : rngT n = some ((List.range n.toNat).map fun (k : Nat) => (k : Int)) := if_pos ⟨by omega, by omega⟩
theorem rng2T_ok {i j : Int} (h1 : -1000000000000 ≤ i) (h2 : i ≤ 1000000000000) (h3 : -1000000000000 ≤ j) (h4 : j ≤ 1000000000000) : rng2T i j = some ((List.range (j - i).toNat).map fun (k : Nat) => i + (k : Int)) := if_pos ⟨by omega, by omega, by omega, by omega⟩
theorem mulT_ok {a b : Int} (h1 : -1000000000000000000 ≤ a) (h2 : a ≤ 1000000000000000000) : mulT a b = some (a * b) := if_pos (.inl ⟨by omega, by omega⟩)
theorem modT_ok {a b : Int} (h : 0 < b) : modT a b = some (a % b) := if_pos h
theorem atI_ok {α : Type} {xs : List α} {i : Int} (h0 : 0 ≤ i) (h1 : i < (xs.length : Int)) : ∃ x ∈ xs, atI xs i = some x :=
  have : i.toNat < xs.length := by omega
  ⟨_, List.getElem_mem this, atI_at h0 this⟩
theorem ixS_mem {s : Ts} {i : Int} (h : s.length ≤ LIM) (h0 : 0 ≤ i) (h1 : i < (s.length : Int)) : ∃ c ∈ s, ixS s i = some [c] := by
  obtain ⟨c, h2, h3⟩ := atI_ok h0 h1
  exact ⟨c, h2, by unfold ixS; rw [if_pos h, h3]; rfl⟩
@[simp] theorem inS_1 {c : Char} {z : Ts} : inS [c] z = some (decide (c ∈ z)) := (rfl)
theorem mod_in (c n : Int) (hn : 0 < n) : 0 ≤ c % n ∧ c % n < n := ⟨Int.emod_nonneg _ (by omega), Int.emod_lt_of_pos _ hn⟩
theorem chars_mem {s x : Ts} (h : x ∈ chars s) : ∃ c ∈ s, x = [c] := by
  unfold chars at h
  obtain ⟨c, h1, h2⟩ := List.mem_map.mp h
  exact ⟨c, h1, h2.symm⟩
theorem cut_nat {α : Type} {xs : List α} {a b : Nat} : cutL xs (some (a : Int)) (some (b : Int)) = (xs.take b).drop a := by
  rw [cut_fromto (by omega) (by omega)]
  simp [List.drop_take]
end LI

namespace LI
open PySem L2
end LI

namespace OW
open PySem L2 LI
def t_lw_mix (cell_here : Int) (k : Int) : Option Int :=
  if decide ((1000000000000000000 : Int) < cell_here) = true then
  let rest : Int := cell_here
  ((rngT k).bind fun v1_ => (foldT (fun (s2_ : Int) (turn : Int) =>
  let rest : Int := (s2_ / 1000000000)
  some rest) v1_ rest).bind fun (s2_ : Int) =>
  some (s2_ % 1000000000))
  else
  let number : Int := ((cell_here % 2147483647) + (7919 : Int))
  ((rngT (k + (2 : Int))).bind fun v3_ => (foldT (fun (s4_ : Int) (turn : Int) =>
  let number : Int := (((s4_ * 48271) + (104729 : Int)) % 2147483629)
  some number) v3_ number).bind fun (s4_ : Int) =>
  (((mulT s4_ s4_).bind fun v5_ => some (v5_ % 998244353)).bind fun v6_ => some (v6_ / 11)))
def t_lw_whole (found : Int) : Option Bool :=
  some (true && (!false))
end OW

namespace OW
open PySem L2 LI
end OW

namespace OW
open PySem L2 LI
structure OMaker where
  most : Int
  row : (List (Ts × Ts × Ts × Int))
  ink : Ts
  ground : Ts
  stale : Bool
  more : Bool
def t_Maker_make_plain (self : OMaker) : Option OMaker :=
  let u1_ : Ts := ['.']
  let u2_ : Ts := ['.']
  some ({ { self with ink := u1_ } with ground := u2_ })
def t_Maker_tell_part (self : OMaker) (word : Ts) : Option ((List ((List (Ts × Ts × Ts × Int)) × Ts)) × OMaker) :=
  let part : ((List (Ts × Ts × Ts × Int)) × Ts) := (self.row, word)
  let u1_ : (List (Ts × Ts × Ts × Int)) := ([] : (List (Ts × Ts × Ts × Int)))
  let u2_ : Bool := false
  let u3_ : Bool := (decide (word = ['m', 'o', 'r', 'e']))
  some (([part] : (List ((List (Ts × Ts × Ts × Int)) × Ts))), { { { self with row := u1_ } with stale := u2_ } with more := u3_ })
def t_Maker_put_sign (self : OMaker) (sign : Ts) (place : Int) : Option ((List ((List (Ts × Ts × Ts × Int)) × Ts)) × OMaker) :=
  let found : (List ((List (Ts × Ts × Ts × Int)) × Ts)) := ([] : (List ((List (Ts × Ts × Ts × Int)) × Ts)))
  ((if (decide ((List.length self.row : Int) = self.most)) = true then
  ((t_Maker_tell_part self ['m', 'o', 'r', 'e'])).bind fun (u1_ : ((List ((List (Ts × Ts × Ts × Int)) × Ts)) × OMaker)) =>
  some (u1_.2, u1_.1)
  else
  some (self, found) : Option (OMaker × (List ((List (Ts × Ts × Ts × Int)) × Ts))))).bind fun (s2_ : (OMaker × (List ((List (Ts × Ts × Ts × Int)) × Ts)))) =>
  ((appT s2_.1.row (sign, s2_.1.ink, s2_.1.ground, place))).bind fun (u3_ : (List (Ts × Ts × Ts × Int))) =>
  some (s2_.2, { s2_.1 with row := u3_ })
def t_Maker_put (self : OMaker) (item : (Int × Ts × Ts)) : Option ((List ((List (Ts × Ts × Ts × Int)) × Ts)) × OMaker) :=
  let u1_ : (Int × Ts × Ts) := item
  if (decide (u1_.2.1 = (['e', 'n', 'd'] : Ts))) = true then
  ((t_Maker_make_plain self)).bind fun (u2_ : OMaker) =>
  ((t_Maker_tell_part u2_ ['w', 'h', 'o', 'l', 'e'])).bind fun u3_ => some (u3_.1, u3_.2)
  else
  if (decide (u1_.2.1 = (['a', 'n', 'e', 'w'] : Ts))) = true then
  ((t_Maker_make_plain self)).bind fun (u4_ : OMaker) =>
  let u5_ : Bool := true
  some (([] : (List ((List (Ts × Ts × Ts × Int)) × Ts))), { u4_ with stale := u5_ })
  else
  ((if self.stale = true then
  let u6_ : (List (Ts × Ts × Ts × Int)) := ([] : (List (Ts × Ts × Ts × Int)))
  let u7_ : Bool := false
  some ({ { self with row := u6_ } with stale := u7_ })
  else
  some self : Option OMaker)).bind fun (s8_ : OMaker) =>
  if (decide (u1_.2.1 = (['s', 'i', 'g', 'n'] : Ts))) = true then
  ((t_Maker_put_sign s8_ u1_.2.2 u1_.1)).bind fun u9_ => some (u9_.1, u9_.2)
  else
  ((if (decide (u1_.2.1 = (['i', 'n', 'k'] : Ts))) = true then
  let u10_ : Ts := u1_.2.2
  some ({ s8_ with ink := u10_ })
  else
  ((if (decide (u1_.2.1 = (['g', 'r', 'o', 'u', 'n', 'd'] : Ts))) = true then
  let u11_ : Ts := u1_.2.2
  some ({ s8_ with ground := u11_ })
  else
  ((t_Maker_make_plain s8_)).bind fun (u12_ : OMaker) =>
  some u12_ : Option OMaker)).bind fun (s13_ : OMaker) =>
  some s13_ : Option OMaker)).bind fun (s14_ : OMaker) =>
  some (([] : (List ((List (Ts × Ts × Ts × Int)) × Ts))), s14_)
end OW

namespace OW
open PySem L2 LI
def t_width_of (sign : Ts) : Option Int :=
  ((inS sign ['A', 'B', 'C', 'D', 'E', 'F', 'G', 'H', 'I', 'J', 'K', 'L', 'M', 'N', 'O', 'P', 'Q', 'R', 'S', 'T', 'U', 'V', 'W', 'X', 'Y', 'Z']).bind fun v1_ => if v1_ = true then
  some (2 : Int)
  else
  some (1 : Int))
def t_cells_of (letters : (List (Ts × Ts × Ts × Int))) : Option Int :=
  ((compT (fun (letter : (Ts × Ts × Ts × Int)) => (some true)) (fun (letter : (Ts × Ts × Ts × Int)) => (t_width_of letter.1)) letters).bind fun v1_ => some (List.sum v1_))
def t_bare_end (letters : (List (Ts × Ts × Ts × Int))) (lo : Int) (hi : Int) : Option Int :=
  (whileT (fun (s1_ : Int) => (if decide (lo < s1_) = true then (((atI letters (s1_ - (1 : Int))).bind fun v2_ => some v2_.1).bind fun v3_ => some (decide (v3_ = [' ']))) else some false)) (fun (s1_ : Int) =>
  let hi : Int := (s1_ - (1 : Int))
  some hi) 5000 hi).bind fun (s1_ : Int) =>
  some s1_
def t_cells_between (letters : (List (Ts × Ts × Ts × Int))) (lo : Int) (hi : Int) : Option Int :=
  ((((t_bare_end letters lo hi).bind fun v1_ => some (some v1_)).bind fun v2_ => some (cutL letters (some lo) v2_)).bind fun v3_ => (t_cells_of v3_))
def t_fits (letters : (List (Ts × Ts × Ts × Int))) (lo : Int) (hi : Int) (wide : Int) : Option Bool :=
  ((t_cells_between letters lo hi).bind fun v1_ => some (decide (v1_ ≤ wide)))
def t_breaks (letters : (List (Ts × Ts × Ts × Int))) : Option (List Int) :=
  let found : (List Int) := ([] : (List Int))
  ((rng2T (1 : Int) (List.length letters : Int)).bind fun v1_ => (foldT (fun (s2_ : (List Int)) (at_ : Int) =>
  (((((atI letters (at_ - (1 : Int))).bind fun v3_ => some v3_.1).bind fun v4_ => some (decide (v4_ = [' ']))).bind fun v5_ => (if v5_ = true then (((atI letters at_).bind fun v6_ => some v6_.1).bind fun v7_ => some (!decide (v7_ = [' ']))) else some false)).bind fun v8_ => ((if v8_ = true then
  ((appT s2_ at_)).bind fun (u9_ : (List Int)) =>
  some u9_
  else
  some s2_ : Option (List Int))).bind fun (s10_ : (List Int)) =>
  some s10_)) v1_ found).bind fun (s2_ : (List Int)) =>
  ((if decide ((0 : Int) < (List.length letters : Int)) = true then
  ((appT s2_ (List.length letters : Int))).bind fun (u11_ : (List Int)) =>
  some u11_
  else
  some s2_ : Option (List Int))).bind fun (s12_ : (List Int)) =>
  some s12_)
def t_taken (letters : (List (Ts × Ts × Ts × Int))) (lo : Int) (wide : Int) : Option Int :=
  let room : Int := wide
  let at_ : Int := lo
  (whileT (fun (s1_ : (Int × Int)) => (if decide (s1_.2 < (List.length letters : Int)) = true then ((((atI letters s1_.2).bind fun v2_ => some v2_.1).bind fun v3_ => (t_width_of v3_)).bind fun v4_ => some (decide (v4_ ≤ s1_.1))) else some false)) (fun (s1_ : (Int × Int)) =>
  (((((atI letters s1_.2).bind fun v5_ => some v5_.1).bind fun v6_ => (t_width_of v6_)).bind fun v7_ => some (s1_.1 - v7_))).bind fun (room : Int) =>
  let at_ : Int := (s1_.2 + (1 : Int))
  some (room, at_)) 5000 (room, at_)).bind fun (s1_ : (Int × Int)) =>
  some s1_.2
def t_reached (letters : (List (Ts × Ts × Ts × Int))) (spots : (List Int)) (lo : Int) (wide : Int) : Option (List Int) :=
  let found : (List Int) := ([] : (List Int))
  (forT (τ := (List Int)) (fun (s1_ : (List Int)) (spot : Int) =>
  ((if decide (lo < spot) = true then
  (((t_fits letters lo spot wide).bind fun v2_ => some (!v2_)).bind fun v3_ => if v3_ = true then
  some (.inr (.bk s1_ : (St (List Int) (List Int))) : ((List Int) ⊕ (St (List Int) (List Int))))
  else
  ((appT s1_ spot)).bind fun (u4_ : (List Int)) =>
  some (.inl u4_ : ((List Int) ⊕ (St (List Int) (List Int)))))
  else
  some (.inl s1_ : ((List Int) ⊕ (St (List Int) (List Int)))) : Option ((List Int) ⊕ (St (List Int) (List Int))))).bind fun u => seqT u fun (s5_ : (List Int)) => some (.nx s5_ : (St (List Int) (List Int)))) spots found).bind fun u => seqT u fun (s1_ : (List Int)) => if (decide (s1_ = ([] : (List Int)))) = true then
  ((t_taken letters lo wide).bind fun v6_ => some ([v6_] : (List Int)))
  else
  some s1_
def t_is_wide (thing : Int) : Option Bool :=
  some (true && ((!false) && (decide ((2 : Int) ≤ thing) && decide (thing ≤ (40 : Int)))))
def t_is_way (thing : Ts) : Option Bool :=
  some (true && (memT thing ([['c', 'u', 't'], ['c', 'e', 'l', 'l', 's'], ['w', 'o', 'r', 'd', 's'], ['e', 'v', 'e', 'n']] : List Ts)))
def t_line_end (letters : (List (Ts × Ts × Ts × Int))) (spots : (List Int)) (lo : Int) (wide : Int) (way : Ts) : Option Int :=
  if (decide (way = (['w', 'o', 'r', 'd', 's'] : Ts))) = true then
  ((t_reached letters spots lo wide).bind fun v1_ => (atI v1_ (-1 : Int)))
  else
  (t_taken letters lo wide)
def t_lw_cell_b (script : (List Int)) (k : Int) : Option Int :=
  if decide (k < (List.length script : Int)) = true then
  (atI script k)
  else
  ((((mulT k k).bind fun v1_ => some (v1_ * 7919)).bind fun v2_ => some (v2_ + (104729 : Int)))).bind fun (number : Int) =>
  ((if decide ((0 : Int) < (List.length script : Int)) = true then
  ((((((modT k (List.length script : Int)).bind fun v3_ => (atI script v3_)).bind fun v4_ => some (v4_ % 1000003)).bind fun v5_ => some (v5_ * 48271)).bind fun v6_ => some (number + v6_))).bind fun (number_2 : Int) =>
  some number_2
  else
  some number : Option Int)).bind fun (s7_ : Int) =>
  some ((s7_ * 48271) % 2147483647)
def t_lw_stream (cell_here : Int) (many : Int) : Option (List Int) :=
  let number : Int := ((((cell_here % 2147483647) + (7919 : Int)) * 48271) + (104729 : Int))
  let rest : Int := cell_here
  let found : (List Int) := ([] : (List Int))
  ((rngT many).bind fun v1_ => (foldT (fun (s2_ : (Int × Int × (List Int))) (k : Int) =>
  ((if decide ((1000000000000000000 : Int) < cell_here) = true then
  ((appT s2_.2.2 (s2_.2.1 % 1000000000))).bind fun (u3_ : (List Int)) =>
  let rest : Int := (s2_.2.1 / 1000000000)
  some (s2_.1, rest, u3_)
  else
  let number : Int := (((s2_.1 * 48271) + (104729 : Int)) % 2147483629)
  (((((mulT number number).bind fun v4_ => some (v4_ % 998244353)).bind fun v5_ => some (v5_ / 11)).bind fun v6_ => (appT s2_.2.2 v6_))).bind fun (u7_ : (List Int)) =>
  some (number, s2_.2.1, u7_) : Option (Int × Int × (List Int)))).bind fun (s8_ : (Int × Int × (List Int))) =>
  some (s8_.1, s8_.2.1, s8_.2.2)) v1_ (number, rest, found)).bind fun (s2_ : (Int × Int × (List Int))) =>
  some s2_.2.2)
def t_lw_run (xs : (List Int)) : Option Ts :=
  let small : Ts := (['a', 'b', 'c', 'd', 'e', 'f', 'g', 'h', 'i', 'j', 'k', 'l', 'm', 'n', 'o', 'p', 'q', 'r', 's', 't', 'u', 'v', 'w', 'x', 'y', 'z'] : Ts)
  let great : Ts := (['A', 'B', 'C', 'D', 'E', 'F', 'G', 'H', 'I', 'J', 'K', 'L', 'M', 'N', 'O', 'P', 'Q', 'R', 'S', 'T', 'U', 'V', 'W', 'X', 'Y', 'Z'] : Ts)
  let other : Ts := (['!', '"', '#', '$', '&', '\'', '(', ')', '*', '+', ',', '-', '.', '/', '0', '1', '2', '3', '4', '5', '6', '7', '8', '9', ':', ';', '<', '=', '>', '?', '@', '[', '\\', ']', '^', '_', '`', '{', '|', '}'] : Ts)
  (((atI xs (0 : Int)).bind fun v1_ => some (v1_ % 8))).bind fun (way : Int) =>
  ((((atI xs (1 : Int)).bind fun v2_ => (atI ([(4 : Int), (6 : Int), (9 : Int), (40 : Int), (4 : Int), (3 : Int), (1 : Int), (2 : Int)] : (List Int)) way).bind fun v3_ => (modT v2_ v3_)).bind fun v4_ => some ((1 : Int) + v4_))).bind fun (many : Int) =>
  ((((catS small great).bind fun v5_ => some ([small, small, v5_, small, great, ([' '] : Ts), ([' '] : Ts), other] : (List Ts))).bind fun v6_ => (atI v6_ way))).bind fun (signs : Ts) =>
  ((((rngT many).bind fun v7_ => (compT (fun (k : Int) => (some true)) (fun (k : Int) => ((((atI xs (2 : Int)).bind fun v8_ => some (v8_ + (7 * k))).bind fun v9_ => (lenS signs).bind fun v10_ => (modT v9_ v10_)).bind fun v11_ => (ixS signs v11_))) v7_)).bind fun v12_ => (joinS ([] : Ts) v12_))).bind fun (text : Ts) =>
  (((((atI xs (3 : Int)).bind fun v13_ => some (v13_ % 5)).bind fun v14_ => some (v14_ / 2)).bind fun v15_ => (repS ([' '] : Ts) v15_)).bind fun v16_ => (catS text v16_))
def t_lw_letters (script : (List Int)) (at_ : Int) (most : Int) : Option (List (Ts × Ts × Ts × Int)) :=
  let letters_here : (List (Ts × Ts × Ts × Int)) := ([] : (List (Ts × Ts × Ts × Int)))
  ((((t_lw_cell_b script at_).bind fun v1_ => (t_lw_mix v1_ (0 : Int))).bind fun v2_ => some (v2_ % 1000))).bind fun (place : Int) =>
  ((rngT (max (1 : Int) (min (40 : Int) ((List.length script : Int) - at_)))).bind fun v3_ => (foldT (fun (s4_ : ((List (Ts × Ts × Ts × Int)) × Int)) (k : Int) =>
  (((t_lw_cell_b script (at_ + k)).bind fun v5_ => (t_lw_stream v5_ (7 : Int)))).bind fun (xs : (List Int)) =>
  (((t_lw_run xs).bind fun v6_ => some (chars v6_)).bind fun v7_ => (foldT (fun (s8_ : ((List (Ts × Ts × Ts × Int)) × Int)) (sign : Ts) =>
  ((if decide ((List.length s8_.1 : Int) < most) = true then
  ((((((atI xs (4 : Int)).bind fun v9_ => some (v9_ % 9)).bind fun v10_ => (ixS (['a', 'b', 'c', 'd', 'e', 'f', 'g', 'h', '.'] : Ts) v10_)).bind fun v11_ => (((atI xs (5 : Int)).bind fun v12_ => some (v12_ % 9)).bind fun v13_ => (ixS (['a', 'b', 'c', 'd', 'e', 'f', 'g', 'h', '.'] : Ts) v13_)).bind fun v14_ => some (sign, v11_, v14_, s8_.2)).bind fun v15_ => (appT s8_.1 v15_))).bind fun (u16_ : (List (Ts × Ts × Ts × Int))) =>
  some u16_
  else
  some s8_.1 : Option (List (Ts × Ts × Ts × Int)))).bind fun (s17_ : (List (Ts × Ts × Ts × Int))) =>
  ((((atI xs (6 : Int)).bind fun v18_ => some (v18_ % 3)).bind fun v19_ => some ((s8_.2 + (1 : Int)) + v19_))).bind fun (place : Int) =>
  some (s17_, place)) v7_ (s4_.1, s4_.2)).bind fun (s8_ : ((List (Ts × Ts × Ts × Int)) × Int)) =>
  some (s8_.1, s8_.2))) v3_ (letters_here, place)).bind fun (s4_ : ((List (Ts × Ts × Ts × Int)) × Int)) =>
  (((((t_lw_cell_b script (0 : Int)).bind fun v20_ => (t_lw_mix v20_ (9 : Int))).bind fun v21_ => some (v21_ % 9)).bind fun v22_ => some (decide (v22_ = (4 : Int)))).bind fun v23_ => ((if v23_ = true then
  let letters_here : (List (Ts × Ts × Ts × Int)) := ([] : (List (Ts × Ts × Ts × Int)))
  some letters_here
  else
  some s4_.1 : Option (List (Ts × Ts × Ts × Int)))).bind fun (s24_ : (List (Ts × Ts × Ts × Int))) =>
  some s24_))
def t_lw_wide (script : (List Int)) : Option Int :=
  ((t_lw_cell_b script (1 : Int))).bind fun (cell_here : Int) =>
  (((t_lw_mix cell_here (7 : Int)).bind fun v1_ => (((t_lw_mix cell_here (8 : Int)).bind fun v2_ => some (v2_ % 4)).bind fun v3_ => (atI ([(4 : Int), (9 : Int), (9 : Int), (39 : Int)] : (List Int)) v3_)).bind fun v4_ => (modT v1_ v4_)).bind fun v5_ => some ((2 : Int) + v5_))
end OW

namespace OW
open PySem L2 LI
structure OEven where
  row : (List (Ts × Ts × Ts × Int))
  wide : Int
  spots : (List Int)
def t_Even_cost_between (self : OEven) (lo : Int) (hi : Int) : Option Int :=
  if (decide (hi = (List.length self.row : Int))) = true then
  some (0 : Int)
  else
  (((t_cells_between self.row lo hi).bind fun v1_ => some (self.wide - v1_))).bind fun (free : Int) =>
  (mulT free free)
def t_Even_moves_from (self : OEven) (node : (Int × Int)) : Option (List (Int × Ts × (Int × Int))) :=
  let lo : Int := node.1
  if (decide (lo = (List.length self.row : Int))) = true then
  some ([] : (List (Int × Ts × (Int × Int))))
  else
  ((t_reached self.row self.spots lo self.wide)).bind fun (found : (List Int)) =>
  (compT (fun (hi : Int) => (some true)) (fun (hi : Int) => ((t_Even_cost_between self lo hi).bind fun v1_ => (strT hi).bind fun v2_ => some (v1_, v2_, (hi, (0 : Int))))) found)
def t_cheapest (trail : OEven) (prices : (List ((Int × Int) × (Option Int)))) (node : (Int × Int)) : Option (Option Int) :=
  ((getT prices node)).bind fun (found : (Option Int)) =>
  (((t_Even_moves_from trail node).bind fun v1_ => some v1_).bind fun v2_ => (foldT (fun (s3_ : (Option Int)) (x4_ : (Int × Ts × (Int × Int))) =>
  ((getT prices x4_.2.2)).bind fun (rest : (Option Int)) =>
  ((if (Option.isSome rest) = true then (if (Option.isNone s3_) = true then some true else ((rest.bind fun v5_ => some (x4_.1 + v5_)).bind fun v6_ => s3_.bind fun v7_ => some (decide (v6_ < v7_)))) else some false).bind fun v8_ => ((if v8_ = true then
  (((rest.bind fun v9_ => some (x4_.1 + v9_)).bind fun v10_ => some (some v10_))).bind fun (found : (Option Int)) =>
  some found
  else
  some s3_ : Option (Option Int))).bind fun (s11_ : (Option Int)) =>
  some s11_)) v2_ found).bind fun (s3_ : (Option Int)) =>
  some s3_)
def t_settle (trail : OEven) (prices : (List ((Int × Int) × (Option Int)))) (here : (List (Int × Int))) : Option (List ((Int × Int) × (Option Int))) :=
  let falls : Bool := true
  (whileT (fun (s1_ : ((List ((Int × Int) × (Option Int))) × Bool)) => (some s1_.2)) (fun (s1_ : ((List ((Int × Int) × (Option Int))) × Bool)) =>
  let falls : Bool := false
  (foldT (fun (s2_ : ((List ((Int × Int) × (Option Int))) × Bool)) (node : (Int × Int)) =>
  ((t_cheapest trail s2_.1 node)).bind fun (found : (Option Int)) =>
  (((getT s2_.1 node).bind fun v3_ => some (!decide (found = v3_))).bind fun v4_ => ((if v4_ = true then
  (some found).bind fun u5_ => ((some node)).bind fun i6_ => (putC s2_.1 i6_ u5_).bind fun y7_ =>
  let falls : Bool := true
  some (y7_, falls)
  else
  some (s2_.1, s2_.2) : Option ((List ((Int × Int) × (Option Int))) × Bool))).bind fun (s8_ : ((List ((Int × Int) × (Option Int))) × Bool)) =>
  some (s8_.1, s8_.2))) here (s1_.1, falls)).bind fun (s2_ : ((List ((Int × Int) × (Option Int))) × Bool)) =>
  some (s2_.1, s2_.2)) 5000 (prices, falls)).bind fun (s1_ : ((List ((Int × Int) × (Option Int))) × Bool)) =>
  some s1_.1
def t_Even_nodes_at (self : OEven) (at_ : Int) : Option (List (Int × Int)) :=
  some ([(at_, (0 : Int))] : (List (Int × Int)))
def t_Even_last_at (self : OEven) : Option Int :=
  some (List.length self.row : Int)
def t_Even_is_end (self : OEven) (node : (Int × Int)) : Option Bool :=
  some (decide (node.1 = (List.length self.row : Int)))
def t_priced (trail : OEven) : Option (List ((Int × Int) × (Option Int))) :=
  let prices : (List ((Int × Int) × (Option Int))) := ([] : (List ((Int × Int) × (Option Int))))
  ((((t_Even_last_at trail).bind fun v1_ => some (v1_ + (1 : Int))).bind fun v2_ => (rngT v2_)).bind fun v3_ => (foldT (fun (s4_ : (List ((Int × Int) × (Option Int)))) (back : Int) =>
  ((((t_Even_last_at trail).bind fun v5_ => some (v5_ - back)).bind fun v6_ => (t_Even_nodes_at trail v6_))).bind fun (here : (List (Int × Int))) =>
  (foldT (fun (s7_ : (List ((Int × Int) × (Option Int)))) (node : (Int × Int)) =>
  (some ((fun _ => none) ())).bind fun u8_ => ((some node)).bind fun i9_ => (putC s7_ i9_ u8_).bind fun y10_ =>
  ((t_Even_is_end trail node).bind fun v11_ => ((if v11_ = true then
  (some (some (0 : Int))).bind fun u12_ => ((some node)).bind fun i13_ => (putC y10_ i13_ u12_).bind fun y14_ =>
  some y14_
  else
  some y10_ : Option (List ((Int × Int) × (Option Int))))).bind fun (s15_ : (List ((Int × Int) × (Option Int)))) =>
  some s15_)) here s4_).bind fun (s7_ : (List ((Int × Int) × (Option Int)))) =>
  ((t_settle trail s7_ here)).bind fun (u16_ : (List ((Int × Int) × (Option Int)))) =>
  some u16_) v3_ prices).bind fun (s4_ : (List ((Int × Int) × (Option Int)))) =>
  some s4_)
def t_Even_init (letters : (List (Ts × Ts × Ts × Int))) (wide : Int) : Option OEven :=
  let u1_ : (List (Ts × Ts × Ts × Int)) := letters
  let u2_ : Int := wide
  ((t_breaks u1_)).bind fun (u3_ : (List Int)) =>
  some ({ row := u1_, wide := u2_, spots := u3_ : OEven })
def t_Even_first_node (self : OEven) : Option (Int × Int) :=
  some ((0 : Int), (0 : Int))
def t_even (letters : (List (Ts × Ts × Ts × Int))) (wide : Int) : Option (List (Int × Int)) :=
  if (decide ((List.length letters : Int) = (0 : Int))) = true then
  some ([((0 : Int), (0 : Int))] : (List (Int × Int)))
  else
  ((t_Even_init letters wide)).bind fun (trail : OEven) =>
  ((t_priced trail)).bind fun (prices : (List ((Int × Int) × (Option Int)))) =>
  let found : (List (Int × Int)) := ([] : (List (Int × Int)))
  ((t_Even_first_node trail)).bind fun (node : (Int × Int)) =>
  (whileT (fun (s1_ : ((List (Int × Int)) × (Int × Int))) => ((t_Even_is_end trail s1_.2).bind fun v2_ => some (!v2_))) (fun (s1_ : ((List (Int × Int)) × (Int × Int))) =>
  ((((t_Even_moves_from trail s1_.2).bind fun v3_ => some v3_).bind fun v4_ => (compT (fun (move : (Int × Ts × (Int × Int))) => (((((getT prices move.2.2).bind fun x => x).bind fun v5_ => some (move.1 + v5_)).bind fun v6_ => some (some v6_)).bind fun v7_ => (getT prices s1_.2).bind fun v8_ => some (decide (v7_ = v8_)))) (fun (move : (Int × Ts × (Int × Int))) => (some move.2.2)) v4_))).bind fun (least : (List (Int × Int))) =>
  ((maxYT least)).bind fun (beyond : (Int × Int)) =>
  ((appT s1_.1 (s1_.2.1, beyond.1))).bind fun (u9_ : (List (Int × Int))) =>
  let node : (Int × Int) := beyond
  some (u9_, node)) 5000 (found, node)).bind fun (s1_ : ((List (Int × Int)) × (Int × Int))) =>
  some s1_.1
def t_fold (letters : (List (Ts × Ts × Ts × Int))) (wide : Int) (way : Ts) : Option (List (Int × Int)) :=
  ((((t_is_wide wide).bind fun v1_ => some (!v1_)).bind fun v2_ => (if v2_ = true then some true else ((t_is_way way).bind fun v3_ => some (!v3_)))).bind fun v4_ => if v4_ = true then
  none
  else
  if (decide (way = (['e', 'v', 'e', 'n'] : Ts))) = true then
  (t_even letters wide)
  else
  if (decide ((List.length letters : Int) = (0 : Int))) = true then
  some ([((0 : Int), (0 : Int))] : (List (Int × Int)))
  else
  ((t_breaks letters)).bind fun (spots : (List Int)) =>
  ((((t_line_end letters spots (0 : Int) wide way).bind fun v5_ => some ((0 : Int), v5_)).bind fun v6_ => some ([v6_] : (List (Int × Int))))).bind fun (found : (List (Int × Int))) =>
  (whileT (fun (s7_ : (List (Int × Int))) => (if (!decide (way = (['c', 'u', 't'] : Ts))) = true then (((atI s7_ (-1 : Int)).bind fun v8_ => some v8_.2).bind fun v9_ => some (decide (v9_ < (List.length letters : Int)))) else some false)) (fun (s7_ : (List (Int × Int))) =>
  (((atI s7_ (-1 : Int)).bind fun v10_ => some v10_.2)).bind fun (lo : Int) =>
  ((((t_line_end letters spots lo wide way).bind fun v11_ => some (lo, v11_)).bind fun v12_ => (appT s7_ v12_))).bind fun (u13_ : (List (Int × Int))) =>
  some u13_) 5000 found).bind fun (s7_ : (List (Int × Int))) =>
  some s7_)
end OW

namespace OW
open PySem L2 LI
end OW

namespace OW
open PySem L2 LI
end OW

namespace OW
open PySem L2 LI
end OW

namespace OW
open PySem L2 LI
end OW

namespace OW
open PySem L2 LI
end OW

namespace OW
open PySem L2 LI
end OW

namespace OW
open PySem L2 LI
end OW

namespace OW
open PySem L2 LI
end OW

namespace OW
open PySem L2 LI
end OW

namespace OW
open PySem L2 LI
end OW

namespace OW
open PySem L2 LI

def cols : Ts := ['a', 'b', 'c', 'd', 'e', 'f', 'g', 'h', '.']
def isCol (c : Char) : Bool := decide (c ∈ cols)
def isSg (c : Char) : Bool := decide (32 ≤ c.toNat) && decide (c.toNat ≤ 125)
abbrev Im := Int × Ts × Ts
def kSign : Ts := ['s', 'i', 'g', 'n']
def kInk : Ts := ['i', 'n', 'k']
def kGround : Ts := ['g', 'r', 'o', 'u', 'n', 'd']
def kPlain : Ts := ['p', 'l', 'a', 'i', 'n']
def kEnd : Ts := ['e', 'n', 'd']
def kAnew : Ts := ['a', 'n', 'e', 'w']
def sgI (c : Char) : Ts × Ts := if c = '\n' then (kEnd, []) else if c = '\t' then (kAnew, []) else (kSign, [c])
def isColO : Option Char → Bool
  | some c => isCol c
  | none => false
def stp (s : Ts) : (Ts × Ts) × Nat :=
  if s[0]? = some '[' then
    if s[1]? = some ']' then ((kPlain, []), 2)
    else if s[1]? = some '[' then ((kSign, ['[']), 2)
    else if isColO s[1]? = true ∧ s[2]? = some ']' then ((kInk, [s[1]?.getD ' ']), 3)
    else if s[1]? = some '/' ∧ isColO s[2]? = true ∧ s[3]? = some ']' then ((kGround, [s[2]?.getD ' ']), 4)
    else ((kSign, ['[']), 1)
  else (sgI (s[0]?.getD ' '), 1)
theorem stp_pos (s : Ts) : 0 < (stp s).2 := by
  unfold stp
  repeat' split
  all_goals simp
def its (p : Int) (s : Ts) : List Im :=
  if h : s = [] then [] else (p, (stp s).1.1, (stp s).1.2) :: its (p + (stp s).2) (s.drop (stp s).2)
termination_by s.length
decreasing_by
  have := stp_pos s
  have : 0 < s.length := List.length_pos_iff.mpr h
  rw [List.length_drop]; omega
end OW

namespace OW
open PySem L2 LI

theorem mix_ex (c : Int) (k : Int) (h0 : 0 ≤ k) (hk : k ≤ 1000000) : ∃ v, t_lw_mix c k = some v ∧ 0 ≤ v ∧ v < 1000000000 := by
  unfold t_lw_mix
  by_cases hc : (1000000000000000000 : Int) < c
  · rw [if_pos (by simpa using hc)]
    dsimp only
    rw [rngT_ok (by omega) (by omega), Option.bind_some]
    obtain ⟨s, h1, _⟩ := foldT_inv (g := fun (s1 : Int) (turn : Int) => some (s1 / 1000000000)) (fun _ => True) ((List.range k.toNat).map fun (k : Nat) => (k : Int)) c trivial fun s x _ _ => ⟨_, rfl, trivial⟩
    rw [h1]
    exact ⟨_, rfl, by omega, by omega⟩
  · rw [if_neg (by simpa using hc)]
    dsimp only
    rw [rngT_ok (by omega) (by omega), Option.bind_some]
    obtain ⟨s, h1, h2, h3⟩ := foldT_inv (g := fun (s1 : Int) (turn : Int) => some ((s1 * 48271 + 104729) % 2147483629)) (fun s => 0 ≤ s ∧ s < 4294967296) ((List.range (k + 2).toNat).map fun (k : Nat) => (k : Int)) (c % 2147483647 + 7919) ⟨by omega, by omega⟩ fun s x _ _ => ⟨_, rfl, by omega, by omega⟩
    rw [h1, Option.bind_some, mulT_ok (by omega) (by omega), Option.bind_some, Option.bind_some]
    refine ⟨_, rfl, ?_⟩
    generalize s * s = z
    exact ⟨by omega, by omega⟩
end OW

namespace OW
open PySem L2 LI
theorem atI_all {α : Type} {xs : List α} {P : α → Prop} {i : Int} (h0 : 0 ≤ i) (h1 : i < (xs.length : Int)) (h : ∀ x ∈ xs, P x) : ∃ x, atI xs i = some x ∧ P x := by
  obtain ⟨x, h2, h3⟩ := atI_ok h0 h1
  exact ⟨x, h3, h x h2⟩
theorem colour_ex {v : Int} : ∃ k ∈ cols, ixS ['a', 'b', 'c', 'd', 'e', 'f', 'g', 'h', '.'] (v % 9) = some [k] := by
  have := mod_in v 9 (by omega)
  exact ixS_mem (s := ['a', 'b', 'c', 'd', 'e', 'f', 'g', 'h', '.']) (by simp [LIM]) this.1 (by simpa using this.2)
theorem join_nil : ∀ ss : List Ts, joinT [] ss = ss.flatten
  | [] => rfl
  | [s] => by simp [joinT]
  | s :: t :: ss => by
    have := join_nil (t :: ss)
    simp [joinT, this]
theorem flat_sum (ss : List Ts) : (ss.map List.length).sum = ss.flatten.length := by rw [List.length_flatten]
end OW

namespace OW
open PySem L2 LI
inductive GI : Ts → Ts → Prop
  | sign (c : Char) : isSg c = true → GI kSign [c]
  | ink (c : Char) : isCol c = true → GI kInk [c]
  | ground (c : Char) : isCol c = true → GI kGround [c]
  | plain : GI kPlain []
  | fin : GI kEnd []
  | anew : GI kAnew []
abbrev Lt := Ts × Ts × Ts × Int
abbrev Ls := List Lt
abbrev Pt := Ls × Ts
abbrev Ms := Ls × Bool × Ts × Ts
def dot : Ts := ['.']
def kMore : Ts := ['m', 'o', 'r', 'e']
def kWhole : Ts := ['w', 'h', 'o', 'l', 'e']
def mkS (most : Int) (s : Ms) (i : Im) : Ms × List Pt :=
  if i.2.1 = kAnew then ((s.1, true, dot, dot), [])
  else if i.2.1 = kEnd then (([], false, dot, dot), [(s.1, kWhole)])
  else
    let row : Ls := if s.2.1 = true then [] else s.1
    if i.2.1 = kSign then
      if (row.length : Int) = most then (([(i.2.2, s.2.2.1, s.2.2.2, i.1)], false, s.2.2.1, s.2.2.2), [(row, kMore)])
      else ((row ++ [(i.2.2, s.2.2.1, s.2.2.2, i.1)], false, s.2.2.1, s.2.2.2), [])
    else if i.2.1 = kInk then ((row, false, i.2.2, s.2.2.2), [])
    else if i.2.1 = kGround then ((row, false, s.2.2.1, i.2.2), [])
    else ((row, false, dot, dot), [])
def goS (g : Bool) (told : List Pt) : Bool := match told.getLast? with
  | some p => decide (p.2 = kMore)
  | none => g
def mkO (most : Int) (s : Ms) (g : Bool) : OMaker := ⟨most, s.1, s.2.2.1, s.2.2.2, s.2.1, g⟩
theorem put_eq {most : Int} {s : Ms} {g : Bool} {i : Im} (h : GI i.2.1 i.2.2) (hm : most ≤ 200) (hl : (s.1.length : Int) ≤ most) :
    t_Maker_put (mkO most s g) i = some ((mkS most s i).2, mkO most (mkS most s i).1 (goS g (mkS most s i).2)) := by
  obtain ⟨p, k, v⟩ := i
  obtain ⟨row, stale, ink, ground⟩ := s
  dsimp only at h hl
  have hL : ∀ r : Ls, (r.length : Int) ≤ most → r.length < LIM := fun r hr => by unfold LIM; omega
  unfold t_Maker_put t_Maker_make_plain t_Maker_put_sign t_Maker_tell_part mkO
  cases h with
  | sign c hc =>
    cases stale with
    | true =>
      by_cases hz : (0 : Int) = most
      · subst hz; simp [kSign, kEnd, kAnew, mkS, goS, kMore, dot, appT, LIM]
      · simp [kSign, kEnd, kAnew, mkS, goS, kMore, dot, appT, LIM, hz]
    | false =>
      by_cases hz : (row.length : Int) = most
      · simp [kSign, kEnd, kAnew, mkS, goS, kMore, dot, appT, LIM, hz]
      · simp [kSign, kEnd, kAnew, mkS, goS, kMore, dot, hz, appT_ok (hL row hl)]
  | ink c hc => cases stale <;> simp [kSign, kEnd, kAnew, kInk, mkS, goS, dot]
  | ground c hc => cases stale <;> simp [kSign, kEnd, kAnew, kInk, kGround, mkS, goS, dot]
  | plain => cases stale <;> simp [kSign, kEnd, kAnew, kInk, kGround, kPlain, mkS, goS, dot]
  | fin => simp [kEnd, kAnew, mkS, goS, dot, kWhole, kMore]
  | anew => simp [kEnd, kAnew, mkS, goS, dot]
end OW

namespace OW
open PySem L2 LI
@[reducible] def grt : Ts := ['A', 'B', 'C', 'D', 'E', 'F', 'G', 'H', 'I', 'J', 'K', 'L', 'M', 'N', 'O', 'P', 'Q', 'R', 'S', 'T', 'U', 'V', 'W', 'X', 'Y', 'Z']
def wdC (s : Ts) : Int := match s with | [c] => if c ∈ grt then 2 else 1 | _ => 1
def okL (l : Lt) : Prop := ∃ c, l.1 = [c]
theorem wdC_in (s : Ts) : 1 ≤ wdC s ∧ wdC s ≤ 2 := by
  unfold wdC; split
  · split <;> omega
  · omega
theorem width_eq {l : Lt} (h : okL l) : t_width_of l.1 = some (wdC l.1) := by
  obtain ⟨c, h⟩ := h
  unfold t_width_of wdC
  rw [h]
  have : inS [c] grt = some (decide (c ∈ grt)) := rfl
  rw [show inS [c] ['A', 'B', 'C', 'D', 'E', 'F', 'G', 'H', 'I', 'J', 'K', 'L', 'M', 'N', 'O', 'P', 'Q', 'R', 'S', 'T', 'U', 'V', 'W', 'X', 'Y', 'Z'] = some (decide (c ∈ grt)) from rfl, Option.bind_some]
  by_cases hc : c ∈ grt <;> simp only [hc, decide_true, decide_false, if_true, if_false, Bool.false_eq_true]
theorem great_eq {l : Lt} (h : okL l) : (inS l.1 grt).bind (fun v => some (b01 v)) = some (wdC l.1 - 1) := by
  obtain ⟨c, h⟩ := h
  rw [h]
  rw [show inS [c] grt = some (decide (c ∈ grt)) from rfl, Option.bind_some]
  unfold wdC b01
  by_cases hc : c ∈ grt <;> simp only [hc, decide_true, decide_false, if_true, if_false, Bool.false_eq_true] <;> rfl
def tk : Int → List Lt → Nat
  | _, [] => 0
  | w, l :: ls => if wdC l.1 ≤ w then tk (w - wdC l.1) ls + 1 else 0
theorem tk_nil (w : Int) : tk w [] = 0 := rfl
theorem tk_cons (w : Int) (l : Lt) (ls : List Lt) : tk w (l :: ls) = if wdC l.1 ≤ w then tk (w - wdC l.1) ls + 1 else 0 := rfl
theorem tk_le : ∀ (ls : List Lt) (w : Int), tk w ls ≤ ls.length
  | [], w => Nat.le_refl _
  | l :: ls, w => by
    unfold tk; split
    · have := tk_le ls (w - wdC l.1); simp; omega
    · simp
theorem tk_pos {ls : List Lt} {w : Int} (h : ls ≠ []) (hw : 2 ≤ w) : 1 ≤ tk w ls := by
  cases ls with
  | nil => exact absurd rfl h
  | cons l ls =>
    unfold tk
    rw [if_pos (by have := wdC_in l.1; omega)]; omega
theorem drop_at {α : Type} {ls : List α} {a : Nat} (h : a < ls.length) : ls.drop a = ls[a] :: ls.drop (a + 1) := List.drop_eq_getElem_cons h
theorem taken_eq {ls : List Lt} (hk : ∀ l ∈ ls, okL l) (hl : ls.length < 5000) {lo : Nat} (h : lo ≤ ls.length) (w : Int) : t_taken ls (lo : Int) w = some ((lo + tk w (ls.drop lo) : Nat) : Int) := by
  unfold t_taken
  dsimp only
  obtain ⟨st, h1, _, h3⟩ := whileT_inv (p := fun (s1_ : (Int × Int)) => (if decide (s1_.2 < (List.length ls : Int)) = true then ((((atI ls s1_.2).bind fun v2_ => some v2_.1).bind fun v3_ => (t_width_of v3_)).bind fun v4_ => some (decide (v4_ ≤ s1_.1))) else some false)) (g := fun (s1_ : (Int × Int)) =>
      (((((atI ls s1_.2).bind fun v5_ => some v5_.1).bind fun v6_ => (t_width_of v6_)).bind fun v7_ => some (s1_.1 - v7_))).bind fun (room : Int) => some (room, (s1_.2 + (1 : Int))))
    (fun st => ∃ a : Nat, st.2 = (a : Int) ∧ a ≤ ls.length ∧ a + tk st.1 (ls.drop a) = lo + tk w (ls.drop lo)) (fun st => (ls.length - st.2).toNat) (fun st => st.2 = ((lo + tk w (ls.drop lo) : Nat) : Int)) (by
      rintro ⟨room, at_⟩ ⟨a, e1, h2, h3⟩
      dsimp only at e1 h2 h3 ⊢
      subst e1
      by_cases ha : a < ls.length
      · have hw := width_eq (hk ls[a] (List.getElem_mem ha))
        rw [drop_at ha, tk_cons] at h3
        by_cases hr : wdC ls[a].1 ≤ room
        · right
          rw [if_pos hr] at h3
          rw [if_pos (by simp [ha]), atI_nat ha]
          simp only [Option.bind_some, hw]
          refine ⟨by simp [hr], _, rfl, ⟨a + 1, by simp, by omega, by dsimp only; omega⟩, by dsimp only; omega⟩
        · left
          rw [if_neg hr] at h3
          rw [if_pos (by simp [ha]), atI_nat ha]
          simp only [Option.bind_some, hw]
          exact ⟨by simp [hr], by omega⟩
      · left
        have : a = ls.length := by omega
        subst this
        rw [List.drop_length, tk_nil] at h3
        exact ⟨by simp, by omega⟩) 5000 (w, (lo : Int)) ⟨lo, rfl, h, rfl⟩ (by dsimp only; omega)
  rw [h1, Option.bind_some, h3]
theorem cell_b_ex (ns : List Int) {k : Int} (h0 : 0 ≤ k) (h1 : k ≤ 1000000) : ∃ v, t_lw_cell_b ns k = some v := by
  unfold t_lw_cell_b
  by_cases h : k < (ns.length : Int)
  · obtain ⟨x, _, e⟩ := atI_ok h0 h
    exact ⟨x, by simp [h, e]⟩
  · rw [if_neg (by simp [h]), mulT_ok (by omega) (by omega)]
    simp only [Option.bind_some]
    by_cases hz : (0 : Int) < (ns.length : Int)
    · have := mod_in k (ns.length : Int) hz
      obtain ⟨x, _, e⟩ := atI_ok this.1 this.2
      simp only [hz, decide_true, if_true, modT_ok hz, Option.bind_some, e]
      exact ⟨_, rfl⟩
    · simp only [hz, decide_false, Bool.false_eq_true, if_false, Option.bind_some]
      exact ⟨_, rfl⟩
theorem stream_ex (c : Int) {n : Int} (h0 : 0 ≤ n) (h1 : n ≤ 1000) : ∃ xs, t_lw_stream c n = some xs ∧ (xs.length : Int) = n := by
  unfold t_lw_stream
  dsimp only
  rw [rngT_ok (by omega) (by omega), Option.bind_some]
  obtain ⟨s, h2, h3, h4⟩ := foldT_cnt (g := fun (s2_ : (Int × Int × (List Int))) (k : Int) =>
    ((if decide ((1000000000000000000 : Int) < c) = true then
    ((appT s2_.2.2 (s2_.2.1 % 1000000000))).bind fun (u3_ : (List Int)) =>
    let rest : Int := (s2_.2.1 / 1000000000)
    some (s2_.1, rest, u3_)
    else
    let number : Int := (((s2_.1 * 48271) + (104729 : Int)) % 2147483629)
    (((((mulT number number).bind fun v4_ => some (v4_ % 998244353)).bind fun v5_ => some (v5_ / 11)).bind fun v6_ => (appT s2_.2.2 v6_))).bind fun (u7_ : (List Int)) =>
    some (number, s2_.2.1, u7_) : Option (Int × Int × (List Int)))).bind fun (s8_ : (Int × Int × (List Int))) =>
    some (s8_.1, s8_.2.1, s8_.2.2)) (fun k (s : Int × Int × List Int) => (s.2.2.length : Int) + k = n ∧ True) ((List.range n.toNat).map fun (k : Nat) => (k : Int)) ((((c % 2147483647) + 7919) * 48271) + 104729, c, []) ⟨by simp; omega, trivial⟩ (by
      rintro k ⟨a, b, xs⟩ x ⟨hx, _⟩ _
      dsimp only at hx ⊢
      by_cases hc : (1000000000000000000 : Int) < c
      · rw [if_pos (by simp [hc]), appT_ok (by unfold LIM; omega)]
        exact ⟨_, rfl, by dsimp only; rw [List.length_append]; simp; omega, trivial⟩
      · have hm := mod_in (a * 48271 + 104729) 2147483629 (by omega)
        rw [if_neg (by simp [hc]), mulT_ok (by omega) (by omega)]
        simp only [Option.bind_some]
        rw [appT_ok (by unfold LIM; omega)]
        exact ⟨_, rfl, by dsimp only; rw [List.length_append]; simp; omega, trivial⟩)
  rw [h2, Option.bind_some]
  exact ⟨_, rfl, by omega⟩
theorem run_ex {xs : List Int} (h : xs.length = 7) : ∃ s, t_lw_run xs = some s ∧ s.length ≤ 100 := by
  obtain ⟨x0, _, e0⟩ := atI_ok (xs := xs) (i := 0) (by omega) (by omega)
  obtain ⟨x1, _, e1⟩ := atI_ok (xs := xs) (i := 1) (by omega) (by omega)
  obtain ⟨x2, _, e2⟩ := atI_ok (xs := xs) (i := 2) (by omega) (by omega)
  obtain ⟨x3, _, e3⟩ := atI_ok (xs := xs) (i := 3) (by omega) (by omega)
  have h8 := mod_in x0 8 (by omega)
  have h5 := mod_in x3 5 (by omega)
  unfold t_lw_run
  dsimp only
  simp only [e0, e1, e2, e3, Option.bind_some]
  obtain ⟨m, em, hm1, hm2⟩ := atI_all (xs := [(4 : Int), 6, 9, 40, 4, 3, 1, 2]) (P := fun m => 1 ≤ m ∧ m ≤ 40) h8.1 (by simpa using h8.2) (by decide)
  rw [em, Option.bind_some, modT_ok (by omega), Option.bind_some]
  have hmm := mod_in x1 m (by omega)
  simp only [Option.bind_some]
  rw [catS_ok (by decide), Option.bind_some, Option.bind_some]
  obtain ⟨sg, es, hs1, hs2⟩ := atI_all (xs := [(['a', 'b', 'c', 'd', 'e', 'f', 'g', 'h', 'i', 'j', 'k', 'l', 'm', 'n', 'o', 'p', 'q', 'r', 's', 't', 'u', 'v', 'w', 'x', 'y', 'z'] : Ts), ['a', 'b', 'c', 'd', 'e', 'f', 'g', 'h', 'i', 'j', 'k', 'l', 'm', 'n', 'o', 'p', 'q', 'r', 's', 't', 'u', 'v', 'w', 'x', 'y', 'z'], ['a', 'b', 'c', 'd', 'e', 'f', 'g', 'h', 'i', 'j', 'k', 'l', 'm', 'n', 'o', 'p', 'q', 'r', 's', 't', 'u', 'v', 'w', 'x', 'y', 'z'] ++ grt, ['a', 'b', 'c', 'd', 'e', 'f', 'g', 'h', 'i', 'j', 'k', 'l', 'm', 'n', 'o', 'p', 'q', 'r', 's', 't', 'u', 'v', 'w', 'x', 'y', 'z'], grt, [' '], [' '], ['!', '"', '#', '$', '&', '\'', '(', ')', '*', '+', ',', '-', '.', '/', '0', '1', '2', '3', '4', '5', '6', '7', '8', '9', ':', ';', '<', '=', '>', '?', '@', '[', '\\', ']', '^', '_', '`', '{', '|', '}']]) (P := fun s => 1 ≤ s.length ∧ s.length ≤ 100) h8.1 (by simpa using h8.2) (by decide)
  rw [show atI _ (x0 % 8) = some sg from es, Option.bind_some, rngT_ok (by omega) (by omega), Option.bind_some]
  obtain ⟨ys, ey, hy1, hy2⟩ := compT_ex (g := fun (k : Int) => ((some (x2 + (7 * k))).bind fun v9_ => (lenS sg).bind fun v10_ => (modT v9_ v10_)).bind fun v11_ => (ixS sg v11_)) (P := fun _ s => s.length = 1) (xs := (List.range (1 + x1 % m).toNat).map fun (k : Nat) => (k : Int)) (by simp; unfold LIM; omega) (by
    intro k _
    rw [lenS_ok (by unfold LIM; omega)]
    simp only [Option.bind_some]
    rw [modT_ok (by omega), Option.bind_some]
    have hq := mod_in (x2 + 7 * k) (sg.length : Int) (by omega)
    obtain ⟨c, _, e⟩ := ixS_mem (s := sg) (by unfold LIM; omega) hq.1 hq.2
    exact ⟨_, e, rfl⟩)
  simp only [Option.bind_some] at ey ⊢
  rw [ey, Option.bind_some]
  have hy3 : ys.flatten.length = ys.length := by
    have : ∀ zs : List Ts, (∀ z ∈ zs, z.length = 1) → zs.flatten.length = zs.length := by
      intro zs hz
      induction zs with
      | nil => rfl
      | cons z zs ih =>
        rw [List.flatten_cons, List.length_append, hz z (by simp), ih fun y hy => hz y (by simp [hy])]; simp; omega
    exact this ys fun z hz => by obtain ⟨_, _, h⟩ := hy2 z hz; exact h
  rw [List.length_map, List.length_range] at hy1
  have hjoin : joinS [] ys = some ys.flatten := by
    unfold joinS
    rw [if_pos (by rw [flat_sum, List.length_nil, Nat.mul_zero, Nat.add_zero]; unfold LIM; omega), join_nil]
  rw [hjoin, Option.bind_some]
  have hrl : (List.replicate (x3 % 5 / 2).toNat [' ']).flatten.length ≤ 2 := by
    have : (x3 % 5 / 2).toNat = 0 ∨ (x3 % 5 / 2).toNat = 1 ∨ (x3 % 5 / 2).toNat = 2 := by omega
    rcases this with h | h | h <;> rw [h] <;> decide
  have hrep : repS [' '] (x3 % 5 / 2) = some (List.replicate (x3 % 5 / 2).toNat [' ']).flatten := by
    unfold repS
    rw [if_pos ⟨by omega, by omega, by simp; unfold LIM; omega⟩]
  rw [hrep, Option.bind_some, catS_ok (by unfold LIM; omega)]
  exact ⟨_, rfl, by rw [List.length_append]; omega⟩
theorem letters_ex (ns : List Int) {at_ most : Nat} (ha : at_ ≤ 1000) (hm : most ≤ 1000) : ∃ ls, t_lw_letters ns (at_ : Int) (most : Int) = some ls ∧ (∀ l ∈ ls, okL l) ∧ ls.length ≤ most := by
  unfold t_lw_letters
  dsimp only
  obtain ⟨c0, ec⟩ := cell_b_ex ns (k := (at_ : Int)) (by omega) (by omega)
  obtain ⟨v0, ev, _, _⟩ := mix_ex c0 0 (by omega) (by omega)
  rw [ec, Option.bind_some, ev, Option.bind_some, Option.bind_some, rngT_ok (by omega) (by omega), Option.bind_some]
  obtain ⟨s, h1, h2, h3⟩ := foldT_inv (g := fun (s4_ : ((List (Ts × Ts × Ts × Int)) × Int)) (k : Int) =>
    (((t_lw_cell_b ns ((at_ : Int) + k)).bind fun v5_ => (t_lw_stream v5_ (7 : Int)))).bind fun (xs : (List Int)) =>
    (((t_lw_run xs).bind fun v6_ => some (chars v6_)).bind fun v7_ => (foldT (fun (s8_ : ((List (Ts × Ts × Ts × Int)) × Int)) (sign : Ts) =>
    ((if decide ((List.length s8_.1 : Int) < (most : Int)) = true then
    ((((((atI xs (4 : Int)).bind fun v9_ => some (v9_ % 9)).bind fun v10_ => (ixS (['a', 'b', 'c', 'd', 'e', 'f', 'g', 'h', '.'] : Ts) v10_)).bind fun v11_ => (((atI xs (5 : Int)).bind fun v12_ => some (v12_ % 9)).bind fun v13_ => (ixS (['a', 'b', 'c', 'd', 'e', 'f', 'g', 'h', '.'] : Ts) v13_)).bind fun v14_ => some (sign, v11_, v14_, s8_.2)).bind fun v15_ => (appT s8_.1 v15_))).bind fun (u16_ : (List (Ts × Ts × Ts × Int))) =>
    some u16_
    else
    some s8_.1 : Option (List (Ts × Ts × Ts × Int)))).bind fun (s17_ : (List (Ts × Ts × Ts × Int))) =>
    ((((atI xs (6 : Int)).bind fun v18_ => some (v18_ % 3)).bind fun v19_ => some ((s8_.2 + (1 : Int)) + v19_))).bind fun (place : Int) =>
    some (s17_, place)) v7_ (s4_.1, s4_.2)).bind fun (s8_ : ((List (Ts × Ts × Ts × Int)) × Int)) =>
    some (s8_.1, s8_.2)))
    (fun (s : List Lt × Int) => (∀ l ∈ s.1, okL l) ∧ s.1.length ≤ most) ((List.range (max (1 : Int) (min (40 : Int) ((List.length ns : Int) - (at_ : Int)))).toNat).map fun (k : Nat) => (k : Int)) ([], v0 % 1000) ⟨by simp, by simp⟩ (by
      rintro ⟨acc, pl⟩ k ⟨hk1, hk2⟩ hx
      dsimp only at hk1 hk2 ⊢
      obtain ⟨j, hj, rfl⟩ := List.mem_map.mp hx
      rw [List.mem_range] at hj
      obtain ⟨c, e1⟩ := cell_b_ex ns (k := (at_ : Int) + (j : Int)) (by omega) (by omega)
      obtain ⟨xs, e2, hx7⟩ := stream_ex c (n := 7) (by omega) (by omega)
      have hx7' : xs.length = 7 := by omega
      obtain ⟨t, e3, ht⟩ := run_ex hx7'
      obtain ⟨x4, _, e4⟩ := atI_ok (xs := xs) (i := 4) (by omega) (by omega)
      obtain ⟨x5, _, e5⟩ := atI_ok (xs := xs) (i := 5) (by omega) (by omega)
      obtain ⟨x6, _, e6⟩ := atI_ok (xs := xs) (i := 6) (by omega) (by omega)
      obtain ⟨k4, _, c4⟩ := colour_ex (v := x4)
      obtain ⟨k5, _, c5⟩ := colour_ex (v := x5)
      rw [e1, Option.bind_some, e2, Option.bind_some, e3, Option.bind_some, Option.bind_some]
      obtain ⟨s2, h4, h5, h6⟩ := foldT_inv (g := fun (s8_ : ((List (Ts × Ts × Ts × Int)) × Int)) (sign : Ts) =>
        ((if decide ((List.length s8_.1 : Int) < (most : Int)) = true then
        ((((((atI xs (4 : Int)).bind fun v9_ => some (v9_ % 9)).bind fun v10_ => (ixS (['a', 'b', 'c', 'd', 'e', 'f', 'g', 'h', '.'] : Ts) v10_)).bind fun v11_ => (((atI xs (5 : Int)).bind fun v12_ => some (v12_ % 9)).bind fun v13_ => (ixS (['a', 'b', 'c', 'd', 'e', 'f', 'g', 'h', '.'] : Ts) v13_)).bind fun v14_ => some (sign, v11_, v14_, s8_.2)).bind fun v15_ => (appT s8_.1 v15_))).bind fun (u16_ : (List (Ts × Ts × Ts × Int))) =>
        some u16_
        else
        some s8_.1 : Option (List (Ts × Ts × Ts × Int)))).bind fun (s17_ : (List (Ts × Ts × Ts × Int))) =>
        ((((atI xs (6 : Int)).bind fun v18_ => some (v18_ % 3)).bind fun v19_ => some ((s8_.2 + (1 : Int)) + v19_))).bind fun (place : Int) =>
        some (s17_, place)) (fun (s : List Lt × Int) => (∀ l ∈ s.1, okL l) ∧ s.1.length ≤ most) (chars t) (acc, pl) ⟨hk1, hk2⟩ (by
          rintro ⟨acc, pl⟩ sg ⟨hk1, hk2⟩ hs
          dsimp only at hk1 hk2 ⊢
          obtain ⟨ch, _, rfl⟩ := chars_mem hs
          simp only [e4, e5, e6, Option.bind_some, c4, c5]
          by_cases hlt : (acc.length : Int) < (most : Int)
          · rw [if_pos (by simp [hlt]), appT_ok (by unfold LIM; omega)]
            refine ⟨_, rfl, ?_, by simp; omega⟩
            intro l hl
            rcases List.mem_append.mp hl with hl | hl
            · exact hk1 l hl
            · rw [List.mem_singleton] at hl; subst hl; exact ⟨_, rfl⟩
          · rw [if_neg (by simp [hlt])]
            exact ⟨_, rfl, hk1, hk2⟩)
      rw [h4, Option.bind_some]
      exact ⟨_, rfl, h5, h6⟩)
  rw [h1, Option.bind_some]
  obtain ⟨c, e1⟩ := cell_b_ex ns (k := 0) (by omega) (by omega)
  obtain ⟨v9, e9, _, _⟩ := mix_ex c 9 (by omega) (by omega)
  rw [e1, Option.bind_some, e9]
  simp only [Option.bind_some]
  split
  · exact ⟨_, rfl, by simp, by simp⟩
  · exact ⟨_, rfl, h2, h3⟩
theorem wide_ex (ns : List Int) : ∃ w, t_lw_wide ns = some w ∧ 2 ≤ w ∧ w ≤ 40 := by
  unfold t_lw_wide
  obtain ⟨c, e1⟩ := cell_b_ex ns (k := 1) (by omega) (by omega)
  obtain ⟨v7, e7, _, _⟩ := mix_ex c 7 (by omega) (by omega)
  obtain ⟨v8, e8, _, _⟩ := mix_ex c 8 (by omega) (by omega)
  have h4 := mod_in v8 4 (by omega)
  obtain ⟨m, em, hm1, hm2⟩ := atI_all (xs := [(4 : Int), 9, 9, 39]) (P := fun m => 1 ≤ m ∧ m ≤ 39) h4.1 (by simpa using h4.2) (by decide)
  simp only [e1, e7, e8, Option.bind_some, em]
  rw [modT_ok (by omega), Option.bind_some]
  have := mod_in v7 m (by omega)
  exact ⟨_, rfl, by omega, by omega⟩
end OW

namespace OW
open PySem L2 LI
theorem atI_lastG {α : Type} {xs : List α} {x : α} : atI (xs ++ [x]) (-1) = some x := by
  unfold atI ixN
  simp
  rw [if_pos (by omega), Option.bind_some, show (-1 + ((xs.length : Int) + 1)).toNat = xs.length by omega]
  simp
def sgnL (ls : List Lt) (i : Nat) : Ts := (ls[i]?.map fun l => l.1).getD []
theorem sgn_at {ls : List Lt} {i : Nat} (h : i < ls.length) : sgnL ls i = ls[i].1 := by
  unfold sgnL; rw [List.getElem?_eq_getElem h]; rfl
def brkI (ls : List Lt) (x : Int) : Bool := decide (sgnL ls (x - 1).toNat = [' ']) && !decide (sgnL ls x.toNat = [' '])
def breaksL (ls : List Lt) : List Int := (((List.range (ls.length - 1)).map fun (j : Nat) => 1 + (j : Int)).filter (brkI ls)) ++ (if 0 < ls.length then [(ls.length : Int)] else [])
theorem foldT_fil {α : Type} {g : List α → α → Option (List α)} {q : α → Bool} : ∀ (xs acc : List α), acc.length + xs.length ≤ LIM → (∀ acc x, x ∈ xs → acc.length < LIM → g acc x = some (if q x = true then acc ++ [x] else acc)) → foldT g xs acc = some (acc ++ xs.filter q)
  | [], acc, _, _ => by rw [List.filter_nil, List.append_nil]; rfl
  | x :: xs, acc, hl, h => by
    rw [List.length_cons] at hl
    rw [foldT_cons, h acc x (by simp) (by omega), Option.bind_some, foldT_fil xs _ (by split <;> first | omega | (rw [List.length_append, List.length_singleton]; omega)) fun a y hy ha => h a y (by simp [hy]) ha]
    cases hq : q x <;> simp [hq]
theorem breaks_eq {ls : List Lt} (hl : ls.length ≤ 100000) : t_breaks ls = some (breaksL ls) := by
  unfold t_breaks
  dsimp only
  rw [rng2T_ok (by omega) (by omega) (by omega) (by omega), Option.bind_some]
  rw [show ((ls.length : Int) - 1).toNat = ls.length - 1 by omega]
  rw [foldT_fil (q := brkI ls) _ _ (by simp; unfold LIM; omega) (by
    intro acc x hx ha
    obtain ⟨j, hj, rfl⟩ := List.mem_map.mp hx
    rw [List.mem_range] at hj
    have e1 : (1 + (j : Int) - 1) = (j : Int) := by omega
    have e2 : (1 + (j : Int)) = ((j + 1 : Nat) : Int) := by omega
    have e3 : brkI ls (1 + (j : Int)) = (decide (ls[j].1 = [' ']) && !decide (ls[j + 1].1 = [' '])) := by
      unfold brkI
      rw [e1, Int.toNat_natCast, e2, Int.toNat_natCast, sgn_at (by omega), sgn_at (by omega)]
    rw [e3, e1, LI.atI_nat (show j < ls.length by omega), e2, LI.atI_nat (show j + 1 < ls.length by omega)]
    simp only [Option.bind_some, appT_ok ha]
    by_cases h1 : ls[j].1 = [' ']
    · by_cases h2 : ls[j + 1].1 = [' '] <;> simp [h1, h2]
    · simp [h1]), Option.bind_some, List.nil_append]
  unfold breaksL
  have hf := List.length_filter_le (brkI ls) ((List.range (ls.length - 1)).map fun (j : Nat) => 1 + (j : Int))
  rw [List.length_map, List.length_range] at hf
  by_cases h0 : 0 < ls.length
  · rw [if_pos (by simp [h0]), appT_ok (by unfold LIM; omega), if_pos h0]; rfl
  · rw [if_neg (by simp [h0]), if_neg h0, List.append_nil]; rfl
theorem breaks_len {ls : List Lt} : (breaksL ls).length ≤ ls.length := by
  unfold breaksL
  have hf := List.length_filter_le (brkI ls) ((List.range (ls.length - 1)).map fun (j : Nat) => 1 + (j : Int))
  rw [List.length_map, List.length_range] at hf
  rw [List.length_append]
  split
  · simp; omega
  · simp; omega
theorem breaks_in {ls : List Lt} {s : Int} (h : s ∈ breaksL ls) : 1 ≤ s ∧ s ≤ ls.length := by
  unfold breaksL at h
  rcases List.mem_append.mp h with h | h
  · obtain ⟨j, hj, rfl⟩ := List.mem_map.mp (List.mem_filter.mp h).1
    rw [List.mem_range] at hj; omega
  · split at h
    · rw [List.mem_singleton] at h; omega
    · simp at h
theorem breaks_up {ls : List Lt} : (breaksL ls).Pairwise (· < ·) := by
  unfold breaksL
  rw [List.pairwise_append]
  refine ⟨List.Pairwise.filter _ ?_, ?_, ?_⟩
  · rw [List.pairwise_map]
    exact List.Pairwise.imp (fun {a b} (h : a < b) => by omega) List.pairwise_lt_range
  · split <;> simp
  · intro a ha b hb
    obtain ⟨j, hj, rfl⟩ := List.mem_map.mp (List.mem_filter.mp ha).1
    rw [List.mem_range] at hj
    split at hb
    · rw [List.mem_singleton] at hb; omega
    · simp at hb
def bareN (ls : List Lt) (lo : Nat) : Nat → Nat
  | 0 => 0
  | h + 1 => if lo < h + 1 ∧ sgnL ls h = [' '] then bareN ls lo h else h + 1
theorem bareN_le (ls : List Lt) (lo : Nat) : ∀ h, bareN ls lo h ≤ h
  | 0 => Nat.le_refl _
  | h + 1 => by
    unfold bareN; split
    · have := bareN_le ls lo h; omega
    · exact Nat.le_refl _
theorem bare_while {ls : List Lt} (lo : Nat) : ∀ (m h : Nat), h < m → h ≤ ls.length → whileT (fun (s1_ : Int) => (if decide ((lo : Int) < s1_) = true then (((atI ls (s1_ - (1 : Int))).bind fun v2_ => some v2_.1).bind fun v3_ => some (decide (v3_ = [' ']))) else some false)) (fun (s1_ : Int) => let hi : Int := (s1_ - (1 : Int)); some hi) m (h : Int) = some ((bareN ls lo h : Nat) : Int)
  | 0, h, hm, _ => absurd hm (Nat.not_lt_zero _)
  | m + 1, 0, _, _ => by
    rw [whileT_succ]
    unfold bareN
    rw [if_neg (by simp)]; rfl
  | m + 1, h + 1, hm, hl => by
    rw [whileT_succ]
    have e : (((h + 1 : Nat) : Int) - 1) = (h : Int) := by omega
    by_cases c1 : lo < h + 1
    · rw [if_pos (by simp; omega), e, LI.atI_nat (show h < ls.length by omega)]
      simp only [Option.bind_some]
      rw [← sgn_at (ls := ls) (i := h) (by omega)]
      by_cases c2 : sgnL ls h = [' ']
      · have hb : bareN ls lo (h + 1) = bareN ls lo h := if_pos ⟨c1, c2⟩
        rw [hb, c2]
        exact bare_while lo m h (by omega) (by omega)
      · have hb : bareN ls lo (h + 1) = h + 1 := if_neg (fun k => c2 k.2)
        rw [hb, decide_eq_false c2]; rfl
    · have hb : bareN ls lo (h + 1) = h + 1 := if_neg (fun k => c1 k.1)
      rw [if_neg (by simp; omega), hb]; rfl
theorem bare_eq {ls : List Lt} (lo h : Nat) (hh : h ≤ ls.length) (hl : ls.length < 5000) : t_bare_end ls (lo : Int) (h : Int) = some ((bareN ls lo h : Nat) : Int) := by
  unfold t_bare_end
  rw [bare_while lo 5000 h (by omega) hh]; rfl
def sumW (ls : List Lt) : Int := (ls.map fun l => wdC l.1).sum
theorem sumW_nn : ∀ ls : List Lt, 0 ≤ sumW ls
  | [] => Int.le_refl _
  | l :: ls => by
    have := sumW_nn ls; have := wdC_in l.1
    unfold sumW at *; rw [List.map_cons, List.sum_cons]; omega
theorem sumW_app (a b : List Lt) : sumW (a ++ b) = sumW a + sumW b := by
  unfold sumW; rw [List.map_append, List.sum_append]
theorem cells_of_eq {ls : List Lt} (hk : ∀ l ∈ ls, okL l) (hl : ls.length ≤ LIM) : t_cells_of ls = some (sumW ls) := by
  unfold t_cells_of
  rw [compT_map (f := fun l => wdC l.1) hl fun l h => width_eq (hk l h)]; rfl
def cel (ls : List Lt) (lo hi : Nat) : Int := sumW ((ls.take (bareN ls lo hi)).drop lo)
theorem cells_between_eq {ls : List Lt} (hk : ∀ l ∈ ls, okL l) (lo h : Nat) (hh : h ≤ ls.length) (hl : ls.length < 5000) : t_cells_between ls (lo : Int) (h : Int) = some (cel ls lo h) := by
  unfold t_cells_between
  rw [bare_eq lo h hh hl]
  simp only [Option.bind_some]
  rw [cut_nat, cells_of_eq (fun l h => hk l (List.mem_of_mem_take (List.mem_of_mem_drop h))) (by rw [List.length_drop, List.length_take]; unfold LIM; omega)]; rfl
theorem fits_eq {ls : List Lt} (hk : ∀ l ∈ ls, okL l) (lo h : Nat) (hh : h ≤ ls.length) (hl : ls.length < 5000) (w : Int) : t_fits ls (lo : Int) (h : Int) w = some (decide (cel ls lo h ≤ w)) := by
  unfold t_fits
  rw [cells_between_eq hk lo h hh hl]; rfl
theorem tk_sum : ∀ (ls : List Lt) (w : Int), 0 ≤ w → sumW (ls.take (tk w ls)) ≤ w
  | [], w, h => by unfold tk; simpa [sumW] using h
  | l :: ls, w, h => by
    unfold tk; split
    · next hc =>
      have := tk_sum ls (w - wdC l.1) (by omega)
      rw [List.take_succ_cons]
      unfold sumW at *; rw [List.map_cons, List.sum_cons]; omega
    · simpa [sumW] using h
theorem take_sum (ls : List Lt) {a b : Nat} (h : a ≤ b) : sumW (ls.take a) ≤ sumW (ls.take b) := by
  have e : ls.take b = ls.take a ++ (ls.take b).drop a := by
    conv => lhs; rw [← List.take_append_drop a (ls.take b)]
    rw [List.take_take, Nat.min_eq_left h]
  rw [e, sumW_app]
  have := sumW_nn ((ls.take b).drop a)
  omega
theorem fit_taken (ls : List Lt) (lo h : Nat) (w : Int) (hw : 0 ≤ w) (h1 : lo ≤ h) (h2 : h ≤ lo + tk w (ls.drop lo)) : cel ls lo h ≤ w := by
  unfold cel
  have hb := bareN_le ls lo h
  rw [List.drop_take]
  have := take_sum (ls.drop lo) (a := bareN ls lo h - lo) (b := tk w (ls.drop lo)) (by omega)
  have := tk_sum (ls.drop lo) w hw
  omega
def rch (ls : List Lt) (lo : Nat) (w : Int) : List Int → List Int
  | [] => []
  | s :: ss => if (lo : Int) < s then (if cel ls lo s.toNat ≤ w then s :: rch ls lo w ss else []) else rch ls lo w ss
theorem rch_sub (ls : List Lt) (lo : Nat) (w : Int) : ∀ (ss : List Int) (s : Int), s ∈ rch ls lo w ss → s ∈ ss ∧ (lo : Int) < s ∧ cel ls lo s.toNat ≤ w
  | [], s, h => by simp [rch] at h
  | t :: ss, s, h => by
    unfold rch at h
    split at h
    · next h1 =>
      split at h
      · next h2 =>
        rcases List.mem_cons.mp h with rfl | h
        · exact ⟨by simp, h1, h2⟩
        · obtain ⟨a, b⟩ := rch_sub ls lo w ss s h
          exact ⟨by simp [a], b⟩
      · simp at h
    · obtain ⟨a, b⟩ := rch_sub ls lo w ss s h
      exact ⟨by simp [a], b⟩
theorem rch_len (ls : List Lt) (lo : Nat) (w : Int) : ∀ (ss : List Int), (rch ls lo w ss).length ≤ ss.length
  | [] => Nat.le_refl _
  | t :: ss => by
    have := rch_len ls lo w ss
    unfold rch
    split
    · split
      · simp; omega
      · simp
    · simp; omega
theorem reached_go {ls : List Lt} {lo : Nat} {w : Int} {g : List Int → Int → Option (St (List Int) (List Int))} : ∀ (ss acc : List Int), acc.length + ss.length ≤ LIM → (∀ acc s, s ∈ ss → acc.length < LIM → g acc s = if (lo : Int) < s then (if cel ls lo s.toNat ≤ w then some (.nx (acc ++ [s])) else some (.bk acc)) else some (.nx acc)) → forT g ss acc = some (.inl (acc ++ rch ls lo w ss))
  | [], acc, _, _ => by unfold rch; rw [List.append_nil]; rfl
  | s :: ss, acc, hl, h => by
    rw [List.length_cons] at hl
    have h0 := h acc s (by simp) (by omega)
    rw [forT_cons, h0]
    unfold rch
    split
    · split
      · simp only [Option.bind_some]
        rw [reached_go (lo := lo) (w := w) (ls := ls) ss _ (by simp; omega) fun a y hy ha => h a y (by simp [hy]) ha]
        simp
      · simp
    · simp only [Option.bind_some]
      exact reached_go ss _ (by omega) fun a y hy ha => h a y (by simp [hy]) ha
def lines1 (ls : List Lt) (lo : Nat) (w : Int) : List Int := if rch ls lo w (breaksL ls) = [] then [((lo + tk w (ls.drop lo) : Nat) : Int)] else rch ls lo w (breaksL ls)
theorem reached_eq {ls : List Lt} (hk : ∀ l ∈ ls, okL l) (hl : ls.length < 5000) {lo : Nat} (h : lo ≤ ls.length) (w : Int) : t_reached ls (breaksL ls) (lo : Int) w = some (lines1 ls lo w) := by
  unfold t_reached
  dsimp only
  have hb := breaks_len (ls := ls)
  rw [reached_go (ls := ls) (lo := lo) (w := w) (breaksL ls) [] (by simp; unfold LIM; omega) (by
    intro acc s hs ha
    obtain ⟨h1, h2⟩ := breaks_in hs
    obtain ⟨k, rfl⟩ : ∃ k : Nat, s = (k : Int) := ⟨s.toNat, by omega⟩
    rw [fits_eq hk lo k (by omega) hl w]
    by_cases c1 : (lo : Int) < (k : Int)
    · by_cases c2 : cel ls lo k ≤ w
      · simp [c1, c2, appT_ok ha]
      · simp [c1, c2]
    · simp [c1])]
  rw [Option.bind_some, seqT_inl, List.nil_append]
  unfold lines1
  by_cases c : rch ls lo w (breaksL ls) = []
  · simp [c, taken_eq hk hl h]
  · simp [c]
theorem lines1_ne {ls : List Lt} {lo : Nat} {w : Int} : lines1 ls lo w ≠ [] := by
  unfold lines1; split
  · simp
  · next h => exact h
theorem lines1_in {ls : List Lt} {lo : Nat} {w : Int} (hw : 2 ≤ w) (h : lo < ls.length) {s : Int} (hs : s ∈ lines1 ls lo w) : (lo : Int) < s ∧ s ≤ ls.length ∧ cel ls lo s.toNat ≤ w := by
  unfold lines1 at hs
  split at hs
  · rw [List.mem_singleton] at hs
    subst hs
    have h1 := tk_le (ls.drop lo) w
    have h2 := tk_pos (ls := ls.drop lo) (w := w) (by rw [Ne, List.drop_eq_nil_iff]; omega) hw
    rw [List.length_drop] at h1
    refine ⟨by omega, by omega, ?_⟩
    rw [Int.toNat_natCast]
    exact fit_taken ls lo _ w (by omega) (by omega) (Nat.le_refl _)
  · obtain ⟨a, b, c⟩ := rch_sub _ _ _ _ _ hs
    exact ⟨b, (breaks_in a).2, c⟩
def lineW (ls : List Lt) (w : Int) (lo : Nat) : Nat := ((lines1 ls lo w).getLast lines1_ne).toNat
theorem lineW_in {ls : List Lt} {lo : Nat} {w : Int} (hw : 2 ≤ w) (h : lo < ls.length) : lo < lineW ls w lo ∧ lineW ls w lo ≤ ls.length ∧ cel ls lo (lineW ls w lo) ≤ w := by
  have := lines1_in hw h (List.getLast_mem (lines1_ne (ls := ls) (lo := lo) (w := w)))
  unfold lineW
  exact ⟨by omega, by omega, this.2.2⟩
theorem at_last {α : Type} {xs : List α} (h : xs ≠ []) : atI xs (-1) = some (xs.getLast h) := by
  conv => lhs; rw [← List.dropLast_concat_getLast h]
  exact atI_lastG
def lineC (ls : List Lt) (w : Int) (lo : Nat) : Nat := lo + tk w (ls.drop lo)
theorem lineC_in {ls : List Lt} {lo : Nat} {w : Int} (hw : 2 ≤ w) (h : lo < ls.length) : lo < lineC ls w lo ∧ lineC ls w lo ≤ ls.length := by
  have h1 := tk_le (ls.drop lo) w
  have h2 := tk_pos (ls := ls.drop lo) (w := w) (by rw [Ne, List.drop_eq_nil_iff]; omega) hw
  rw [List.length_drop] at h1
  unfold lineC; omega
theorem line_end_W {ls : List Lt} (hk : ∀ l ∈ ls, okL l) (hl : ls.length < 5000) {lo : Nat} (h : lo < ls.length) {w : Int} (hw : 2 ≤ w) : t_line_end ls (breaksL ls) (lo : Int) w ['w', 'o', 'r', 'd', 's'] = some ((lineW ls w lo : Nat) : Int) := by
  unfold t_line_end
  rw [if_pos (by decide), reached_eq hk hl (by omega), Option.bind_some, at_last lines1_ne]
  have := lines1_in hw h (List.getLast_mem (lines1_ne (ls := ls) (lo := lo) (w := w)))
  unfold lineW
  congr 1; omega
theorem line_end_C {ls : List Lt} (hk : ∀ l ∈ ls, okL l) (hl : ls.length < 5000) {lo : Nat} (h : lo ≤ ls.length) {w : Int} {way : Ts} (hy : way ≠ ['w', 'o', 'r', 'd', 's']) : t_line_end ls (breaksL ls) (lo : Int) w way = some ((lineC ls w lo : Nat) : Int) := by
  unfold t_line_end
  rw [if_neg (by simp [hy]), taken_eq hk hl h]; rfl
def chain (f : Nat → Nat) (n : Nat) : Nat → Nat → List (Int × Int)
  | 0, _ => []
  | k + 1, a => if a < n then ((a : Int), (f a : Int)) :: chain f n k (f a) else []
theorem chain_while {f : Nat → Nat} {n : Nat} {p : List (Int × Int) → Option Bool} {g : List (Int × Int) → Option (List (Int × Int))} (hf : ∀ a, a < n → a < f a ∧ f a ≤ n)
    (hp : ∀ xs x (a : Nat), a ≤ n → p (xs ++ [(x, (a : Int))]) = some (decide (a < n))) (hg : ∀ xs x (a : Nat), a < n → xs.length ≤ a → g (xs ++ [(x, (a : Int))]) = some (xs ++ [(x, (a : Int))] ++ [((a : Int), (f a : Int))])) :
    ∀ (m k : Nat) (xs : List (Int × Int)) (x : Int) (a : Nat), n - a ≤ k → k < m → a ≤ n → xs.length ≤ a → whileT p g m (xs ++ [(x, (a : Int))]) = some (xs ++ [(x, (a : Int))] ++ chain f n k a)
  | 0, _, _, _, _, _, hm, _, _ => absurd hm (Nat.not_lt_zero _)
  | m + 1, k, xs, x, a, h1, h2, h3, h4 => by
    rw [whileT_succ, hp xs x a h3, Option.bind_some]
    by_cases c : a < n
    · have := hf a c
      rw [if_pos (by simp [c]), hg xs x a c h4, Option.bind_some]
      cases k with
      | zero => omega
      | succ k =>
        rw [chain_while hf hp hg m k (xs ++ [(x, (a : Int))]) (a : Int) (f a) (by omega) (by omega) this.2 (by simp; omega)]
        rw [show chain f n (k + 1) a = ((a : Int), (f a : Int)) :: chain f n k (f a) from by rw [chain, if_pos c]]
        simp
    · rw [if_neg (by simp [c])]
      have : chain f n k a = [] := by cases k <;> simp [chain, c]
      rw [this, List.append_nil]
end OW

namespace OW
open PySem L2 LI
section
variable {κ α : Type} [DecidableEq κ]
theorem getT_new {k : κ} {v : α} : ∀ {m : List (κ × α)}, (∀ p ∈ m, p.1 ≠ k) → getT (m ++ [(k, v)]) k = some v
  | [], _ => by simp [getT]
  | p :: m, h => by
    rw [List.cons_append, getT, if_neg (h p (by simp))]
    exact getT_new fun q hq => h q (by simp [hq])
theorem getT_old {k k' : κ} {v : α} (hn : k' ≠ k) : ∀ {m : List (κ × α)}, getT (m ++ [(k', v)]) k = getT m k
  | [] => by simp [getT, hn]
  | p :: m => by
    rw [List.cons_append, getT, getT]
    by_cases h : p.1 = k
    · rw [if_pos h, if_pos h]
    · rw [if_neg h, if_neg h]; exact getT_old hn
theorem any_ne {k : κ} {m : List (κ × α)} (h : ∀ p ∈ m, p.1 ≠ k) : (m.any fun p => decide (p.1 = k)) = false := by
  rw [List.any_eq_false]
  intro p hp
  simp [h p hp]
theorem putC_new {k : κ} {v : α} {m : List (κ × α)} (h : ∀ p ∈ m, p.1 ≠ k) (hl : m.length < LIM) : putC m k v = some (m ++ [(k, v)]) := by
  unfold putC putT
  rw [if_pos hl, any_ne h, if_neg (by simp)]
theorem putC_last {k : κ} {v v' : α} {m : List (κ × α)} (h : ∀ p ∈ m, p.1 ≠ k) (hl : m.length + 1 < LIM) : putC (m ++ [(k, v)]) k v' = some (m ++ [(k, v')]) := by
  unfold putC putT
  rw [if_pos (by rw [List.length_append]; exact hl), if_pos (by simp)]
  congr 1
  rw [List.map_append]
  congr 1
  · conv => rhs; rw [← List.map_id m]
    refine List.map_congr_left fun p hp => ?_
    rw [if_neg (h p hp)]; rfl
  · simp
end
def costN (ls : List Lt) (w : Int) (lo hi : Nat) : Int := if hi = ls.length then 0 else (w - cel ls lo hi) * (w - cel ls lo hi)
def minL : List Int → Int
  | [] => 0
  | x :: xs => xs.foldl min x
theorem minL_in {xs : List Int} (h : xs ≠ []) : minL xs ∈ xs ∧ ∀ y ∈ xs, minL xs ≤ y := by
  cases xs with
  | nil => exact absurd rfl h
  | cons x xs =>
    obtain ⟨h1, h2, h3⟩ := foldl_min xs x
    refine ⟨?_, ?_⟩
    · show xs.foldl min x ∈ x :: xs
      rcases h1 with h1 | h1
      · rw [h1]; simp
      · simp [h1]
    · intro y hy
      show xs.foldl min x ≤ y
      rcases List.mem_cons.mp hy with rfl | hy
      · exact h2
      · exact h3 y hy
def prF (ls : List Lt) (w : Int) : Nat → Nat → Int
  | 0, _ => 0
  | k + 1, a => if a < ls.length then minL ((lines1 ls a w).map fun s => costN ls w a s.toNat + prF ls w k s.toNat) else 0
theorem prF_s {ls : List Lt} {w : Int} {k a : Nat} : prF ls w (k + 1) a = if a < ls.length then minL ((lines1 ls a w).map fun s => costN ls w a s.toNat + prF ls w k s.toNat) else 0 := rfl
theorem prF_succ {ls : List Lt} {w : Int} (hw : 2 ≤ w) : ∀ (k a : Nat), ls.length - a ≤ k → prF ls w (k + 1) a = prF ls w k a
  | 0, a, h => by rw [prF_s, if_neg (by omega)]; rfl
  | k + 1, a, h => by
    rw [prF_s, prF_s]
    by_cases c : a < ls.length
    · rw [if_pos c, if_pos c]
      congr 1
      refine List.map_congr_left fun s hs => ?_
      have := lines1_in hw c hs
      rw [prF_succ hw k s.toNat (by omega)]
    · rw [if_neg c, if_neg c]
def pr (ls : List Lt) (w : Int) (a : Nat) : Int := prF ls w ls.length a
theorem pr_at {ls : List Lt} {w : Int} (hw : 2 ≤ w) {a : Nat} (h : a < ls.length) : pr ls w a = minL ((lines1 ls a w).map fun s => costN ls w a s.toNat + pr ls w s.toNat) := by
  unfold pr
  obtain ⟨m, hm⟩ : ∃ m, ls.length = m + 1 := ⟨ls.length - 1, by omega⟩
  rw [hm, prF_s, if_pos h]
  congr 1
  refine List.map_congr_left fun s hs => ?_
  have := lines1_in hw h hs
  rw [prF_succ hw m s.toNat (by omega)]
theorem pr_end {ls : List Lt} {w : Int} {a : Nat} (h : ¬ a < ls.length) : pr ls w a = 0 := by
  unfold pr
  cases ls.length with
  | zero => rfl
  | succ m => rw [prF_s, if_neg h]
def evO (ls : List Lt) (w : Int) : OEven := ⟨ls, w, breaksL ls⟩
def mv (ls : List Lt) (w : Int) (a : Nat) : List (Int × Ts × (Int × Int)) := (lines1 ls a w).map fun s => (costN ls w a s.toNat, (toString s).toList, (s, 0))
theorem lines1_len {ls : List Lt} {lo : Nat} {w : Int} : (lines1 ls lo w).length ≤ ls.length + 1 := by
  unfold lines1; split
  · simp
  · have := rch_len ls lo w (breaksL ls); have := breaks_len (ls := ls); omega
theorem cel_nn (ls : List Lt) (lo hi : Nat) : 0 ≤ cel ls lo hi := sumW_nn _
theorem evMoves_eq {ls : List Lt} (hk : ∀ l ∈ ls, okL l) (hl : ls.length ≤ 1000) {w : Int} (h1 : 2 ≤ w) (h2 : w ≤ 40) {a : Nat} (ha : a < ls.length) : t_Even_moves_from (evO ls w) ((a : Int), 0) = some (mv ls w a) := by
  unfold t_Even_moves_from
  dsimp only
  have hr : t_reached (evO ls w).row (evO ls w).spots (a : Int) (evO ls w).wide = some (lines1 ls a w) := reached_eq hk (by omega) (by omega) w
  have hne : ¬ ((a : Int) = (List.length (evO ls w).row : Int)) := by show ¬ ((a : Int) = (ls.length : Int)); omega
  rw [if_neg (by rw [decide_eq_true_eq]; exact hne), hr, Option.bind_some]
  have hlen := lines1_len (ls := ls) (lo := a) (w := w)
  rw [compT_map (f := fun s => (costN ls w a s.toNat, (toString s).toList, (s, (0 : Int)))) (by unfold LIM; omega) (by
    intro s hs
    obtain ⟨i1, i2, i3⟩ := lines1_in h1 ha hs
    obtain ⟨k, rfl⟩ : ∃ k : Nat, s = (k : Int) := ⟨s.toNat, by omega⟩
    rw [Int.toNat_natCast] at i3 ⊢
    have hc : t_Even_cost_between (evO ls w) (a : Int) (k : Int) = some (costN ls w a k) := by
      unfold t_Even_cost_between costN
      by_cases c : k = ls.length
      · rw [if_pos (by simp [evO, c]), if_pos c]
      · have hne2 : ¬ ((k : Int) = (List.length (evO ls w).row : Int)) := by show ¬ ((k : Int) = (ls.length : Int)); omega
        rw [if_neg (by rw [decide_eq_true_eq]; exact hne2), if_neg c]
        rw [show t_cells_between (evO ls w).row (a : Int) (k : Int) = some (cel ls a k) from cells_between_eq hk a k (by omega) (by omega)]
        have := cel_nn ls a k
        simp only [Option.bind_some]
        show mulT (w - cel ls a k) (w - cel ls a k) = _
        rw [mulT_ok (by omega) (by omega)]
    have hs' : strT (k : Int) = some (toString (k : Int)).toList := by
      unfold strT
      rw [if_pos (by
        have := Nat.log2_le_self (k : Int).natAbs
        have : (k : Int).natAbs = k := rfl
        omega)]
    rw [hc, Option.bind_some, hs', Option.bind_some])]
  rfl
theorem moves_end {ls : List Lt} {w : Int} : t_Even_moves_from (evO ls w) ((ls.length : Int), 0) = some [] := by
  unfold t_Even_moves_from
  dsimp only
  rw [if_pos (by simp [evO])]
theorem fold_min {α : Type} {g : Option Int → α → Option (Option Int)} {val : α → Int} : ∀ (xs : List α) (c : Int), (∀ c x, x ∈ xs → g (some c) x = some (some (min c (val x)))) → foldT g xs (some c) = some (some ((xs.map val).foldl min c))
  | [], c, _ => rfl
  | x :: xs, c, h => by
    rw [foldT_cons, h c x (by simp), Option.bind_some, fold_min xs _ fun c y hy => h c y (by simp [hy])]
    rfl
structure Told (ls : List Lt) (w : Int) (ps : List ((Int × Int) × Option Int)) (a : Nat) (f : Option Int) : Prop where
  here : getT ps ((a : Int), 0) = some f
  on : ∀ s ∈ lines1 ls a w, getT ps (s, 0) = some (some (pr ls w s.toNat))
theorem cheapest_go {ls : List Lt} {w : Int} {ps : List ((Int × Int) × Option Int)} {a : Nat} {f0 : Option Int} (T : Told ls w ps a f0) {g : Option Int → Int × Ts × (Int × Int) → Option (Option Int)}
    (hg : ∀ f x r, getT ps x.2.2 = some (some r) → g f x = some (some (match f with | none => x.1 + r | some c => min c (x.1 + r)))) (hw : 2 ≤ w) (ha : a < ls.length) (hf : f0 = none ∨ f0 = some (pr ls w a)) : foldT g (mv ls w a) f0 = some (some (pr ls w a)) := by
  have hv : ∀ x ∈ mv ls w a, ∀ f, g f x = some (some (match f with | none => x.1 + pr ls w x.2.2.1.toNat | some c => min c (x.1 + pr ls w x.2.2.1.toNat))) := fun x hx f => by
    obtain ⟨s, hs, rfl⟩ := List.mem_map.mp hx
    exact hg f _ _ (T.on s hs)
  have hm : (mv ls w a).map (fun x => x.1 + pr ls w x.2.2.1.toNat) = (lines1 ls a w).map fun s => costN ls w a s.toNat + pr ls w s.toNat := by
    unfold mv; rw [List.map_map]; rfl
  have hp := pr_at hw ha
  rcases hf with rfl | rfl
  · cases hmv : mv ls w a with
    | nil =>
      have := congrArg List.length hmv
      unfold mv at this
      rw [List.length_map, List.length_nil] at this
      exact absurd (List.eq_nil_of_length_eq_zero this) lines1_ne
    | cons x xs =>
      rw [hmv] at hv hm
      rw [foldT_cons, hv x (by simp) none, Option.bind_some, fold_min (val := fun x => x.1 + pr ls w x.2.2.1.toNat) xs _ fun c y hy => hv y (by simp [hy]) (some c)]
      rw [hp, ← hm]; rfl
  · rw [fold_min (val := fun x => x.1 + pr ls w x.2.2.1.toNat) _ _ fun c y hy => hv y hy (some c), hm]
    obtain ⟨h1, h2, _⟩ := foldl_min ((lines1 ls a w).map fun s => costN ls w a s.toNat + pr ls w s.toNat) (pr ls w a)
    congr 2
    have hin := minL_in (xs := (lines1 ls a w).map fun s => costN ls w a s.toNat + pr ls w s.toNat) (by
      intro h
      exact lines1_ne (List.map_eq_nil_iff.mp h))
    rcases h1 with h1 | h1
    · exact h1
    · have := hin.2 _ h1
      omega
theorem cheapest_eq {ls : List Lt} (hk : ∀ l ∈ ls, okL l) (hl : ls.length ≤ 1000) {w : Int} (h1 : 2 ≤ w) (h2 : w ≤ 40) {ps : List ((Int × Int) × Option Int)} {a : Nat} {f0 : Option Int} (T : Told ls w ps a f0) (ha : a < ls.length) (hf : f0 = none ∨ f0 = some (pr ls w a)) : t_cheapest (evO ls w) ps ((a : Int), 0) = some (some (pr ls w a)) := by
  unfold t_cheapest
  rw [T.here, Option.bind_some, evMoves_eq hk hl h1 h2 ha, Option.bind_some, Option.bind_some]
  rw [cheapest_go T (fun f x r hr => by
    rw [hr, Option.bind_some]
    cases f with
    | none => simp
    | some c =>
      by_cases hlt : x.1 + r < c
      · have : min c (x.1 + r) = x.1 + r := by omega
        simp [hlt, this]
      · have : min c (x.1 + r) = c := by omega
        simp [hlt, this]) h1 ha hf]
  rfl
theorem cheapest_end {ls : List Lt} {w : Int} {ps : List ((Int × Int) × Option Int)} {f0 : Option Int} (h : getT ps ((ls.length : Int), 0) = some f0) : t_cheapest (evO ls w) ps ((ls.length : Int), 0) = some f0 := by
  unfold t_cheapest
  rw [h, Option.bind_some, moves_end]
  rfl
theorem told_last {ls : List Lt} {w : Int} {m : List ((Int × Int) × Option Int)} {a : Nat} (hw : 2 ≤ w) (ha : a < ls.length) (hm : ∀ p ∈ m, p.1 ≠ ((a : Int), (0 : Int))) (hg : ∀ b, a < b → b ≤ ls.length → getT m ((b : Int), 0) = some (some (pr ls w b))) (f : Option Int) : Told ls w (m ++ [(((a : Int), 0), f)]) a f :=
  ⟨getT_new hm, fun s hs => by
    obtain ⟨i1, i2, _⟩ := lines1_in hw ha hs
    obtain ⟨k, rfl⟩ : ∃ k : Nat, s = (k : Int) := ⟨s.toNat, by omega⟩
    rw [getT_old (by intro h; have := (Prod.ext_iff.mp h).1; dsimp only at this; omega)]
    exact hg k (by omega) (by omega)⟩
theorem settle_eq {ls : List Lt} (hk : ∀ l ∈ ls, okL l) (hl : ls.length ≤ 1000) {w : Int} (h1 : 2 ≤ w) (h2 : w ≤ 40) {m : List ((Int × Int) × Option Int)} {a : Nat} (ha : a < ls.length) (hm : ∀ p ∈ m, p.1 ≠ ((a : Int), (0 : Int))) (hg : ∀ b, a < b → b ≤ ls.length → getT m ((b : Int), 0) = some (some (pr ls w b))) (hml : m.length ≤ 2000) :
    t_settle (evO ls w) (m ++ [(((a : Int), 0), none)]) [((a : Int), 0)] = some (m ++ [(((a : Int), 0), some (pr ls w a))]) := by
  have T1 := told_last (w := w) h1 ha hm hg none
  have T2 := told_last (w := w) h1 ha hm hg (some (pr ls w a))
  have c1 := cheapest_eq hk hl h1 h2 T1 ha (.inl rfl)
  have c2 := cheapest_eq hk hl h1 h2 T2 ha (.inr rfl)
  unfold t_settle
  dsimp only
  rw [show (5000 : Nat) = 4997 + 1 + 1 + 1 from rfl, whileT_succ]
  simp only [Option.bind_some, if_true, foldT_cons, c1, T1.here]
  rw [if_pos (by simp), putC_last hm (by unfold LIM; omega)]
  simp only [Option.bind_some, foldT]
  rw [whileT_succ]
  simp only [Option.bind_some, if_true, foldT_cons, c2, T2.here]
  rw [if_neg (by simp)]
  simp only [Option.bind_some, foldT]
  rw [whileT_succ]
  rfl
theorem settle_end {ls : List Lt} {w : Int} {ps : List ((Int × Int) × Option Int)} {f0 : Option Int} (h : getT ps ((ls.length : Int), 0) = some f0) : t_settle (evO ls w) ps [((ls.length : Int), 0)] = some ps := by
  unfold t_settle
  dsimp only
  rw [show (5000 : Nat) = 4998 + 1 + 1 from rfl, whileT_succ]
  simp only [Option.bind_some, if_true, foldT_cons, cheapest_end h, h]
  rw [if_neg (by simp)]
  simp only [Option.bind_some, foldT]
  rw [whileT_succ]
  rfl
def pl (ls : List Lt) (w : Int) (b : Nat) : List ((Int × Int) × Option Int) := (List.range b).map fun (j : Nat) => (((((ls.length - j : Nat) : Int), (0 : Int))), some (pr ls w (ls.length - j)))
theorem pl_succ (ls : List Lt) (w : Int) (b : Nat) : pl ls w (b + 1) = pl ls w b ++ [((((ls.length - b : Nat) : Int), 0), some (pr ls w (ls.length - b)))] := by
  unfold pl; rw [List.range_succ, List.map_append]; rfl
theorem pl_ne {ls : List Lt} {w : Int} {b : Nat} (hb : b ≤ ls.length) : ∀ p ∈ pl ls w b, p.1 ≠ (((ls.length - b : Nat) : Int), (0 : Int)) := by
  intro p hp
  obtain ⟨j, hj, rfl⟩ := List.mem_map.mp hp
  rw [List.mem_range] at hj
  intro h
  have := (Prod.ext_iff.mp h).1
  dsimp only at this
  omega
theorem pl_get {ls : List Lt} {w : Int} : ∀ (b : Nat), b ≤ ls.length + 1 → ∀ a, ls.length < a + b → a ≤ ls.length → getT (pl ls w b) ((a : Int), 0) = some (some (pr ls w a))
  | 0, _, a, h, h2 => by omega
  | b + 1, hb, a, h, h2 => by
    rw [pl_succ]
    by_cases c : a = ls.length - b
    · subst c
      exact getT_new (pl_ne (by omega))
    · rw [getT_old (by intro h; have := (Prod.ext_iff.mp h).1; dsimp only at this; omega)]
      exact pl_get b (by omega) a (by omega) h2
theorem pl_len (ls : List Lt) (w : Int) (b : Nat) : (pl ls w b).length = b := by unfold pl; rw [List.length_map, List.length_range]
theorem evPriced_eq {ls : List Lt} (hk : ∀ l ∈ ls, okL l) (hl : ls.length ≤ 1000) {w : Int} (h1 : 2 ≤ w) (h2 : w ≤ 40) : t_priced (evO ls w) = some (pl ls w (ls.length + 1)) := by
  unfold t_priced
  dsimp only
  have hla : t_Even_last_at (evO ls w) = some (ls.length : Int) := rfl
  rw [show ((t_Even_last_at (evO ls w)).bind fun v1_ => some (v1_ + 1)) = some ((ls.length : Int) + 1) from rfl, Option.bind_some, rngT_ok (by omega) (by omega), Option.bind_some]
  rw [show ((ls.length : Int) + 1).toNat = ls.length + 1 by omega]
  have main : ∀ b, b ≤ ls.length + 1 → foldT (fun (s4_ : (List ((Int × Int) × (Option Int)))) (back : Int) =>
      ((((t_Even_last_at (evO ls w)).bind fun v5_ => some (v5_ - back)).bind fun v6_ => (t_Even_nodes_at (evO ls w) v6_))).bind fun (here : (List (Int × Int))) =>
      (foldT (fun (s7_ : (List ((Int × Int) × (Option Int)))) (node : (Int × Int)) =>
      (some ((fun _ => none) ())).bind fun u8_ => ((some node)).bind fun i9_ => (putC s7_ i9_ u8_).bind fun y10_ =>
      ((t_Even_is_end (evO ls w) node).bind fun v11_ => ((if v11_ = true then
      (some (some (0 : Int))).bind fun u12_ => ((some node)).bind fun i13_ => (putC y10_ i13_ u12_).bind fun y14_ =>
      some y14_
      else
      some y10_ : Option (List ((Int × Int) × (Option Int))))).bind fun (s15_ : (List ((Int × Int) × (Option Int)))) =>
      some s15_)) here s4_).bind fun (s7_ : (List ((Int × Int) × (Option Int)))) =>
      ((t_settle (evO ls w) s7_ here)).bind fun (u16_ : (List ((Int × Int) × (Option Int)))) =>
      some u16_) ((List.range b).map fun (k : Nat) => (k : Int)) [] = some (pl ls w b) := by
    intro b
    induction b with
    | zero => intro _; rfl
    | succ b ih =>
      intro hb
      rw [List.range_succ, List.map_append, foldT_app, ih (by omega), Option.bind_some, List.map_cons, List.map_nil, foldT_cons, hla, Option.bind_some, Option.bind_some]
      have e : (ls.length : Int) - (b : Int) = ((ls.length - b : Nat) : Int) := by omega
      rw [e]
      unfold t_Even_nodes_at
      rw [Option.bind_some, foldT_cons]
      simp only [Option.bind_some]
      rw [putC_new (pl_ne (by omega)) (by rw [pl_len]; unfold LIM; omega)]
      simp only [Option.bind_some]
      have hend : t_Even_is_end (evO ls w) (((ls.length - b : Nat) : Int), 0) = some (decide (b = 0)) := by
        unfold t_Even_is_end
        congr 1
        show decide (((ls.length - b : Nat) : Int) = (ls.length : Int)) = _
        by_cases c : b = 0
        · simp [c]
        · rw [decide_eq_false c, decide_eq_false (by omega)]
      rw [hend]
      by_cases c : b = 0
      · subst c
        simp only [Option.bind_some, decide_true, if_true]
        rw [putC_last (pl_ne (by omega)) (by rw [pl_len]; unfold LIM; omega)]
        simp only [Option.bind_some, foldT]
        rw [pl_succ]
        have := pr_end (ls := ls) (w := w) (a := ls.length) (by omega)
        simp only [Nat.sub_zero] at this ⊢
        rw [this]
        rw [settle_end (getT_new (by simpa using pl_ne (ls := ls) (w := w) (b := 0) (by omega)))]
        rfl
      · simp only [Option.bind_some, c, decide_false, Bool.false_eq_true, if_false, foldT]
        rw [settle_eq hk hl h1 h2 (by omega) (pl_ne (by omega)) (fun a ha1 ha2 => pl_get b (by omega) a (by omega) ha2) (by rw [pl_len]; omega)]
        rw [pl_succ]; rfl
  rw [main _ (Nat.le_refl _)]; rfl
def evs (ls : List Lt) (w : Int) (a : Nat) : List Int := (lines1 ls a w).filter fun s => decide (costN ls w a s.toNat + pr ls w s.toNat = pr ls w a)
theorem evs_ne {ls : List Lt} {w : Int} (hw : 2 ≤ w) {a : Nat} (ha : a < ls.length) : evs ls w a ≠ [] := by
  have hin := (minL_in (xs := (lines1 ls a w).map fun s => costN ls w a s.toNat + pr ls w s.toNat) (by
      intro h
      exact lines1_ne (List.map_eq_nil_iff.mp h))).1
  rw [← pr_at hw ha] at hin
  obtain ⟨s, hs, e⟩ := List.mem_map.mp hin
  intro h
  have : s ∈ evs ls w a := List.mem_filter.mpr ⟨hs, by simp [e]⟩
  rw [h] at this
  simp at this
def lineE (ls : List Lt) (w : Int) (a : Nat) : Nat := match evs ls w a with
  | [] => 0
  | s :: ss => (ss.foldl max s).toNat
theorem maxP_zero : ∀ (xs : List Int) (x : Int), maxP (x, 0) (xs.map fun s => (s, (0 : Int))) = (xs.foldl max x, 0)
  | [], x => rfl
  | y :: xs, x => by
    have h := maxP_zero xs (max x y)
    unfold maxP at h ⊢
    rw [List.map_cons, List.foldl_cons, List.foldl_cons, ← h]
    congr 1
    unfold ltP
    dsimp only
    by_cases c : x = y
    · subst c; simp
    · rw [if_neg c]
      by_cases d : x < y
      · have : max x y = y := by omega
        simp [d, this]
      · have : max x y = x := by omega
        simp [d, this]
theorem lineE_in {ls : List Lt} {w : Int} (hw : 2 ≤ w) {a : Nat} (ha : a < ls.length) : maxYT ((evs ls w a).map fun s => (s, (0 : Int))) = some ((lineE ls w a : Int), 0) ∧ (lineE ls w a : Int) ∈ evs ls w a ∧ ∀ s ∈ evs ls w a, s ≤ lineE ls w a := by
  have hpos : ∀ s ∈ evs ls w a, 0 ≤ s := fun s hs => by
    have := lines1_in hw ha (List.mem_filter.mp hs).1; omega
  unfold lineE
  cases h : evs ls w a with
  | nil => exact absurd h (evs_ne hw ha)
  | cons s ss =>
    rw [h] at hpos
    obtain ⟨h1, h2, h3⟩ := LI.foldl_max ss s
    have hm : ss.foldl max s ∈ s :: ss := by
      rcases h1 with h1 | h1
      · rw [h1]; simp
      · simp [h1]
    have := hpos _ hm
    dsimp only
    rw [show ((ss.foldl max s).toNat : Int) = ss.foldl max s by omega]
    refine ⟨?_, hm, ?_⟩
    · show some (maxP (s, 0) (ss.map fun s => (s, (0 : Int)))) = _
      rw [maxP_zero]
    · intro t ht
      rcases List.mem_cons.mp ht with rfl | ht
      · exact h2
      · exact h3 t ht
theorem lineE_ok {ls : List Lt} {w : Int} (hw : 2 ≤ w) {a : Nat} (ha : a < ls.length) : a < lineE ls w a ∧ lineE ls w a ≤ ls.length ∧ cel ls a (lineE ls w a) ≤ w := by
  have h := (lineE_in hw ha).2.1
  have := lines1_in hw ha (List.mem_filter.mp h).1
  rw [Int.toNat_natCast] at this
  exact ⟨by omega, by omega, this.2.2⟩
theorem chain_gen {σ : Type} {mk : List (Int × Int) → Nat → σ} {f : Nat → Nat} {n : Nat} {p : σ → Option Bool} {g : σ → Option σ} (hf : ∀ a, a < n → a < f a ∧ f a ≤ n)
    (hp : ∀ xs (a : Nat), a ≤ n → p (mk xs a) = some (decide (a < n))) (hg : ∀ xs (a : Nat), a < n → xs.length ≤ a → g (mk xs a) = some (mk (xs ++ [((a : Int), (f a : Int))]) (f a))) :
    ∀ (m k : Nat) (xs : List (Int × Int)) (a : Nat), n - a ≤ k → k < m → a ≤ n → xs.length ≤ a → ∃ b, whileT p g m (mk xs a) = some (mk (xs ++ chain f n k a) b)
  | 0, _, _, _, _, hm, _, _ => absurd hm (Nat.not_lt_zero _)
  | m + 1, k, xs, a, h1, h2, h3, h4 => by
    rw [whileT_succ, hp xs a h3, Option.bind_some]
    by_cases c : a < n
    · have := hf a c
      rw [if_pos (by simp [c]), hg xs a c h4, Option.bind_some]
      cases k with
      | zero => omega
      | succ k =>
        obtain ⟨b, e⟩ := chain_gen hf hp hg m k (xs ++ [((a : Int), (f a : Int))]) (f a) (by omega) (by omega) this.2 (by simp; omega)
        refine ⟨b, ?_⟩
        rw [e, show chain f n (k + 1) a = ((a : Int), (f a : Int)) :: chain f n k (f a) from by rw [chain, if_pos c]]
        simp
    · rw [if_neg (by simp [c])]
      have : chain f n k a = [] := by cases k <;> simp [chain, c]
      rw [this, List.append_nil]
      exact ⟨_, rfl⟩
theorem init_eq {ls : List Lt} (hl : ls.length ≤ 1000) {w : Int} : t_Even_init ls w = some (evO ls w) := by
  unfold t_Even_init
  dsimp only
  rw [breaks_eq (by omega)]; rfl
theorem even_eq {ls : List Lt} (hk : ∀ l ∈ ls, okL l) (hl : ls.length ≤ 1000) {w : Int} (h1 : 2 ≤ w) (h2 : w ≤ 40) : t_even ls w = some (if ls = [] then [(0, 0)] else chain (lineE ls w) ls.length ls.length 0) := by
  unfold t_even
  by_cases hn : ls = []
  · subst hn; rfl
  · have hpos : 0 < ls.length := by cases ls with
      | nil => exact absurd rfl hn
      | cons => simp
    rw [if_neg (by simp; omega), if_neg hn, init_eq hl, Option.bind_some, evPriced_eq hk hl h1 h2, Option.bind_some]
    dsimp only
    rw [show t_Even_first_node (evO ls w) = some (0, 0) from rfl, Option.bind_some]
    have hend : ∀ a : Nat, a ≤ ls.length → t_Even_is_end (evO ls w) ((a : Int), 0) = some (!decide (a < ls.length)) := fun a ha => by
      unfold t_Even_is_end
      congr 1
      show decide ((a : Int) = (ls.length : Int)) = _
      by_cases c : a < ls.length
      · rw [decide_eq_true c, decide_eq_false (by omega)]; rfl
      · rw [decide_eq_false c, decide_eq_true (by omega)]; rfl
    obtain ⟨b, e⟩ := chain_gen (mk := fun xs a => (xs, ((a : Int), (0 : Int)))) (f := lineE ls w) (n := ls.length) (fun a ha => ⟨(lineE_ok h1 ha).1, (lineE_ok h1 ha).2.1⟩) (p := fun (s1_ : ((List (Int × Int)) × (Int × Int))) => ((t_Even_is_end (evO ls w) s1_.2).bind fun v2_ => some (!v2_))) (g := (fun (s1_ : ((List (Int × Int)) × (Int × Int))) =>
      ((((t_Even_moves_from (evO ls w) s1_.2).bind fun v3_ => some v3_).bind fun v4_ => (compT (fun (move : (Int × Ts × (Int × Int))) => (((((getT (pl ls w (ls.length + 1)) move.2.2).bind fun x => x).bind fun v5_ => some (move.1 + v5_)).bind fun v6_ => some (some v6_)).bind fun v7_ => (getT (pl ls w (ls.length + 1)) s1_.2).bind fun v8_ => some (decide (v7_ = v8_)))) (fun (move : (Int × Ts × (Int × Int))) => (some move.2.2)) v4_))).bind fun (least : (List (Int × Int))) =>
      ((maxYT least)).bind fun (beyond : (Int × Int)) =>
      ((appT s1_.1 (s1_.2.1, beyond.1))).bind fun (u9_ : (List (Int × Int))) =>
      let node : (Int × Int) := beyond
      some (u9_, node))) (fun xs a ha => by
        dsimp only
        rw [hend a ha, Option.bind_some, Bool.not_not]) (fun xs a ha hx => by
        dsimp only
        rw [evMoves_eq hk hl h1 h2 ha, Option.bind_some, Option.bind_some]
        have hlen := lines1_len (ls := ls) (lo := a) (w := w)
        have hv : ∀ s ∈ lines1 ls a w, getT (pl ls w (ls.length + 1)) (s, 0) = some (some (pr ls w s.toNat)) := fun s hs => by
          have := lines1_in h1 ha hs
          obtain ⟨k, rfl⟩ : ∃ k : Nat, s = (k : Int) := ⟨s.toNat, by omega⟩
          exact pl_get _ (Nat.le_refl _) k (by omega) (by omega)
        have hva : getT (pl ls w (ls.length + 1)) ((a : Int), 0) = some (some (pr ls w a)) := pl_get _ (Nat.le_refl _) a (by omega) (by omega)
        rw [compT_fil (q := fun m : Int × Ts × (Int × Int) => decide (m.1 + pr ls w m.2.2.1.toNat = pr ls w a)) (f := fun m => m.2.2) (by unfold mv; rw [List.length_map]; unfold LIM; omega) (by
          intro m hm
          obtain ⟨s, hs, rfl⟩ := List.mem_map.mp hm
          dsimp only
          rw [hv s hs, hva]
          simp) (fun _ _ _ => rfl), Option.bind_some]
        have hf : ((mv ls w a).filter fun m : Int × Ts × (Int × Int) => decide (m.1 + pr ls w m.2.2.1.toNat = pr ls w a)).map (fun m => m.2.2) = (evs ls w a).map fun s => (s, (0 : Int)) := by
          unfold mv evs
          rw [List.filter_map, List.map_map]
          rfl
        rw [hf, (lineE_in h1 ha).1, Option.bind_some, appT_ok (by unfold LIM; omega), Option.bind_some]) 5000 ls.length [] 0 (by omega) (by omega) (by omega) (by simp)
    rw [List.nil_append] at e
    have e' : whileT _ _ 5000 (([] : List (Int × Int)), ((0 : Int), (0 : Int))) = _ := e
    rw [e']; rfl
end OW

namespace OW
open PySem L2 LI
def kCutW : Ts := ['c', 'u', 't']
def kCellsW : Ts := ['c', 'e', 'l', 'l', 's']
def kWordsW : Ts := ['w', 'o', 'r', 'd', 's']
def kEvenW : Ts := ['e', 'v', 'e', 'n']
def lineF (way : Ts) (ls : List Lt) (w : Int) : Nat → Nat := if way = kEvenW then lineE ls w else if way = kWordsW then lineW ls w else lineC ls w
theorem lineC_ok {ls : List Lt} {lo : Nat} {w : Int} (hw : 2 ≤ w) (h : lo < ls.length) : lo < lineC ls w lo ∧ lineC ls w lo ≤ ls.length ∧ cel ls lo (lineC ls w lo) ≤ w := by
  have := lineC_in hw h
  exact ⟨this.1, this.2, fit_taken ls lo _ w (by omega) (by omega) (Nat.le_refl _)⟩
theorem lineF_ok {way : Ts} {ls : List Lt} {lo : Nat} {w : Int} (hw : 2 ≤ w) (h : lo < ls.length) : lo < lineF way ls w lo ∧ lineF way ls w lo ≤ ls.length ∧ cel ls lo (lineF way ls w lo) ≤ w := by
  unfold lineF
  split
  · exact lineE_ok hw h
  · split
    · exact lineW_in hw h
    · exact lineC_ok hw h
theorem fold_eq {ls : List Lt} (hk : ∀ l ∈ ls, okL l) (hl : ls.length ≤ 1000) {w : Int} (h1 : 2 ≤ w) (h2 : w ≤ 40) {way : Ts} (hy : way = kCellsW ∨ way = kWordsW ∨ way = kEvenW) : t_fold ls w way = some (if ls = [] then [(0, 0)] else chain (lineF way ls w) ls.length ls.length 0) := by
  have hwide : t_is_wide w = some true := by unfold t_is_wide; simp [h1, h2]
  have hway : t_is_way way = some true := by rcases hy with rfl | rfl | rfl <;> rfl
  unfold t_fold
  rw [hwide, hway]
  simp only [Option.bind_some, Bool.not_true, Bool.false_eq_true, if_false]
  by_cases he : way = kEvenW
  · subst he
    rw [if_pos (by decide), even_eq hk hl h1 h2]
    unfold lineF
    rw [if_pos rfl]
  · rw [if_neg (by rw [decide_eq_true_eq]; exact he)]
    by_cases hn : ls = []
    · subst hn
      rw [if_pos (by decide), if_pos rfl]
    · have hpos : 0 < ls.length := by cases ls with
        | nil => exact absurd rfl hn
        | cons => simp
      obtain ⟨n, hn'⟩ : ∃ n, ls.length = n + 1 := ⟨ls.length - 1, by omega⟩
      have hf : ∀ a, a < ls.length → a < lineF way ls w a ∧ lineF way ls w a ≤ ls.length := fun a h => ⟨(lineF_ok h1 h).1, (lineF_ok h1 h).2.1⟩
      have hend : ∀ a : Nat, a < ls.length → t_line_end ls (breaksL ls) (a : Int) w way = some ((lineF way ls w a : Nat) : Int) := fun a ha => by
        unfold lineF
        rw [if_neg he]
        by_cases hw : way = kWordsW
        · rw [if_pos hw, hw]; exact line_end_W hk (by omega) ha h1
        · rw [if_neg hw]; exact line_end_C hk (by omega) (by omega) hw
      have el0' : t_line_end ls (breaksL ls) 0 w way = some ((lineF way ls w 0 : Nat) : Int) := hend 0 hpos
      have hc0 := hf 0 hpos
      have hcut : way ≠ ['c', 'u', 't'] := by rcases hy with rfl | rfl | rfl <;> decide
      rw [if_neg (by simp; omega), breaks_eq (by omega), if_neg hn]
      simp only [Option.bind_some, el0']
      rw [← List.nil_append [((0 : Int), ((lineF way ls w 0 : Nat) : Int))], chain_while hf (by
          intro xs x a ha
          rw [if_pos (by simp [hcut]), OW.atI_lastG]
          simp) (by
          intro xs x a ha hx
          rw [OW.atI_lastG]
          simp only [Option.bind_some]
          rw [hend a ha]
          simp only [Option.bind_some]
          rw [appT_ok (by rw [List.length_append]; simp; unfold LIM; omega)]
          rfl) 5000 n [] 0 (lineF way ls w 0) (by omega) (by omega) hc0.2 (by simp)]
      rw [hn', show chain (lineF way ls w) (n + 1) (n + 1) 0 = ((0 : Int), (lineF way ls w 0 : Int)) :: chain (lineF way ls w) (n + 1) n (lineF way ls w 0) from by rw [chain, if_pos (by omega)]; rfl]
      rfl
end OW

namespace LW
open PySem L2 LI OW
structure OEven_b where
  row : (List (List An))
  wide : Int
  spots : (List Int)
def t_cells_of_b (letters : (List (List An))) : Option Int :=
  ((compT (fun (letter : (List An)) => (some true)) (fun (letter : (List An)) => (((atI letter (0 : Int)).bind fun v1_ => (dS v1_.d)).bind fun v2_ => (t_width_of v2_))) letters).bind fun v3_ => some (List.sum v3_))
def t_bare_end_b (letters : (List (List An))) (lo : Int) (hi : Int) : Option Int :=
  (whileT (fun (s1_ : Int) => (if decide (lo < s1_) = true then (((atI letters (s1_ - (1 : Int))).bind fun v2_ => (atI v2_ (0 : Int))).bind fun v3_ => (eqA v3_ ((an eS) [' ']))) else some false)) (fun (s1_ : Int) =>
  let hi : Int := (s1_ - (1 : Int))
  some hi) 5000 hi).bind fun (s1_ : Int) =>
  some s1_
def t_cells_between_b (letters : (List (List An))) (lo : Int) (hi : Int) : Option Int :=
  ((((t_bare_end_b letters lo hi).bind fun v1_ => some (some v1_)).bind fun v2_ => some (cutL letters (some lo) v2_)).bind fun v3_ => (t_cells_of_b v3_))
def t_fits_b (letters : (List (List An))) (lo : Int) (hi : Int) (wide : Int) : Option Bool :=
  ((t_cells_between_b letters lo hi).bind fun v1_ => some (decide (v1_ ≤ wide)))
def t_breaks_b (letters : (List (List An))) : Option (List Int) :=
  let found : (List Int) := ([] : (List Int))
  ((rng2T (1 : Int) (List.length letters : Int)).bind fun v1_ => (foldT (fun (s2_ : (List Int)) (at_ : Int) =>
  (((((atI letters (at_ - (1 : Int))).bind fun v3_ => (atI v3_ (0 : Int))).bind fun v4_ => (eqA v4_ ((an eS) [' ']))).bind fun v5_ => (if v5_ = true then (((atI letters at_).bind fun v6_ => (atI v6_ (0 : Int))).bind fun v7_ => ((eqA v7_ ((an eS) [' '])).bind fun k => some (!k))) else some false)).bind fun v8_ => ((if v8_ = true then
  ((appT s2_ at_)).bind fun (u9_ : (List Int)) =>
  some u9_
  else
  some s2_ : Option (List Int))).bind fun (s10_ : (List Int)) =>
  some s10_)) v1_ found).bind fun (s2_ : (List Int)) =>
  ((if decide ((0 : Int) < (List.length letters : Int)) = true then
  ((appT s2_ (List.length letters : Int))).bind fun (u11_ : (List Int)) =>
  some u11_
  else
  some s2_ : Option (List Int))).bind fun (s12_ : (List Int)) =>
  some s12_)
def t_taken_b (letters : (List (List An))) (lo : Int) (wide : Int) : Option Int :=
  let room : Int := wide
  let at_ : Int := lo
  (whileT (fun (s1_ : (Int × Int)) => (if decide (s1_.2 < (List.length letters : Int)) = true then (((((atI letters s1_.2).bind fun v2_ => (atI v2_ (0 : Int))).bind fun v3_ => (dS v3_.d)).bind fun v4_ => (t_width_of v4_)).bind fun v5_ => some (decide (v5_ ≤ s1_.1))) else some false)) (fun (s1_ : (Int × Int)) =>
  ((((((atI letters s1_.2).bind fun v6_ => (atI v6_ (0 : Int))).bind fun v7_ => (dS v7_.d)).bind fun v8_ => (t_width_of v8_)).bind fun v9_ => some (s1_.1 - v9_))).bind fun (room : Int) =>
  let at_ : Int := (s1_.2 + (1 : Int))
  some (room, at_)) 5000 (room, at_)).bind fun (s1_ : (Int × Int)) =>
  some s1_.2
def t_reached_b (letters : (List (List An))) (spots : (List Int)) (lo : Int) (wide : Int) : Option (List Int) :=
  let found : (List Int) := ([] : (List Int))
  (forT (τ := (List Int)) (fun (s1_ : (List Int)) (spot : Int) =>
  ((if decide (lo < spot) = true then
  (((t_fits_b letters lo spot wide).bind fun v2_ => some (!v2_)).bind fun v3_ => if v3_ = true then
  some (.inr (.bk s1_ : (St (List Int) (List Int))) : ((List Int) ⊕ (St (List Int) (List Int))))
  else
  ((appT s1_ spot)).bind fun (u4_ : (List Int)) =>
  some (.inl u4_ : ((List Int) ⊕ (St (List Int) (List Int)))))
  else
  some (.inl s1_ : ((List Int) ⊕ (St (List Int) (List Int)))) : Option ((List Int) ⊕ (St (List Int) (List Int))))).bind fun u => seqT u fun (s5_ : (List Int)) => some (.nx s5_ : (St (List Int) (List Int)))) spots found).bind fun u => seqT u fun (s1_ : (List Int)) => if (decide (s1_ = ([] : (List Int)))) = true then
  ((t_taken_b letters lo wide).bind fun v6_ => some ([v6_] : (List Int)))
  else
  some s1_
def t_Even_cost_between_b (self : OEven_b) (lo : Int) (hi : Int) : Option Int :=
  if (decide (hi = (List.length self.row : Int))) = true then
  some (0 : Int)
  else
  (((t_cells_between_b self.row lo hi).bind fun v1_ => some (self.wide - v1_))).bind fun (free : Int) =>
  (mulT free free)
def t_Even_moves_from_b (self : OEven_b) (node : (Int × Int)) : Option (List (Int × Ts × (Int × Int))) :=
  let lo : Int := node.1
  if (decide (lo = (List.length self.row : Int))) = true then
  some ([] : (List (Int × Ts × (Int × Int))))
  else
  ((t_reached_b self.row self.spots lo self.wide)).bind fun (found : (List Int)) =>
  (compT (fun (hi : Int) => (some true)) (fun (hi : Int) => ((t_Even_cost_between_b self lo hi).bind fun v1_ => (strT hi).bind fun v2_ => some (v1_, v2_, (hi, (0 : Int))))) found)
def t_cheapest_d (trail : OEven_b) (prices : (List ((Int × Int) × (Option Int)))) (node : (Int × Int)) : Option (Option Int) :=
  ((getT prices node)).bind fun (found : (Option Int)) =>
  (((t_Even_moves_from_b trail node).bind fun v1_ => some v1_).bind fun v2_ => (foldT (fun (s3_ : (Option Int)) (x4_ : (Int × Ts × (Int × Int))) =>
  ((getT prices x4_.2.2)).bind fun (rest : (Option Int)) =>
  ((if (Option.isSome rest) = true then (if (Option.isNone s3_) = true then some true else ((rest.bind fun v5_ => some (x4_.1 + v5_)).bind fun v6_ => s3_.bind fun v7_ => some (decide (v6_ < v7_)))) else some false).bind fun v8_ => ((if v8_ = true then
  (((rest.bind fun v9_ => some (x4_.1 + v9_)).bind fun v10_ => some (some v10_))).bind fun (found : (Option Int)) =>
  some found
  else
  some s3_ : Option (Option Int))).bind fun (s11_ : (Option Int)) =>
  some s11_)) v2_ found).bind fun (s3_ : (Option Int)) =>
  some s3_)
def t_settle_d (trail : OEven_b) (prices : (List ((Int × Int) × (Option Int)))) (here : (List (Int × Int))) : Option (List ((Int × Int) × (Option Int))) :=
  let falls : Bool := true
  (whileT (fun (s1_ : ((List ((Int × Int) × (Option Int))) × Bool)) => (some s1_.2)) (fun (s1_ : ((List ((Int × Int) × (Option Int))) × Bool)) =>
  let falls : Bool := false
  (foldT (fun (s2_ : ((List ((Int × Int) × (Option Int))) × Bool)) (node : (Int × Int)) =>
  ((t_cheapest_d trail s2_.1 node)).bind fun (found : (Option Int)) =>
  (((getT s2_.1 node).bind fun v3_ => some (!decide (found = v3_))).bind fun v4_ => ((if v4_ = true then
  (some found).bind fun u5_ => ((some node)).bind fun i6_ => (putC s2_.1 i6_ u5_).bind fun y7_ =>
  let falls : Bool := true
  some (y7_, falls)
  else
  some (s2_.1, s2_.2) : Option ((List ((Int × Int) × (Option Int))) × Bool))).bind fun (s8_ : ((List ((Int × Int) × (Option Int))) × Bool)) =>
  some (s8_.1, s8_.2))) here (s1_.1, falls)).bind fun (s2_ : ((List ((Int × Int) × (Option Int))) × Bool)) =>
  some (s2_.1, s2_.2)) 5000 (prices, falls)).bind fun (s1_ : ((List ((Int × Int) × (Option Int))) × Bool)) =>
  some s1_.1
def t_Even_nodes_at_b (self : OEven_b) (at_ : Int) : Option (List (Int × Int)) :=
  some ([(at_, (0 : Int))] : (List (Int × Int)))
def t_Even_last_at_b (self : OEven_b) : Option Int :=
  some (List.length self.row : Int)
def t_Even_is_end_b (self : OEven_b) (node : (Int × Int)) : Option Bool :=
  some (decide (node.1 = (List.length self.row : Int)))
def t_priced_d (trail : OEven_b) : Option (List ((Int × Int) × (Option Int))) :=
  let prices : (List ((Int × Int) × (Option Int))) := ([] : (List ((Int × Int) × (Option Int))))
  ((((t_Even_last_at_b trail).bind fun v1_ => some (v1_ + (1 : Int))).bind fun v2_ => (rngT v2_)).bind fun v3_ => (foldT (fun (s4_ : (List ((Int × Int) × (Option Int)))) (back : Int) =>
  ((((t_Even_last_at_b trail).bind fun v5_ => some (v5_ - back)).bind fun v6_ => (t_Even_nodes_at_b trail v6_))).bind fun (here : (List (Int × Int))) =>
  (foldT (fun (s7_ : (List ((Int × Int) × (Option Int)))) (node : (Int × Int)) =>
  (some ((fun _ => none) ())).bind fun u8_ => ((some node)).bind fun i9_ => (putC s7_ i9_ u8_).bind fun y10_ =>
  ((t_Even_is_end_b trail node).bind fun v11_ => ((if v11_ = true then
  (some (some (0 : Int))).bind fun u12_ => ((some node)).bind fun i13_ => (putC y10_ i13_ u12_).bind fun y14_ =>
  some y14_
  else
  some y10_ : Option (List ((Int × Int) × (Option Int))))).bind fun (s15_ : (List ((Int × Int) × (Option Int)))) =>
  some s15_)) here s4_).bind fun (s7_ : (List ((Int × Int) × (Option Int)))) =>
  ((t_settle_d trail s7_ here)).bind fun (u16_ : (List ((Int × Int) × (Option Int)))) =>
  some u16_) v3_ prices).bind fun (s4_ : (List ((Int × Int) × (Option Int)))) =>
  some s4_)
def t_Even_init_b (letters : (List (List An))) (wide : Int) : Option OEven_b :=
  let u1_ : (List (List An)) := letters
  let u2_ : Int := wide
  ((t_breaks_b u1_)).bind fun (u3_ : (List Int)) =>
  some ({ row := u1_, wide := u2_, spots := u3_ : OEven_b })
def t_Even_first_node_b (self : OEven_b) : Option (Int × Int) :=
  some ((0 : Int), (0 : Int))
def t_even_b (letters : (List (List An))) (wide : Int) : Option (List (Int × Int)) :=
  if (decide ((List.length letters : Int) = (0 : Int))) = true then
  some ([((0 : Int), (0 : Int))] : (List (Int × Int)))
  else
  ((t_Even_init_b letters wide)).bind fun (trail : OEven_b) =>
  ((t_priced_d trail)).bind fun (prices : (List ((Int × Int) × (Option Int)))) =>
  let found : (List (Int × Int)) := ([] : (List (Int × Int)))
  ((t_Even_first_node_b trail)).bind fun (node : (Int × Int)) =>
  (whileT (fun (s1_ : ((List (Int × Int)) × (Int × Int))) => ((t_Even_is_end_b trail s1_.2).bind fun v2_ => some (!v2_))) (fun (s1_ : ((List (Int × Int)) × (Int × Int))) =>
  ((((t_Even_moves_from_b trail s1_.2).bind fun v3_ => some v3_).bind fun v4_ => (compT (fun (move : (Int × Ts × (Int × Int))) => (((((getT prices move.2.2).bind fun x => x).bind fun v5_ => some (move.1 + v5_)).bind fun v6_ => some (some v6_)).bind fun v7_ => (getT prices s1_.2).bind fun v8_ => some (decide (v7_ = v8_)))) (fun (move : (Int × Ts × (Int × Int))) => (some move.2.2)) v4_))).bind fun (least : (List (Int × Int))) =>
  ((maxYT least)).bind fun (beyond : (Int × Int)) =>
  ((appT s1_.1 (s1_.2.1, beyond.1))).bind fun (u9_ : (List (Int × Int))) =>
  let node : (Int × Int) := beyond
  some (u9_, node)) 5000 (found, node)).bind fun (s1_ : ((List (Int × Int)) × (Int × Int))) =>
  some s1_.1
def t_line_end_b (letters : (List (List An))) (spots : (List Int)) (lo : Int) (wide : Int) (way : Ts) : Option Int :=
  if (decide (way = (['w', 'o', 'r', 'd', 's'] : Ts))) = true then
  ((t_reached_b letters spots lo wide).bind fun v1_ => (atI v1_ (-1 : Int)))
  else
  (t_taken_b letters lo wide)
def t_fold_b (letters : (List (List An))) (wide : Int) (way : Ts) : Option (List (Int × Int)) :=
  ((((t_is_wide wide).bind fun v1_ => some (!v1_)).bind fun v2_ => (if v2_ = true then some true else ((t_is_way way).bind fun v3_ => some (!v3_)))).bind fun v4_ => if v4_ = true then
  none
  else
  if (decide (way = (['e', 'v', 'e', 'n'] : Ts))) = true then
  (t_even_b letters wide)
  else
  if (decide ((List.length letters : Int) = (0 : Int))) = true then
  some ([((0 : Int), (0 : Int))] : (List (Int × Int)))
  else
  ((t_breaks_b letters)).bind fun (spots : (List Int)) =>
  ((((t_line_end_b letters spots (0 : Int) wide way).bind fun v5_ => some ((0 : Int), v5_)).bind fun v6_ => some ([v6_] : (List (Int × Int))))).bind fun (found : (List (Int × Int))) =>
  (whileT (fun (s7_ : (List (Int × Int))) => (if (!decide (way = (['c', 'u', 't'] : Ts))) = true then (((atI s7_ (-1 : Int)).bind fun v8_ => some v8_.2).bind fun v9_ => some (decide (v9_ < (List.length letters : Int)))) else some false)) (fun (s7_ : (List (Int × Int))) =>
  (((atI s7_ (-1 : Int)).bind fun v10_ => some v10_.2)).bind fun (lo : Int) =>
  ((((t_line_end_b letters spots lo wide way).bind fun v11_ => some (lo, v11_)).bind fun v12_ => (appT s7_ v12_))).bind fun (u13_ : (List (Int × Int))) =>
  some u13_) 5000 found).bind fun (s7_ : (List (Int × Int))) =>
  some s7_)
def t_lw_trimmed (letters_here : Ls) (lo : Int) (hi : Int) : Option Int :=
  (whileT (fun (s1_ : Int) => (if decide (lo < s1_) = true then (((atI letters_here (s1_ - (1 : Int))).bind fun v2_ => some v2_.1).bind fun v3_ => some (decide (v3_ = ([' '] : Ts)))) else some false)) (fun (s1_ : Int) =>
  let hi : Int := (s1_ - (1 : Int))
  some hi) 5000 hi).bind fun (s1_ : Int) =>
  let great : Ts := (['A', 'B', 'C', 'D', 'E', 'F', 'G', 'H', 'I', 'J', 'K', 'L', 'M', 'N', 'O', 'P', 'Q', 'R', 'S', 'T', 'U', 'V', 'W', 'X', 'Y', 'Z'] : Ts)
  ((compT (fun (letter : Lt) => (some true)) (fun (letter : Lt) => (((inS letter.1 great).bind fun v4_ => some (b01 v4_)).bind fun v5_ => some ((1 : Int) + v5_))) (cutL letters_here (some lo) (some s1_))).bind fun v6_ => some (List.sum v6_))
def t_lw_breaks (letters_here : Ls) : Option (List Int) :=
  let found : (List Int) := ([] : (List Int))
  ((rng2T (1 : Int) ((List.length letters_here : Int) + (1 : Int))).bind fun v1_ => (foldT (fun (s2_ : (List Int)) (at_ : Int) =>
  ((if (decide (at_ = (List.length letters_here : Int))) = true then some true else ((((atI letters_here (at_ - (1 : Int))).bind fun v3_ => some v3_.1).bind fun v4_ => some (decide (v4_ = ([' '] : Ts)))).bind fun v5_ => (if v5_ = true then (((atI letters_here at_).bind fun v6_ => some v6_.1).bind fun v7_ => some (!decide (v7_ = ([' '] : Ts)))) else some false))).bind fun v8_ => ((if v8_ = true then
  ((appT s2_ at_)).bind fun (u9_ : (List Int)) =>
  some u9_
  else
  some s2_ : Option (List Int))).bind fun (s10_ : (List Int)) =>
  some s10_)) v1_ found).bind fun (s2_ : (List Int)) =>
  some s2_)
def t_lw_held (found : (List (Int × Int))) (letters_here : Ls) (wide_here : Int) (way : Ts) : Option Bool :=
  if ((!true) || (decide ((List.length found : Int) = (0 : Int)))) = true then
  some false
  else
  let at_ : Int := (0 : Int)
  (forT (τ := Bool) (fun (s1_ : Int) (one : (Int × Int)) =>
  ((if (!true) = true then some true else (if (!decide ((2 : Int) = (2 : Int))) = true then some true else (((t_lw_whole one.1).bind fun v2_ => some (!v2_)).bind fun v3_ => (if v3_ = true then some true else ((t_lw_whole one.2).bind fun v4_ => some (!v4_)))))).bind fun v5_ => if v5_ = true then
  some (.rt false : (St Int Bool))
  else
  if ((!decide (one.1 = s1_)) || (decide (one.2 < s1_) || (decide ((List.length letters_here : Int) < one.2) || ((decide (one.2 = s1_)) && (!decide (letters_here = ([] : Ls))))))) = true then
  some (.rt false : (St Int Bool))
  else
  (((t_lw_trimmed letters_here one.1 one.2).bind fun v6_ => some (decide (wide_here < v6_))).bind fun v7_ => if v7_ = true then
  some (.rt false : (St Int Bool))
  else
  let at_ : Int := one.2
  some (.nx at_ : (St Int Bool))))) found at_).bind fun u => seqT u fun (s1_ : Int) => if (decide (way = (['c', 'u', 't'] : Ts))) = true then
  some (decide ((List.length found : Int) = (1 : Int)))
  else
  some (decide (s1_ = (List.length letters_here : Int)))
def t_lw_fewest (letters_here : Ls) (wide_here : Int) : Option Int :=
  (((t_lw_breaks letters_here).bind fun v1_ => (catL ([(0 : Int)] : (List Int)) v1_))).bind fun (spots : (List Int)) =>
  ((dispT ([((0 : Int), (0 : Int))] : (List (Int × Int))))).bind fun (lines : (List (Int × Int))) =>
  ((rng2T (1 : Int) (List.length spots : Int)).bind fun v2_ => (foldT (fun (s3_ : (List (Int × Int))) (k : Int) =>
  ((rngT k).bind fun v4_ => (foldT (fun (s5_ : (List (Int × Int))) (j : Int) =>
  ((((atI spots j).bind fun v6_ => some ((getT s5_ v6_).isSome)).bind fun v7_ => (if v7_ = true then (((atI spots j).bind fun v8_ => (atI spots k).bind fun v9_ => (t_lw_trimmed letters_here v8_ v9_)).bind fun v10_ => some (decide (v10_ ≤ wide_here))) else some false)).bind fun v11_ => ((if v11_ = true then
  ((((atI spots j).bind fun v12_ => (getT s5_ v12_)).bind fun v13_ => some (v13_ + (1 : Int))).bind fun v14_ => ((atI spots k).bind fun v15_ => some (Option.getD (getT s5_ v15_) (1000 : Int))).bind fun v16_ => some (min v14_ v16_)).bind fun u17_ => ((atI spots k)).bind fun i18_ => (putC s5_ i18_ u17_).bind fun y19_ =>
  some y19_
  else
  some s5_ : Option (List (Int × Int)))).bind fun (s20_ : (List (Int × Int))) =>
  some s20_)) v4_ s3_).bind fun (s5_ : (List (Int × Int))) =>
  some s5_)) v2_ lines).bind fun (s3_ : (List (Int × Int))) =>
  some (Option.getD (getT s3_ (List.length letters_here : Int)) (0 : Int)))
def t_law_b1 (letters_here : Ls) (wide_here : Int) (other : (List (List An))) (s1_ : (List (Ts × (List (Int × Int))))) (way : Ts) : Option (St (List (Ts × (List (Int × Int)))) Bool) :=
  ((t_fold_b ((List.map (fun t : Lt => ([(an eS) t.1, (an eS) t.2.1, (an eS) t.2.2.1, (an eI) t.2.2.2] : (List An)))) letters_here) wide_here way)).bind fun (found : (List (Int × Int))) =>
  ((((t_lw_held found letters_here wide_here way).bind fun v2_ => some (!v2_)).bind fun v3_ => (if v3_ = true then some true else ((t_fold_b other wide_here way).bind fun v4_ => some (!decide (v4_ = found))))).bind fun v5_ => if v5_ = true then
  some (.rt false : (St (List (Ts × (List (Int × Int)))) Bool))
  else
  (some found).bind fun u6_ => ((some way)).bind fun i7_ => (putC s1_ i7_ u6_).bind fun y8_ =>
  some (.nx y8_ : (St (List (Ts × (List (Int × Int)))) Bool)))
def t_law_b2 (letters_here : Ls) (wide_here : Int) (s1_ : (List (Ts × (List (Int × Int))))) (s2_ : Unit) (way : Ts) : Option (St Unit Bool) :=
  let handed : Ls := letters_here
  (((t_fold_b ((List.map (fun t : Lt => ([(an eS) t.1, (an eS) t.2.1, (an eS) t.2.2.1, (an eI) t.2.2.2] : (List An)))) handed) wide_here way).bind fun v3_ => (getT s1_ way).bind fun v4_ => some (!decide (v3_ = v4_))).bind fun v5_ => if v5_ = true then
  some (.rt false : (St Unit Bool))
  else
  let u6_ : Ls := (List.reverse handed)
  (((t_fold_b ((List.map (fun t : Lt => ([(an eS) t.1, (an eS) t.2.1, (an eS) t.2.2.1, (an eI) t.2.2.2] : (List An)))) u6_) wide_here way).bind fun v7_ => (t_fold_b ((List.map (fun t : Lt => ([(an eS) t.1, (an eS) t.2.1, (an eS) t.2.2.1, (an eI) t.2.2.2] : (List An)))) (List.reverse letters_here)) wide_here way).bind fun v8_ => some (!decide (v7_ = v8_))).bind fun v9_ => if v9_ = true then
  some (.rt false : (St Unit Bool))
  else
  some (.nx () : (St Unit Bool))))
def t_law (script : (List Int)) : Option Bool :=
  ((t_lw_letters script (2 : Int) (44 : Int))).bind fun (letters_here : Ls) =>
  ((t_lw_wide script)).bind fun (wide_here : Int) =>
  (((((t_lw_cell_b script (1 : Int)).bind fun v1_ => (t_lw_mix v1_ (11 : Int))).bind fun v2_ => some (v2_ % 3)).bind fun v3_ => (atI ([(4 : Int), (3 : Int), (1 : Int)] : (List Int)) v3_))).bind fun (size : Int) =>
  ((compT (fun (one : Lt) => (some true)) (fun (one : Lt) => ((((ixS (['a', 'b', 'c', 'd', 'e', 'f', 'g', 'h', '.'] : Ts) (one.2.2.2 % 9)).bind fun v4_ => some (one.1, v4_, (['.'] : Ts), ((7 : Int) + (2 * one.2.2.2)))).bind fun v5_ => some ((fun t : Lt => ([(an eS) t.1, (an eS) t.2.1, (an eS) t.2.2.1, (an eI) t.2.2.2] : (List An))) v5_)).bind fun v6_ => some (cutL v6_ none (some size)))) letters_here)).bind fun (other : (List (List An))) =>
  let ways : (List Ts) := ([(['c', 'u', 't'] : Ts), (['c', 'e', 'l', 'l', 's'] : Ts), (['w', 'o', 'r', 'd', 's'] : Ts), (['e', 'v', 'e', 'n'] : Ts)] : (List Ts))
  ((((t_lw_cell_b script (1 : Int)).bind fun v7_ => (t_lw_mix v7_ (10 : Int))).bind fun v8_ => some (v8_ % 4))).bind fun (turn : Int) =>
  ((catL (cutL ways (some turn) none) (cutL ways none (some turn)))).bind fun (ways_2 : (List Ts)) =>
  ((dispT ([] : (List (Ts × (List (Int × Int))))))).bind fun (told : (List (Ts × (List (Int × Int))))) =>
  (forT (τ := Bool) (fun (s9_ : (List (Ts × (List (Int × Int))))) (way : Ts) =>
  (t_law_b1 letters_here wide_here other s9_ way)) ways_2 told).bind fun u => seqT u fun (s9_ : (List (Ts × (List (Int × Int))))) => ((t_lw_fewest letters_here wide_here)).bind fun (fewest_here : Int) =>
  ((if decide ((0 : Int) < fewest_here) = true then ((((getT s9_ (['w', 'o', 'r', 'd', 's'] : Ts)).bind fun v10_ => some (List.length v10_ : Int)).bind fun v11_ => some (!decide (v11_ = fewest_here))).bind fun v12_ => (if v12_ = true then some true else (((getT s9_ (['e', 'v', 'e', 'n'] : Ts)).bind fun v13_ => some (List.length v13_ : Int)).bind fun v14_ => some (decide (v14_ < fewest_here))))) else some false).bind fun v15_ => if v15_ = true then
  some false
  else
  (forT (τ := Bool) (fun (s16_ : Unit) (way : Ts) =>
  (t_law_b2 letters_here wide_here s9_ s16_ way)) ([(['e', 'v', 'e', 'n'] : Ts), (['c', 'u', 't'] : Ts), (['w', 'o', 'r', 'd', 's'] : Ts), (['c', 'e', 'l', 'l', 's'] : Ts)] : (List Ts)) ()).bind fun u => seqT u fun (s16_ : Unit) => some true)
end LW

namespace LW
open PySem L2 PyProof.Rows LI
def m_width_of : SM := (seqM (ifM (bM (m2 inD (vM 0) (kM (.str [65, 66, 67, 68, 69, 70, 71, 72, 73, 74, 75, 76, 77, 78, 79, 80, 81, 82, 83, 84, 85, 86, 87, 88, 89, 90])))) (seqM (retM (upF (kM (.int 2)))) skipM) skipM)
  (seqM (retM (upF (kM (.int 1)))) skipM))
def F_width_of : FM := runM 1 [true] m_width_of
def m_cells_of : SM := (seqM (retM (upF (mA sumD (consM (compM [1] (nameT 1) yesB (callM F_width_of (consM (m2 ixD (vM 1) (kM (.int 0))) nilM)) (itV (vM 0))) nilM)))) skipM)
def F_cells_of : FM := runM 2 [true] m_cells_of
def m_bare_end : SM := (seqM (whileM 5000 (andB (bM (m2 gtD (vM 2) (vM 1))) (bM (m2 eqD (m2 ixD (m2 ixD (vM 0) (m2 subD (vM 2) (kM (.int 1)))) (kM (.int 0))) (kM (.str [32]))))) (seqM (asgM (nameT 2) (upF (m2 subD (vM 2) (kM (.int 1)))))
  skipM) [])
  (seqM (retM (upR (vM 2))) skipM))
def F_bare_end : FM := runM 3 [true, true, false] m_bare_end
def m_cells_between : SM := (seqM (retM (upF (callM F_cells_of (consM (coldM (slM (vM 0) (soM (vM 1)) (soM (callM F_bare_end (consM (vM 0) (consM (vM 1) (consM (vM 2) nilM))))))) nilM)))) skipM)
def F_cells_between : FM := runM 3 [true, true, true] m_cells_between
def m_fits : SM := (seqM (retM (upF (m2 leD (callM F_cells_between (consM (vM 0) (consM (vM 1) (consM (vM 2) nilM)))) (vM 3)))) skipM)
def F_fits : FM := runM 4 [true, true, true, true] m_fits
def m_breaks : SM := (seqM (asgM (nameT 1) (upF (lstM nilM)))
  (seqM (forM (nameT 2) (seqM (ifM (andB (bM (m2 eqD (m2 ixD (m2 ixD (vM 0) (m2 subD (vM 2) (kM (.int 1)))) (kM (.int 0))) (kM (.str [32])))) (bM (m2 neD (m2 ixD (m2 ixD (vM 0) (vM 2)) (kM (.int 0))) (kM (.str [32]))))) (seqM (exprM (appL (vL 1) (frM (vM 2))))
  skipM) skipM)
  (killM [] skipM)) [2] (rng2M (kM (.int 1)) (mA lenD (consM (vM 0) nilM))))
  (seqM (ifM (bM (m2 gtD (mA lenD (consM (vM 0) nilM)) (kM (.int 0)))) (seqM (exprM (appL (vL 1) (mA lenD (consM (vM 0) nilM))))
  skipM) skipM)
  (killM [] (seqM (retM (mvM (vL 1))) skipM)))))
def F_breaks : FM := runM 3 [true] m_breaks
def m_taken : SM := (seqM (asgM (nameT 3) (upR (vM 2)))
  (seqM (asgM (nameT 4) (upR (vM 1)))
  (seqM (whileM 5000 (andB (bM (m2 ltD (vM 4) (mA lenD (consM (vM 0) nilM)))) (bM (m2 leD (callM F_width_of (consM (m2 ixD (m2 ixD (vM 0) (vM 4)) (kM (.int 0))) nilM)) (vM 3)))) (seqM (asgM (nameT 3) (upF (m2 subD (vM 3) (callM F_width_of (consM (m2 ixD (m2 ixD (vM 0) (vM 4)) (kM (.int 0))) nilM)))))
  (seqM (asgM (nameT 4) (upF (m2 addD (vM 4) (kM (.int 1)))))
  skipM)) [])
  (seqM (retM (upR (vM 4))) skipM))))
def F_taken : FM := runM 5 [true, true, true] m_taken
def m_reached : SM := (seqM (asgM (nameT 4) (upF (lstM nilM)))
  (seqM (forM (nameT 5) (seqM (ifM (bM (m2 gtD (vM 5) (vM 2))) (seqM (ifM (notB (truM (callM F_fits (consM (vM 0) (consM (vM 2) (consM (vM 5) (consM (vM 3) nilM))))))) (seqM bkM skipM) skipM)
  (seqM (exprM (appL (vL 4) (frM (vM 5))))
  skipM)) skipM)
  (killM [] skipM)) [5] (itM (vM 1)))
  (seqM (ifM (bM (m2 eqD (vM 4) (lstM nilM))) (seqM (retM (upF (lstM (consM (callM F_taken (consM (vM 0) (consM (vM 2) (consM (vM 3) nilM)))) nilM)))) skipM) skipM)
  (seqM (retM (mvM (vL 4))) skipM))))
def F_reached : FM := runM 6 [true, true, true, true] m_reached
def m_Even_cost_between : SM := (seqM (ifM (bM (m2 eqD (vM 2) (mA lenD (consM (fldL 3 "row" (vL 0)).get nilM)))) (seqM (retM (upF (kM (.int 0)))) skipM) skipM)
  (seqM (asgM (nameT 3) (upF (m2 subD (fldL 3 "wide" (vL 0)).get (callM F_cells_between (consM (fldL 3 "row" (vL 0)).get (consM (vM 1) (consM (vM 2) nilM)))))))
  (seqM (retM (upF (m2 mulD (vM 3) (vM 3)))) skipM)))
def F_Even_cost_between : FM := runM 4 [true, true, true] m_Even_cost_between
def m_Even_moves_from : SM := (seqM (asgM (nameT 2) (upR (m2 ixD (wkM (vM 1)) (kM (.int 0)))))
  (seqM (ifM (bM (m2 eqD (vM 2) (mA lenD (consM (fldL 3 "row" (vL 0)).get nilM)))) (seqM (retM (upF (lstM nilM))) skipM) skipM)
  (seqM (asgM (nameT 3) (upF (coldM (callM F_reached (consM (fldL 3 "row" (vL 0)).get (consM (fldL 3 "spots" (vL 0)).get (consM (vM 2) (consM (fldL 3 "wide" (vL 0)).get nilM))))))))
  (seqM (retM (upF (compM [4] (nameT 4) yesB (tupM (consM (lookM 3 "cost_between" (vL 0).get F_Even_cost_between (consM (vM 2) (consM (vM 4) nilM))) (consM (mA strD (consM (vM 4) nilM)) (consM (keyM (consM (vM 4) (consM (kM (.int 0)) nilM))) nilM)))) (itV (vM 3))))) skipM))))
def F_Even_moves_from : FM := runM 5 [true, true] m_Even_moves_from
def m_cheapest : SM := (seqM (asgM (nameT 3) (upR (m2 ixT (vM 1) (vM 2))))
  (seqM (forM (tupT (consT (nameT 4) (consT (nameT 5) (consT (nameT 6) nilT)))) (seqM (asgM (nameT 7) (upR (m2 ixT (vM 1) (vM 6))))
  (seqM (ifM (andB (bM (m2 nisD (vM 7) (kM .non))) (orB (bM (m2 isD (vM 3) (kM .non))) (bM (m2 ltD (m2 addD (vM 4) (vM 7)) (vM 3))))) (seqM (asgM (nameT 3) (upF (m2 addD (vM 4) (vM 7))))
  skipM) skipM)
  (killM [] skipM))) [4, 5, 6, 7] (itM (coldM (lookM 3 "moves_from" (vL 0).get F_Even_moves_from (consM (vM 2) nilM)))))
  (seqM (retM (upR (vM 3))) skipM)))
def F_cheapest : FM := runM 8 [true, true, true] m_cheapest
def m_settle : SM := (seqM (asgM (nameT 3) (upF (kM (.bl true))))
  (seqM (whileM 5000 (truM (vM 3)) (seqM (asgM (nameT 3) (upF (kM (.bl false))))
  (seqM (forM (nameT 4) (seqM (asgM (nameT 5) (upF (callM F_cheapest (consM (vM 0) (consM (vM 1) (consM (vM 4) nilM))))))
  (seqM (ifM (bM (m2 neD (vM 5) (m2 ixT (vM 1) (vM 4)))) (seqM (dputT (vL 1) (vM 4) (upR (vM 5)))
  (seqM (asgM (nameT 3) (upF (kM (.bl true))))
  skipM)) skipM)
  (killM [] skipM))) [4, 5] (itM (vM 2)))
  skipM)) [4, 5])
  skipM))
def F_settle : FM := runM 6 [true, true, true] m_settle
def m_Even_nodes_at : SM := (seqM (retM (upF (lstM (consM (keyM (consM (vM 1) (consM (kM (.int 0)) nilM))) nilM)))) skipM)
def F_Even_nodes_at : FM := runM 2 [true, true] m_Even_nodes_at
def m_Even_last_at : SM := (seqM (retM (upF (mA lenD (consM (fldL 3 "row" (vL 0)).get nilM)))) skipM)
def F_Even_last_at : FM := runM 1 [true] m_Even_last_at
def m_Even_is_end : SM := (seqM (retM (upF (m2 eqD (m2 ixD (wkM (vM 1)) (kM (.int 0))) (mA lenD (consM (fldL 3 "row" (vL 0)).get nilM))))) skipM)
def F_Even_is_end : FM := runM 2 [true, true] m_Even_is_end
def m_priced : SM := (seqM (asgM (nameT 1) (upF newT))
  (seqM (forM (nameT 2) (seqM (asgM (nameT 3) (upF (coldM (lookM 3 "nodes_at" (vL 0).get F_Even_nodes_at (consM (m2 subD (lookM 3 "last_at" (vL 0).get F_Even_last_at nilM) (vM 2)) nilM)))))
  (seqM (forM (nameT 4) (seqM (dputT (vL 1) (vM 4) (upF (kM .non)))
  (seqM (ifM (truM (lookM 3 "is_end" (vL 0).get F_Even_is_end (consM (vM 4) nilM))) (seqM (dputT (vL 1) (vM 4) (upF (kM (.int 0))))
  skipM) skipM)
  (killM [] skipM))) [4] (itM (vM 3)))
  (seqM (exprM (lendM F_settle (consM (vM 0) nilM) (vL 1) (consM (vM 3) nilM)))
  skipM))) [2, 3, 4] (rng1M (m2 addD (lookM 3 "last_at" (vL 0).get F_Even_last_at nilM) (kM (.int 1)))))
  (seqM (retM (mvM (vL 1))) skipM)))
def F_priced : FM := runM 5 [true] m_priced
def m_Even_init : SM := (seqM (fldM 3 "row" (vL 0) (upF (coldM (mA listD (consM (vM 1) nilM)))))
  (seqM (fldM 3 "wide" (vL 0) (upR (vM 2)))
  (seqM (fldM 3 "spots" (vL 0) (upF (coldM (callM F_breaks (consM (fldL 3 "row" (vL 0)).get nilM)))))
  skipM)))
def F_Even_init : FM := runM 3 [true, true, true] m_Even_init
def m_Even_first_node : SM := (seqM (retM (upF (keyM (consM (kM (.int 0)) (consM (kM (.int 0)) nilM))))) skipM)
def F_Even_first_node : FM := runM 1 [true] m_Even_first_node
def m_even : SM := (seqM (ifM (bM (m2 eqD (mA lenD (consM (vM 0) nilM)) (kM (.int 0)))) (seqM (retM (upF (lstM (consM (tupM (consM (kM (.int 0)) (consM (kM (.int 0)) nilM))) nilM)))) skipM) skipM)
  (seqM (asgM (nameT 2) (upF (coldM (mkM 3 F_Even_init (consM (vM 0) (consM (vM 1) nilM))))))
  (seqM (asgM (nameT 3) (upF (coldM (callM F_priced (consM (vM 2) nilM)))))
  (seqM (asgM (nameT 4) (upF (lstM nilM)))
  (seqM (asgM (nameT 5) (upF (lookM 3 "first_node" (vL 2).get F_Even_first_node nilM)))
  (seqM (whileM 5000 (notB (truM (lookM 3 "is_end" (vL 2).get F_Even_is_end (consM (vM 5) nilM)))) (seqM (iceM 6 (asgM (nameT 6) (upF (compM [8] (nameT 8) (bM (m2 eqD (m2 addD (m2 ixD (vM 8) (kM (.int 0))) (m2 ixT (vM 3) (m2 ixD (vM 8) (kM (.int 2))))) (m2 ixT (vM 3) (vM 5)))) (m2 ixD (vM 8) (kM (.int 2))) (itV (coldM (lookM 3 "moves_from" (vL 2).get F_Even_moves_from (consM (vM 5) nilM))))))))
  (seqM (asgM (nameT 7) (upF (mA maxYD (consM (vM 6) nilM))))
  (seqM (exprM (appL (vL 4) (tupM (consM (m2 ixD (wkM (vM 5)) (kM (.int 0))) (consM (m2 ixD (wkM (vM 7)) (kM (.int 0))) nilM)))))
  (seqM (asgM (nameT 5) (upR (vM 7)))
  skipM)))) [6, 7])
  (seqM (retM (mvM (vL 4))) skipM)))))))
def F_even : FM := runM 9 [true, true] m_even
def m_is_wide : SM := (seqM (retM (upF (andM (isiM "int" (vM 0)) (andM (notD (isiM "bool" (vM 0))) (chM leD leD (kM (.int 2)) (vM 0) (kM (.int 40))))))) skipM)
def F_is_wide : FM := runM 1 [true] m_is_wide
def m_is_way : SM := (seqM (retM (upF (andM (isiM "str" (vM 0)) (m2 inD (vM 0) (kM (.kst [[99, 117, 116], [99, 101, 108, 108, 115], [119, 111, 114, 100, 115], [101, 118, 101, 110]])))))) skipM)
def F_is_way : FM := runM 1 [true] m_is_way
def m_line_end : SM := (seqM (ifM (bM (m2 eqD (vM 4) (kM (.str [119, 111, 114, 100, 115])))) (seqM (retM (upR (m2 ixD (callM F_reached (consM (vM 0) (consM (vM 1) (consM (vM 2) (consM (vM 3) nilM))))) (m1 negD (kM (.int 1)))))) skipM) skipM)
  (seqM (retM (upF (callM F_taken (consM (vM 0) (consM (vM 2) (consM (vM 3) nilM)))))) skipM))
def F_line_end : FM := runM 5 [true, true, true, true, true] m_line_end
def m_fold : SM := (seqM (ifM (orB (notB (truM (callM F_is_wide (consM (vM 1) nilM)))) (notB (truM (callM F_is_way (consM (vM 2) nilM))))) (seqM noM' skipM) skipM)
  (seqM (ifM (bM (m2 eqD (vM 2) (kM (.str [101, 118, 101, 110])))) (seqM (retM (upF (callM F_even (consM (vM 0) (consM (vM 1) nilM))))) skipM) skipM)
  (seqM (ifM (bM (m2 eqD (mA lenD (consM (vM 0) nilM)) (kM (.int 0)))) (seqM (retM (upF (lstM (consM (tupM (consM (kM (.int 0)) (consM (kM (.int 0)) nilM))) nilM)))) skipM) skipM)
  (seqM (asgM (nameT 3) (upF (coldM (callM F_breaks (consM (vM 0) nilM)))))
  (seqM (asgM (nameT 4) (upF (lstM (consM (tupM (consM (kM (.int 0)) (consM (callM F_line_end (consM (vM 0) (consM (vM 3) (consM (kM (.int 0)) (consM (vM 1) (consM (vM 2) nilM)))))) nilM))) nilM))))
  (seqM (whileM 5000 (andB (bM (m2 neD (vM 2) (kM (.str [99, 117, 116])))) (bM (m2 ltD (m2 ixD (m2 ixD (vM 4) (m1 negD (kM (.int 1)))) (kM (.int 1))) (mA lenD (consM (vM 0) nilM))))) (seqM (asgM (nameT 5) (upR (m2 ixD (m2 ixD (vM 4) (m1 negD (kM (.int 1)))) (kM (.int 1)))))
  (seqM (exprM (appL (vL 4) (tupM (consM (vM 5) (consM (callM F_line_end (consM (vM 0) (consM (vM 3) (consM (vM 5) (consM (vM 1) (consM (vM 2) nilM)))))) nilM)))))
  skipM)) [5])
  (seqM (retM (mvM (vL 4))) skipM)))))))
def F_fold : FM := runM 6 [true, true, true] m_fold
def m_lw_cell : SM := (seqM (ifM (bM (m2 ltD (vM 1) (mA lenD (consM (vM 0) nilM)))) (seqM (retM (upR (m2 ixD (vM 0) (vM 1)))) skipM) skipM)
  (seqM (asgM (nameT 2) (upF (m2 addD (m2 mulD (m2 mulD (vM 1) (vM 1)) (kM (.int 7919))) (kM (.int 104729)))))
  (seqM (ifM (bM (m2 gtD (mA lenD (consM (vM 0) nilM)) (kM (.int 0)))) (seqM (asgM (nameT 2) (upF (m2 addD (vM 2) (m2 mulD (m2 modD (m2 ixD (vM 0) (m2 modD (vM 1) (mA lenD (consM (vM 0) nilM)))) (kM (.int 1000003))) (kM (.int 48271))))))
  skipM) skipM)
  (killM [] (seqM (retM (upF (m2 modD (m2 mulD (vM 2) (kM (.int 48271))) (kM (.int 2147483647))))) skipM)))))
def F_lw_cell : FM := runM 3 [true, true] m_lw_cell
def m_lw_mix : SM := (seqM (ifM (bM (m2 gtD (vM 0) (m2 powD (kM (.int 10)) (kM (.int 18))))) (seqM (asgM (nameT 2) (upR (vM 0)))
  (seqM (forM (nameT 3) (seqM (asgM (nameT 2) (upF (m2 fdivD (vM 2) (m2 powD (kM (.int 10)) (kM (.int 9))))))
  skipM) [3] (rng1M (vM 1)))
  (seqM (retM (upF (m2 modD (vM 2) (m2 powD (kM (.int 10)) (kM (.int 9)))))) skipM))) skipM)
  (seqM (asgM (nameT 4) (upF (m2 addD (m2 modD (vM 0) (kM (.int 2147483647))) (kM (.int 7919)))))
  (seqM (forM (nameT 3) (seqM (asgM (nameT 4) (upF (m2 modD (m2 addD (m2 mulD (vM 4) (kM (.int 48271))) (kM (.int 104729))) (kM (.int 2147483629)))))
  skipM) [3] (rng1M (m2 addD (vM 1) (kM (.int 2)))))
  (seqM (retM (upF (m2 fdivD (m2 modD (m2 mulD (vM 4) (vM 4)) (kM (.int 998244353))) (kM (.int 11))))) skipM))))
def F_lw_mix : FM := runM 5 [true, true] m_lw_mix
def m_lw_whole : SM := (seqM (retM (upF (andM (isiM "int" (vM 0)) (notD (isiM "bool" (vM 0)))))) skipM)
def F_lw_whole : FM := runM 1 [true] m_lw_whole
def m_lw_stream : SM := (seqM (asgM (nameT 2) (upF (m2 addD (m2 mulD (m2 addD (m2 modD (vM 0) (kM (.int 2147483647))) (kM (.int 7919))) (kM (.int 48271))) (kM (.int 104729)))))
  (seqM (asgM (nameT 3) (upR (vM 0)))
  (seqM (asgM (nameT 4) (upF (lstM nilM)))
  (seqM (forM (nameT 5) (seqM (ifM (bM (m2 gtD (vM 0) (m2 powD (kM (.int 10)) (kM (.int 18))))) (seqM (exprM (appL (vL 4) (m2 modD (vM 3) (m2 powD (kM (.int 10)) (kM (.int 9))))))
  (seqM (asgM (nameT 3) (upF (m2 fdivD (vM 3) (m2 powD (kM (.int 10)) (kM (.int 9))))))
  skipM)) (seqM (asgM (nameT 2) (upF (m2 modD (m2 addD (m2 mulD (vM 2) (kM (.int 48271))) (kM (.int 104729))) (kM (.int 2147483629)))))
  (seqM (exprM (appL (vL 4) (m2 fdivD (m2 modD (m2 mulD (vM 2) (vM 2)) (kM (.int 998244353))) (kM (.int 11)))))
  skipM)))
  (killM [] skipM)) [5] (rng1M (vM 1)))
  (seqM (retM (mvM (vL 4))) skipM)))))
def F_lw_stream : FM := runM 6 [true, true] m_lw_stream
def m_lw_run : SM := (seqM (asgM (nameT 1) (upF (kM (.str [97, 98, 99, 100, 101, 102, 103, 104, 105, 106, 107, 108, 109, 110, 111, 112, 113, 114, 115, 116, 117, 118, 119, 120, 121, 122]))))
  (seqM (asgM (nameT 2) (upF (kM (.str [65, 66, 67, 68, 69, 70, 71, 72, 73, 74, 75, 76, 77, 78, 79, 80, 81, 82, 83, 84, 85, 86, 87, 88, 89, 90]))))
  (seqM (asgM (nameT 3) (upF (kM (.str [33, 34, 35, 36, 38, 39, 40, 41, 42, 43, 44, 45, 46, 47, 48, 49, 50, 51, 52, 53, 54, 55, 56, 57, 58, 59, 60, 61, 62, 63, 64, 91, 92, 93, 94, 95, 96, 123, 124, 125]))))
  (seqM (asgM (nameT 4) (upF (m2 modD (m2 ixD (vM 0) (kM (.int 0))) (kM (.int 8)))))
  (seqM (asgM (nameT 5) (upF (m2 addD (kM (.int 1)) (m2 modD (m2 ixD (vM 0) (kM (.int 1))) (m2 ixD (lstM (consM (kM (.int 4)) (consM (kM (.int 6)) (consM (kM (.int 9)) (consM (kM (.int 40)) (consM (kM (.int 4)) (consM (kM (.int 3)) (consM (kM (.int 1)) (consM (kM (.int 2)) nilM))))))))) (vM 4))))))
  (seqM (asgM (nameT 6) (upR (m2 ixD (lstM (consM (vM 1) (consM (vM 1) (consM (m2 addD (vM 1) (vM 2)) (consM (vM 1) (consM (vM 2) (consM (kM (.str [32])) (consM (kM (.str [32])) (consM (vM 3) nilM))))))))) (vM 4))))
  (seqM (asgM (nameT 7) (upF (m2 joinD2 (kM (.str [])) (compM [8] (nameT 8) yesB (m2 ixD (vM 6) (m2 modD (m2 addD (m2 ixD (vM 0) (kM (.int 2))) (m2 mulD (kM (.int 7)) (vM 8))) (mA lenD (consM (vM 6) nilM)))) (rng1M (vM 5))))))
  (seqM (retM (upF (m2 addD (vM 7) (m2 mulD (kM (.str [32])) (m2 fdivD (m2 modD (m2 ixD (vM 0) (kM (.int 3))) (kM (.int 5))) (kM (.int 2))))))) skipM))))))))
def F_lw_run : FM := runM 9 [true] m_lw_run
def m_lw_letters : SM := (seqM (asgM (nameT 3) (upF (lstM nilM)))
  (seqM (asgM (nameT 4) (upF (m2 modD (callM F_lw_mix (consM (callM F_lw_cell (consM (vM 0) (consM (vM 1) nilM))) (consM (kM (.int 0)) nilM))) (kM (.int 1000)))))
  (seqM (forM (nameT 5) (seqM (asgM (nameT 6) (upF (coldM (callM F_lw_stream (consM (callM F_lw_cell (consM (vM 0) (consM (m2 addD (vM 1) (vM 5)) nilM))) (consM (kM (.int 7)) nilM))))))
  (seqM (forM (nameT 7) (seqM (ifM (bM (m2 ltD (mA lenD (consM (vM 3) nilM)) (vM 2))) (seqM (exprM (appL (vL 3) (tupM (consM (vM 7) (consM (m2 ixD (kM (.str [97, 98, 99, 100, 101, 102, 103, 104, 46])) (m2 modD (m2 ixD (vM 6) (kM (.int 4))) (kM (.int 9)))) (consM (m2 ixD (kM (.str [97, 98, 99, 100, 101, 102, 103, 104, 46])) (m2 modD (m2 ixD (vM 6) (kM (.int 5))) (kM (.int 9)))) (consM (vM 4) nilM)))))))
  skipM) skipM)
  (killM [] (seqM (asgM (nameT 4) (upF (m2 addD (m2 addD (vM 4) (kM (.int 1))) (m2 modD (m2 ixD (vM 6) (kM (.int 6))) (kM (.int 3))))))
  skipM))) [7] (itM (callM F_lw_run (consM (vM 6) nilM))))
  skipM)) [5, 6, 7] (rng1M (mA max2D (consM (kM (.int 1)) (consM (mA min2D (consM (kM (.int 40)) (consM (m2 subD (mA lenD (consM (vM 0) nilM)) (vM 1)) nilM))) nilM)))))
  (seqM (ifM (bM (m2 eqD (m2 modD (callM F_lw_mix (consM (callM F_lw_cell (consM (vM 0) (consM (kM (.int 0)) nilM))) (consM (kM (.int 9)) nilM))) (kM (.int 9))) (kM (.int 4)))) (seqM (asgM (nameT 3) (upF (lstM nilM)))
  skipM) skipM)
  (killM [] (seqM (retM (mvM (vL 3))) skipM))))))
def F_lw_letters : FM := runM 8 [true, true, true] m_lw_letters
def m_lw_wide : SM := (seqM (asgM (nameT 1) (upF (callM F_lw_cell (consM (vM 0) (consM (kM (.int 1)) nilM)))))
  (seqM (retM (upF (m2 addD (kM (.int 2)) (m2 modD (callM F_lw_mix (consM (vM 1) (consM (kM (.int 7)) nilM))) (m2 ixD (lstM (consM (kM (.int 4)) (consM (kM (.int 9)) (consM (kM (.int 9)) (consM (kM (.int 39)) nilM))))) (m2 modD (callM F_lw_mix (consM (vM 1) (consM (kM (.int 8)) nilM))) (kM (.int 4)))))))) skipM))
def F_lw_wide : FM := runM 2 [true] m_lw_wide
def m_lw_trimmed : SM := (seqM (whileM 5000 (andB (bM (m2 gtD (vM 2) (vM 1))) (bM (m2 eqD (m2 ixD (m2 ixD (vM 0) (m2 subD (vM 2) (kM (.int 1)))) (kM (.int 0))) (kM (.str [32]))))) (seqM (asgM (nameT 2) (upF (m2 subD (vM 2) (kM (.int 1)))))
  skipM) [])
  (seqM (asgM (nameT 3) (upF (kM (.str [65, 66, 67, 68, 69, 70, 71, 72, 73, 74, 75, 76, 77, 78, 79, 80, 81, 82, 83, 84, 85, 86, 87, 88, 89, 90]))))
  (seqM (retM (upF (mA sumD (consM (compM [4] (nameT 4) yesB (m2 addD (kM (.int 1)) (mA intD (consM (m2 inD (m2 ixD (vM 4) (kM (.int 0))) (vM 3)) nilM))) (itV (coldM (slM (vM 0) (soM (vM 1)) (soM (vM 2)))))) nilM)))) skipM)))
def F_lw_trimmed : FM := runM 5 [true, true, false] m_lw_trimmed
def m_lw_breaks : SM := (seqM (asgM (nameT 1) (upF (lstM nilM)))
  (seqM (forM (nameT 2) (seqM (ifM (orB (bM (m2 eqD (vM 2) (mA lenD (consM (vM 0) nilM)))) (andB (bM (m2 eqD (m2 ixD (m2 ixD (vM 0) (m2 subD (vM 2) (kM (.int 1)))) (kM (.int 0))) (kM (.str [32])))) (bM (m2 neD (m2 ixD (m2 ixD (vM 0) (vM 2)) (kM (.int 0))) (kM (.str [32])))))) (seqM (exprM (appL (vL 1) (frM (vM 2))))
  skipM) skipM)
  (killM [] skipM)) [2] (rng2M (kM (.int 1)) (m2 addD (mA lenD (consM (vM 0) nilM)) (kM (.int 1)))))
  (seqM (retM (mvM (vL 1))) skipM)))
def F_lw_breaks : FM := runM 3 [true] m_lw_breaks
def m_lw_held : SM := (seqM (ifM (orB (notB (truM (isiM "list" (vM 0)))) (bM (m2 eqD (mA lenD (consM (vM 0) nilM)) (kM (.int 0))))) (seqM (retM (upF (kM (.bl false)))) skipM) skipM)
  (seqM (asgM (nameT 4) (upF (kM (.int 0))))
  (seqM (forM (nameT 5) (seqM (ifM (orB (notB (truM (isiM "tuple" (vM 5)))) (orB (bM (m2 neD (mA lenD (consM (vM 5) nilM)) (kM (.int 2)))) (orB (notB (truM (callM F_lw_whole (consM (m2 ixD (vM 5) (kM (.int 0))) nilM)))) (notB (truM (callM F_lw_whole (consM (m2 ixD (vM 5) (kM (.int 1))) nilM))))))) (seqM (retM (upF (kM (.bl false)))) skipM) skipM)
  (seqM (ifM (orB (bM (m2 neD (m2 ixD (vM 5) (kM (.int 0))) (vM 4))) (orB (bM (m2 ltD (m2 ixD (vM 5) (kM (.int 1))) (vM 4))) (orB (bM (m2 gtD (m2 ixD (vM 5) (kM (.int 1))) (mA lenD (consM (vM 1) nilM)))) (andB (bM (m2 eqD (m2 ixD (vM 5) (kM (.int 1))) (vM 4))) (bM (m2 neD (vM 1) (lstM nilM))))))) (seqM (retM (upF (kM (.bl false)))) skipM) skipM)
  (seqM (ifM (bM (m2 gtD (callM F_lw_trimmed (consM (vM 1) (consM (m2 ixD (vM 5) (kM (.int 0))) (consM (m2 ixD (vM 5) (kM (.int 1))) nilM)))) (vM 2))) (seqM (retM (upF (kM (.bl false)))) skipM) skipM)
  (seqM (asgM (nameT 4) (upR (m2 ixD (vM 5) (kM (.int 1)))))
  skipM)))) [5] (itM (vM 0)))
  (seqM (ifM (bM (m2 eqD (vM 3) (kM (.str [99, 117, 116])))) (seqM (retM (upF (m2 eqD (mA lenD (consM (vM 0) nilM)) (kM (.int 1))))) skipM) skipM)
  (seqM (retM (upF (m2 eqD (vM 4) (mA lenD (consM (vM 1) nilM))))) skipM)))))
def F_lw_held : FM := runM 6 [true, true, true, true] m_lw_held
def m_lw_fewest : SM := (seqM (asgM (nameT 2) (upF (coldM (m2 addD (lstM (consM (kM (.int 0)) nilM)) (callM F_lw_breaks (consM (vM 0) nilM))))))
  (seqM (asgM (nameT 3) (upF (dispM (consM (kM (.int 0)) nilM) (consM (kM (.int 0)) nilM))))
  (seqM (forM (nameT 4) (seqM (forM (nameT 5) (seqM (ifM (andB (bM (m2 inD (m2 ixD (vM 2) (vM 5)) (vM 3))) (bM (m2 leD (callM F_lw_trimmed (consM (vM 0) (consM (m2 ixD (vM 2) (vM 5)) (consM (m2 ixD (vM 2) (vM 4)) nilM)))) (vM 1)))) (seqM (dputK (vL 3) (m2 ixD (vM 2) (vM 4)) (upF (mA min2D (consM (m2 addD (m2 ixD (vM 3) (m2 ixD (vM 2) (vM 5))) (kM (.int 1))) (consM (getM2 (vM 3) (m2 ixD (vM 2) (vM 4)) (kM (.int 1000))) nilM)))))
  skipM) skipM)
  (killM [] skipM)) [5] (rng1M (vM 4)))
  skipM) [4, 5] (rng2M (kM (.int 1)) (mA lenD (consM (vM 2) nilM))))
  (seqM (retM (upR (getM2 (vM 3) (mA lenD (consM (vM 0) nilM)) (kM (.int 0))))) skipM))))
def F_lw_fewest : FM := runM 6 [true, true] m_lw_fewest
def m_law_b1 : SM := (seqM (asgM (nameT 9) (upF (coldM (callM F_fold (consM (coldM (mA listD (consM (vM 1) nilM))) (consM (vM 2) (consM (vM 8) nilM)))))))
  (seqM (ifM (orB (notB (truM (callM F_lw_held (consM (vM 9) (consM (vM 1) (consM (vM 2) (consM (vM 8) nilM))))))) (bM (m2 neD (callVM F_fold (consM (vM 4) (consM (vM 2) (consM (vM 8) nilM)))) (vM 9)))) (seqM (retM (upF (kM (.bl false)))) skipM) skipM)
  (seqM (dputK (vL 7) (vM 8) (upR (vM 9)))
  skipM)))
def m_law_b2 : SM := (seqM (asgM (nameT 11) (upF (mA listD (consM (vM 1) nilM))))
  (seqM (ifM (bM (m2 neD (callVM F_fold (consM (vM 11) (consM (vM 2) (consM (vM 8) nilM)))) (m2 ixD (vM 7) (vM 8)))) (seqM (retM (upF (kM (.bl false)))) skipM) skipM)
  (seqM (exprM (revL (vL 11)))
  (seqM (ifM (bM (m2 neD (callVM F_fold (consM (vM 11) (consM (vM 2) (consM (vM 8) nilM)))) (callVM F_fold (consM (coldM (m1 revD (vM 1))) (consM (vM 2) (consM (vM 8) nilM)))))) (seqM (retM (upF (kM (.bl false)))) skipM) skipM)
  skipM))))
def m_law : SM := (seqM (asgM (nameT 1) (upF (coldM (callM F_lw_letters (consM (vM 0) (consM (kM (.int 2)) (consM (kM (.int 44)) nilM)))))))
  (seqM (asgM (nameT 2) (upF (callM F_lw_wide (consM (vM 0) nilM))))
  (seqM (asgM (nameT 3) (upR (m2 ixD (lstM (consM (kM (.int 4)) (consM (kM (.int 3)) (consM (kM (.int 1)) nilM)))) (m2 modD (callM F_lw_mix (consM (callM F_lw_cell (consM (vM 0) (consM (kM (.int 1)) nilM))) (consM (kM (.int 11)) nilM))) (kM (.int 3))))))
  (seqM (iceM 4 (asgM (nameT 4) (upF (compM [12] (nameT 12) yesB (slM (tupM (consM (m2 ixD (vM 12) (kM (.int 0))) (consM (m2 ixD (kM (.str [97, 98, 99, 100, 101, 102, 103, 104, 46])) (m2 modD (m2 ixD (vM 12) (kM (.int 3))) (kM (.int 9)))) (consM (kM (.str [46])) (consM (m2 addD (kM (.int 7)) (m2 mulD (kM (.int 2)) (m2 ixD (vM 12) (kM (.int 3))))) nilM))))) noM (soM (vM 3))) (itV (vM 1))))))
  (seqM (asgM (nameT 5) (upF (coldM (lstM (consM (kM (.str [99, 117, 116])) (consM (kM (.str [99, 101, 108, 108, 115])) (consM (kM (.str [119, 111, 114, 100, 115])) (consM (kM (.str [101, 118, 101, 110])) nilM))))))))
  (seqM (asgM (nameT 6) (upF (m2 modD (callM F_lw_mix (consM (callM F_lw_cell (consM (vM 0) (consM (kM (.int 1)) nilM))) (consM (kM (.int 10)) nilM))) (kM (.int 4)))))
  (seqM (asgM (nameT 5) (upF (coldM (m2 addD (slM (vM 5) (soM (vM 6)) noM) (slM (vM 5) noM (soM (vM 6)))))))
  (seqM (asgM (nameT 7) (upF (dispM nilM nilM)))
  (seqM (forM (nameT 8) m_law_b1 [8, 9] (itM (vM 5)))
  (seqM (asgM (nameT 10) (upF (callM F_lw_fewest (consM (vM 1) (consM (vM 2) nilM)))))
  (seqM (ifM (andB (bM (m2 gtD (vM 10) (kM (.int 0)))) (orB (bM (m2 neD (mA lenD (consM (m2 ixD (vM 7) (kM (.str [119, 111, 114, 100, 115]))) nilM)) (vM 10))) (bM (m2 ltD (mA lenD (consM (m2 ixD (vM 7) (kM (.str [101, 118, 101, 110]))) nilM)) (vM 10))))) (seqM (retM (upF (kM (.bl false)))) skipM) skipM)
  (seqM (forM (nameT 8) m_law_b2 [8, 11] (itM (coldM (lstM (consM (kM (.str [101, 118, 101, 110])) (consM (kM (.str [99, 117, 116])) (consM (kM (.str [119, 111, 114, 100, 115])) (consM (kM (.str [99, 101, 108, 108, 115])) nilM))))))))
  (seqM (retM (upF (kM (.bl true)))) skipM)))))))))))))
def F_law : FM := runM 13 [true] m_law
end LW

namespace LW
open PySem L2 LI OW
abbrev eLs := eL false (e4 eS eS eS eI)
abbrev eLt := e4 eS eS eS eI
def e_Even (o : Bool) (x : OEven_b) : D := .obj o 3 ["row", "wide", "spots"] [(eL false (eV eA)) x.row, eI x.wide, (eL false eI) x.spots]
instance {o : Bool} : Ng (e_Even o) := ⟨fun _ => rfl⟩
instance {o : Bool} : Ic (e_Even o) (e_Even false) := ⟨fun x => by simp [e_Even, eL, Ic.ic, icL]⟩
instance : Fz (e_Even false) := ⟨fun x => by simp [e_Even, Fz.fz, fzL]⟩
theorem L_width_of  (sign : Ts) {r : Int} (h : t_width_of sign = some r) : F_width_of [eS sign] = some (eI r, (fun _ => [eS sign]) r) := by
  have hb : Bk (Qf eI [true] (fun _ => [eS sign])) m_width_of [eS sign] _ := (b_ifT (et_b (x_m2 o2_in (x_v eS sign rfl) (x_k eS ['A', 'B', 'C', 'D', 'E', 'F', 'G', 'H', 'I', 'J', 'K', 'L', 'M', 'N', 'O', 'P', 'Q', 'R', 'S', 'T', 'U', 'V', 'W', 'X', 'Y', 'Z'] rfl))) (b_ret (k := fun (u1_ : Int) => u1_) (eg_f (x_k eI (2) rfl)) (fun u1_ => ⟨rfl, ⟨.inl rfl, rfl⟩⟩)) (b_ret (k := fun (u2_ : Int) => u2_) (eg_f (x_k eI (1) rfl)) (fun u2_ => ⟨.inl rfl, rfl⟩)))
  refine run_T (n := 1) (kp := [true]) (m := m_width_of) (ds := [eS sign]) rfl hb ?_
  first
    | (simp -implicitDefEqProofs only [t_width_of, Option.bind_assoc, Option.bind_some, bind_same] at h ⊢; exact h)
    | (simp -implicitDefEqProofs only [t_width_of, Option.bind_assoc, Option.bind_some, bind_same] at h; exact h)
    | exact h
    | (simp [t_width_of] at h ⊢; exact h)
theorem T_width_of : Tf (τ := Ts × Unit) (fun t => [eS t.1]) eI F_width_of (fun t => t_width_of t.1) := fun t r h => ⟨_, L_width_of t.1 h⟩
theorem L_cells_of  (letters : (List (List An))) {r : Int} (h : t_cells_of_b letters = some r) : F_cells_of [(eL false (eV eA)) letters] = some (eI r, (fun _ => [(eL false (eV eA)) letters]) r) := by
  have hb : Bk (Qf eI [true] (fun _ => [(eL false (eV eA)) letters])) m_cells_of [(eL false (eV eA)) letters, .gone] _ := (b_retI (eg_f (x_a1 o1_sum (x_comp (fun (letter : (List An)) => [(eL false (eV eA)) letters, (eV eA) letter]) (ei_itV (x_v (eL false (eV eA)) letters rfl)) (fun _ => rfl) (fun (letter : (List An)) => et_yes) (fun (letter : (List An)) => (x_call T_width_of (ea_cons (x_dec (e := eS) (x_m2 o2_ixV (x_v (eV eA) letter rfl) (x_k eI (0) rfl))) ea_nil)))))) (fun u5_ => ⟨.inl rfl, rfl⟩))
  refine run_T (n := 2) (kp := [true]) (m := m_cells_of) (ds := [(eL false (eV eA)) letters]) rfl hb ?_
  first
    | (simp -implicitDefEqProofs only [t_cells_of_b, Option.bind_assoc, Option.bind_some, bind_same] at h ⊢; exact h)
    | (simp -implicitDefEqProofs only [t_cells_of_b, Option.bind_assoc, Option.bind_some, bind_same] at h; exact h)
    | exact h
    | (simp [t_cells_of_b] at h ⊢; exact h)
theorem T_cells_of : Tf (τ := (List (List An)) × Unit) (fun t => [(eL false (eV eA)) t.1]) eI F_cells_of (fun t => t_cells_of_b t.1) := fun t r h => ⟨_, L_cells_of t.1 h⟩
theorem L_bare_end  (letters : (List (List An))) (lo : Int) (hi : Int) {r : Int} (h : t_bare_end_b letters lo hi = some r) : F_bare_end [(eL false (eV eA)) letters, eI lo, eI hi] = some (eI r, (fun _ => [(eL false (eV eA)) letters, eI lo, .gone]) r) := by
  have hb : Bk (Qf eI [true, true, false] (fun _ => [(eL false (eV eA)) letters, eI lo, .gone])) m_bare_end [(eL false (eV eA)) letters, eI lo, eI hi] _ := (b_while (fun (s1_ : Int) => [(eL false (eV eA)) letters, eI lo, eI s1_]) hi rfl (fun (s1_ : Int) => (et_and (et_b (x_m2 o2_gtI (x_v eI s1_ rfl) (x_v eI lo rfl))) (et_b (x_m2 o2_eqA (x_m2 o2_ixV (x_m2 o2_ixL (x_v (eL false (eV eA)) letters rfl) (x_m2 o2_subI (x_v eI s1_ rfl) (x_k eI (1) rfl))) (x_k eI (0) rfl)) (x_map (e := eS) (f := eA) (an eS) (fun _ => rfl) (x_k eS [' '] rfl)))))) (fun (s1_ : Int) => (b_asg (fun (hi : Int) => [(eL false (eV eA)) letters, eI lo, eI hi]) (eg_f (x_m2 o2_subI (x_v eI s1_ rfl) (x_k eI (1) rfl))) (fun _ => rfl) (fun (hi : Int) => (b_nil (t := hi) ⟨rfl, rfl⟩)))) (fun (s1_ : Int) => (b_ret (k := fun (u4_ : Int) => u4_) (eg_r (x_v eI s1_ rfl)) (fun u4_ => ⟨.inl rfl, rfl⟩))))
  refine run_T (n := 3) (kp := [true, true, false]) (m := m_bare_end) (ds := [(eL false (eV eA)) letters, eI lo, eI hi]) rfl hb ?_
  first
    | (simp -implicitDefEqProofs only [t_bare_end_b, Option.bind_assoc, Option.bind_some, bind_same] at h ⊢; exact h)
    | (simp -implicitDefEqProofs only [t_bare_end_b, Option.bind_assoc, Option.bind_some, bind_same] at h; exact h)
    | exact h
    | (simp [t_bare_end_b] at h ⊢; exact h)
theorem T_bare_end : Tf (τ := (List (List An)) × Int × Int × Unit) (fun t => [(eL false (eV eA)) t.1, eI t.2.1, eI t.2.2.1]) eI F_bare_end (fun t => t_bare_end_b t.1 t.2.1 t.2.2.1) := fun t r h => ⟨_, L_bare_end t.1 t.2.1 t.2.2.1 h⟩
theorem L_cells_between  (letters : (List (List An))) (lo : Int) (hi : Int) {r : Int} (h : t_cells_between_b letters lo hi = some r) : F_cells_between [(eL false (eV eA)) letters, eI lo, eI hi] = some (eI r, (fun _ => [(eL false (eV eA)) letters, eI lo, eI hi]) r) := by
  have hb : Bk (Qf eI [true, true, true] (fun _ => [(eL false (eV eA)) letters, eI lo, eI hi])) m_cells_between [(eL false (eV eA)) letters, eI lo, eI hi] _ := (b_retI (eg_f (x_call T_cells_of (ea_cons (x_cold (x_sl (x_v (eL false (eV eA)) letters rfl) (eo_so (x_v eI lo rfl)) (eo_so (x_call T_bare_end (ea_cons (x_v (eL false (eV eA)) letters rfl) (ea_cons (x_v eI lo rfl) (ea_cons (x_v eI hi rfl) ea_nil))))))) ea_nil))) (fun u4_ => ⟨.inl rfl, rfl⟩))
  refine run_T (n := 3) (kp := [true, true, true]) (m := m_cells_between) (ds := [(eL false (eV eA)) letters, eI lo, eI hi]) rfl hb ?_
  first
    | (simp -implicitDefEqProofs only [t_cells_between_b, Option.bind_assoc, Option.bind_some, bind_same] at h ⊢; exact h)
    | (simp -implicitDefEqProofs only [t_cells_between_b, Option.bind_assoc, Option.bind_some, bind_same] at h; exact h)
    | exact h
    | (simp [t_cells_between_b] at h ⊢; exact h)
theorem T_cells_between : Tf (τ := (List (List An)) × Int × Int × Unit) (fun t => [(eL false (eV eA)) t.1, eI t.2.1, eI t.2.2.1]) eI F_cells_between (fun t => t_cells_between_b t.1 t.2.1 t.2.2.1) := fun t r h => ⟨_, L_cells_between t.1 t.2.1 t.2.2.1 h⟩
theorem L_fits  (letters : (List (List An))) (lo : Int) (hi : Int) (wide : Int) {r : Bool} (h : t_fits_b letters lo hi wide = some r) : F_fits [(eL false (eV eA)) letters, eI lo, eI hi, eI wide] = some (eB r, (fun _ => [(eL false (eV eA)) letters, eI lo, eI hi, eI wide]) r) := by
  have hb : Bk (Qf eB [true, true, true, true] (fun _ => [(eL false (eV eA)) letters, eI lo, eI hi, eI wide])) m_fits [(eL false (eV eA)) letters, eI lo, eI hi, eI wide] _ := (b_retI (eg_f (x_m2 o2_leI (x_call T_cells_between (ea_cons (x_v (eL false (eV eA)) letters rfl) (ea_cons (x_v eI lo rfl) (ea_cons (x_v eI hi rfl) ea_nil)))) (x_v eI wide rfl))) (fun u2_ => ⟨.inl rfl, rfl⟩))
  refine run_T (n := 4) (kp := [true, true, true, true]) (m := m_fits) (ds := [(eL false (eV eA)) letters, eI lo, eI hi, eI wide]) rfl hb ?_
  first
    | (simp -implicitDefEqProofs only [t_fits_b, Option.bind_assoc, Option.bind_some, bind_same] at h ⊢; exact h)
    | (simp -implicitDefEqProofs only [t_fits_b, Option.bind_assoc, Option.bind_some, bind_same] at h; exact h)
    | exact h
    | (simp [t_fits_b] at h ⊢; exact h)
theorem T_fits : Tf (τ := (List (List An)) × Int × Int × Int × Unit) (fun t => [(eL false (eV eA)) t.1, eI t.2.1, eI t.2.2.1, eI t.2.2.2.1]) eB F_fits (fun t => t_fits_b t.1 t.2.1 t.2.2.1 t.2.2.2.1) := fun t r h => ⟨_, L_fits t.1 t.2.1 t.2.2.1 t.2.2.2.1 h⟩
theorem L_breaks  (letters : (List (List An))) {r : (List Int)} (h : t_breaks_b letters = some r) : F_breaks [(eL false (eV eA)) letters] = some ((eL true eI) r, (fun _ => [(eL false (eV eA)) letters]) r) := by
  have hb : Bk (Qf (eL true eI) [true] (fun _ => [(eL false (eV eA)) letters])) m_breaks [(eL false (eV eA)) letters, .gone, .gone] _ := (b_asg (fun (found : (List Int)) => [(eL false (eV eA)) letters, (eL true eI) found, .gone]) (eg_f (x_lst (f := (eL true eI)) (fun t : Unit => ([] : (List Int))) ea_nil (fun _ => rfl) (fun _ => (by decide : 0 ≤ LIM)))) (fun _ => rfl) (fun (found : (List Int)) => (b_for (fun (s1_ : (List Int)) => [(eL false (eV eA)) letters, (eL true eI) s1_, .gone]) found (fun (s1_ : (List Int)) (at_ : Int) => [(eL false (eV eA)) letters, (eL true eI) s1_, eI at_]) (ei_rng2 (x_k eI (1) rfl) (x_a1 o1_lenL (x_v (eL false (eV eA)) letters rfl))) rfl (fun _ _ => rfl) (fun (s1_ : (List Int)) (at_ : Int) => (b_join (fun (s7_ : (List Int)) => [(eL false (eV eA)) letters, (eL true eI) s7_, eI at_]) (et_and (et_b (x_m2 o2_eqA (x_m2 o2_ixV (x_m2 o2_ixL (x_v (eL false (eV eA)) letters rfl) (x_m2 o2_subI (x_v eI at_ rfl) (x_k eI (1) rfl))) (x_k eI (0) rfl)) (x_map (e := eS) (f := eA) (an eS) (fun _ => rfl) (x_k eS [' '] rfl)))) (et_b (x_m2 o2_neA (x_m2 o2_ixV (x_m2 o2_ixL (x_v (eL false (eV eA)) letters rfl) (x_v eI at_ rfl)) (x_k eI (0) rfl)) (x_map (e := eS) (f := eA) (an eS) (fun _ => rfl) (x_k eS [' '] rfl))))) (b_expr (eg_app (a := eI) (xs := s1_) (env := fun r_ => [(eL false (eV eA)) letters, (eL true eI) r_, eI at_]) rfl (x_fr (x_v eI at_ rfl)) (fun _ => rfl)) (fun (u8_ : (List Int)) => (b_nil (t := u8_) ⟨rfl, rfl⟩))) (b_nil (t := s1_) ⟨rfl, rfl⟩) (fun (s7_ : (List Int)) => (b_nil (t := s7_) ⟨rfl, rfl⟩)))) (fun (s1_ : (List Int)) => (b_join (fun (s10_ : (List Int)) => [(eL false (eV eA)) letters, (eL true eI) s10_, .gone]) (et_b (x_m2 o2_gtI (x_a1 o1_lenL (x_v (eL false (eV eA)) letters rfl)) (x_k eI (0) rfl))) (b_expr (eg_app (a := eI) (xs := s1_) (env := fun r_ => [(eL false (eV eA)) letters, (eL true eI) r_, .gone]) rfl (x_a1 o1_lenL (x_v (eL false (eV eA)) letters rfl)) (fun _ => rfl)) (fun (u11_ : (List Int)) => (b_nil (t := u11_) ⟨rfl, rfl⟩))) (b_nil (t := s1_) ⟨rfl, rfl⟩) (fun (s10_ : (List Int)) => (b_ret (k := fun (u12_ : (List Int)) => u12_) (eg_mv (eL true eI) s10_ [(eL false (eV eA)) letters, .gone, .gone] rfl rfl) (fun u12_ => ⟨.inl rfl, rfl⟩))))))))
  refine run_T (n := 3) (kp := [true]) (m := m_breaks) (ds := [(eL false (eV eA)) letters]) rfl hb ?_
  first
    | (simp -implicitDefEqProofs only [t_breaks_b, Option.bind_assoc, Option.bind_some, bind_same] at h ⊢; exact h)
    | (simp -implicitDefEqProofs only [t_breaks_b, Option.bind_assoc, Option.bind_some, bind_same] at h; exact h)
    | exact h
    | (simp [t_breaks_b] at h ⊢; exact h)
theorem T_breaks : Tf (τ := (List (List An)) × Unit) (fun t => [(eL false (eV eA)) t.1]) (eL true eI) F_breaks (fun t => t_breaks_b t.1) := fun t r h => ⟨_, L_breaks t.1 h⟩
theorem L_taken  (letters : (List (List An))) (lo : Int) (wide : Int) {r : Int} (h : t_taken_b letters lo wide = some r) : F_taken [(eL false (eV eA)) letters, eI lo, eI wide] = some (eI r, (fun _ => [(eL false (eV eA)) letters, eI lo, eI wide]) r) := by
  have hb : Bk (Qf eI [true, true, true] (fun _ => [(eL false (eV eA)) letters, eI lo, eI wide])) m_taken [(eL false (eV eA)) letters, eI lo, eI wide, .gone, .gone] _ := (b_asg (fun (room : Int) => [(eL false (eV eA)) letters, eI lo, eI wide, eI room, .gone]) (eg_r (x_v eI wide rfl)) (fun _ => rfl) (fun (room : Int) => (b_asg (fun (at_ : Int) => [(eL false (eV eA)) letters, eI lo, eI wide, eI room, eI at_]) (eg_r (x_v eI lo rfl)) (fun _ => rfl) (fun (at_ : Int) => (b_while (fun (s1_ : (Int × Int)) => [(eL false (eV eA)) letters, eI lo, eI wide, eI s1_.1, eI s1_.2]) (room, at_) rfl (fun (s1_ : (Int × Int)) => (et_and (et_b (x_m2 o2_ltI (x_v eI s1_.2 rfl) (x_a1 o1_lenL (x_v (eL false (eV eA)) letters rfl)))) (et_b (x_m2 o2_leI (x_call T_width_of (ea_cons (x_dec (e := eS) (x_m2 o2_ixV (x_m2 o2_ixL (x_v (eL false (eV eA)) letters rfl) (x_v eI s1_.2 rfl)) (x_k eI (0) rfl))) ea_nil)) (x_v eI s1_.1 rfl))))) (fun (s1_ : (Int × Int)) => (b_asg (fun (room : Int) => [(eL false (eV eA)) letters, eI lo, eI wide, eI room, eI s1_.2]) (eg_f (x_m2 o2_subI (x_v eI s1_.1 rfl) (x_call T_width_of (ea_cons (x_dec (e := eS) (x_m2 o2_ixV (x_m2 o2_ixL (x_v (eL false (eV eA)) letters rfl) (x_v eI s1_.2 rfl)) (x_k eI (0) rfl))) ea_nil)))) (fun _ => rfl) (fun (room : Int) => (b_asg (fun (at_ : Int) => [(eL false (eV eA)) letters, eI lo, eI wide, eI room, eI at_]) (eg_f (x_m2 o2_addI (x_v eI s1_.2 rfl) (x_k eI (1) rfl))) (fun _ => rfl) (fun (at_ : Int) => (b_nil (t := (room, at_)) ⟨rfl, rfl⟩)))))) (fun (s1_ : (Int × Int)) => (b_ret (k := fun (u13_ : Int) => u13_) (eg_r (x_v eI s1_.2 rfl)) (fun u13_ => ⟨.inl rfl, rfl⟩))))))))
  refine run_T (n := 5) (kp := [true, true, true]) (m := m_taken) (ds := [(eL false (eV eA)) letters, eI lo, eI wide]) rfl hb ?_
  first
    | (simp -implicitDefEqProofs only [t_taken_b, Option.bind_assoc, Option.bind_some, bind_same] at h ⊢; exact h)
    | (simp -implicitDefEqProofs only [t_taken_b, Option.bind_assoc, Option.bind_some, bind_same] at h; exact h)
    | exact h
    | (simp [t_taken_b] at h ⊢; exact h)
theorem T_taken : Tf (τ := (List (List An)) × Int × Int × Unit) (fun t => [(eL false (eV eA)) t.1, eI t.2.1, eI t.2.2.1]) eI F_taken (fun t => t_taken_b t.1 t.2.1 t.2.2.1) := fun t r h => ⟨_, L_taken t.1 t.2.1 t.2.2.1 h⟩
theorem L_reached  (letters : (List (List An))) (spots : (List Int)) (lo : Int) (wide : Int) {r : (List Int)} (h : t_reached_b letters spots lo wide = some r) : F_reached [(eL false (eV eA)) letters, (eL false eI) spots, eI lo, eI wide] = some ((eL true eI) r, (fun _ => [(eL false (eV eA)) letters, (eL false eI) spots, eI lo, eI wide]) r) := by
  have hb : Bk (Qf (eL true eI) [true, true, true, true] (fun _ => [(eL false (eV eA)) letters, (eL false eI) spots, eI lo, eI wide])) m_reached [(eL false (eV eA)) letters, (eL false eI) spots, eI lo, eI wide, .gone, .gone] _ := (b_asg (fun (found : (List Int)) => [(eL false (eV eA)) letters, (eL false eI) spots, eI lo, eI wide, (eL true eI) found, .gone]) (eg_f (x_lst (f := (eL true eI)) (fun t : Unit => ([] : (List Int))) ea_nil (fun _ => rfl) (fun _ => (by decide : 0 ≤ LIM)))) (fun _ => rfl) (fun (found : (List Int)) => (b_forR (fun (s1_ : (List Int)) => [(eL false (eV eA)) letters, (eL false eI) spots, eI lo, eI wide, (eL true eI) s1_, .gone]) found (fun (s1_ : (List Int)) (spot : Int) => [(eL false (eV eA)) letters, (eL false eI) spots, eI lo, eI wide, (eL true eI) s1_, eI spot]) (ei_it (x_v (eL false eI) spots rfl)) rfl (fun _ _ => rfl) (fun (s1_ : (List Int)) (spot : Int) => (b_mix (fun (s2_ : (List Int)) => [(eL false (eV eA)) letters, (eL false eI) spots, eI lo, eI wide, (eL true eI) s2_, eI spot]) (et_b (x_m2 o2_gtI (x_v eI spot rfl) (x_v eI lo rfl))) (b_ifT (et_not (et_tru (x_call T_fits (ea_cons (x_v (eL false (eV eA)) letters rfl) (ea_cons (x_v eI lo rfl) (ea_cons (x_v eI spot rfl) (ea_cons (x_v eI wide rfl) ea_nil))))))) (b_bk (t := (.inr (.bk s1_ : (St (List Int) (List Int))) : ((List Int) ⊕ (St (List Int) (List Int))))) ⟨rfl, ⟨rfl, ⟨rfl, rfl⟩⟩⟩) (b_expr (eg_app (a := eI) (xs := s1_) (env := fun r_ => [(eL false (eV eA)) letters, (eL false eI) spots, eI lo, eI wide, (eL true eI) r_, eI spot]) rfl (x_fr (x_v eI spot rfl)) (fun _ => rfl)) (fun (u4_ : (List Int)) => (b_nil (t := (.inl u4_ : ((List Int) ⊕ (St (List Int) (List Int))))) ⟨rfl, rfl⟩)))) (b_nil (t := (.inl s1_ : ((List Int) ⊕ (St (List Int) (List Int))))) ⟨rfl, rfl⟩) (fun (s2_ : (List Int)) => (b_nil (t := (.nx s2_ : (St (List Int) (List Int)))) ⟨rfl, rfl⟩)))) (fun (s1_ : (List Int)) => (b_ifT (et_b (x_m2 (o2_eq (e' := (eL false eI)) (by decide)) (x_v (eL true eI) s1_ rfl) (x_lst (f := (eL true eI)) (fun t : Unit => ([] : (List Int))) ea_nil (fun _ => rfl) (fun _ => (by decide : 0 ≤ LIM))))) (b_retI (eg_f (x_lst (f := (eL true eI)) (fun t : Int × Unit => ([t.1] : (List Int))) (ea_cons (x_call T_taken (ea_cons (x_v (eL false (eV eA)) letters rfl) (ea_cons (x_v eI lo rfl) (ea_cons (x_v eI wide rfl) ea_nil)))) ea_nil) (fun _ => rfl) (fun _ => (by decide : 1 ≤ LIM)))) (fun u7_ => ⟨rfl, ⟨.inl rfl, rfl⟩⟩)) (b_ret (k := fun (u8_ : (List Int)) => u8_) (eg_mv (eL true eI) s1_ [(eL false (eV eA)) letters, (eL false eI) spots, eI lo, eI wide, .gone, .gone] rfl rfl) (fun u8_ => ⟨.inl rfl, rfl⟩)))))))
  refine run_T (n := 6) (kp := [true, true, true, true]) (m := m_reached) (ds := [(eL false (eV eA)) letters, (eL false eI) spots, eI lo, eI wide]) rfl hb ?_
  first
    | (simp -implicitDefEqProofs only [t_reached_b, Option.bind_assoc, Option.bind_some, bind_same] at h ⊢; exact h)
    | (simp -implicitDefEqProofs only [t_reached_b, Option.bind_assoc, Option.bind_some, bind_same] at h; exact h)
    | exact h
    | (simp [t_reached_b] at h ⊢; exact h)
theorem T_reached : Tf (τ := (List (List An)) × (List Int) × Int × Int × Unit) (fun t => [(eL false (eV eA)) t.1, (eL false eI) t.2.1, eI t.2.2.1, eI t.2.2.2.1]) (eL true eI) F_reached (fun t => t_reached_b t.1 t.2.1 t.2.2.1 t.2.2.2.1) := fun t r h => ⟨_, L_reached t.1 t.2.1 t.2.2.1 t.2.2.2.1 h⟩
theorem L_Even_cost_between (o_ : Bool) (self : OEven_b) (lo : Int) (hi : Int) {r : Int} (h : t_Even_cost_between_b self lo hi = some r) : F_Even_cost_between [(e_Even o_) self, eI lo, eI hi] = some (eI r, (fun _ => [(e_Even o_) self, eI lo, eI hi]) r) := by
  have hb : Bk (Qf eI [true, true, true] (fun _ => [(e_Even o_) self, eI lo, eI hi])) m_Even_cost_between [(e_Even o_) self, eI lo, eI hi, .gone] _ := (b_ifT (et_b (x_m2 (o2_eq (e' := eI) (by decide)) (x_v eI hi rfl) (x_a1 o1_lenL (ev_get (e := (eL false (eV eA))) (x := self.row) rfl)))) (b_ret (k := fun (u1_ : Int) => u1_) (eg_f (x_k eI (0) rfl)) (fun u1_ => ⟨rfl, ⟨.inl rfl, rfl⟩⟩)) (b_asg (fun (free : Int) => [(e_Even o_) self, eI lo, eI hi, eI free]) (eg_f (x_m2 o2_subI (ev_get (e := eI) (x := self.wide) rfl) (x_call T_cells_between (ea_cons (ev_get (e := (eL false (eV eA))) (x := self.row) rfl) (ea_cons (x_v eI lo rfl) (ea_cons (x_v eI hi rfl) ea_nil)))))) (fun _ => rfl) (fun (free : Int) => (b_retI (eg_f (x_m2 o2_mul (x_v eI free rfl) (x_v eI free rfl))) (fun u3_ => ⟨.inl rfl, rfl⟩)))))
  refine run_T (n := 4) (kp := [true, true, true]) (m := m_Even_cost_between) (ds := [(e_Even o_) self, eI lo, eI hi]) rfl hb ?_
  first
    | (simp -implicitDefEqProofs only [t_Even_cost_between_b, Option.bind_assoc, Option.bind_some, bind_same] at h ⊢; exact h)
    | (simp -implicitDefEqProofs only [t_Even_cost_between_b, Option.bind_assoc, Option.bind_some, bind_same] at h; exact h)
    | exact h
    | (simp [t_Even_cost_between_b] at h ⊢; exact h)
theorem T_Even_cost_between {o_ : Bool} : To (τ := Int × Int × Unit) (e_Even o_) (fun t => [eI t.1, eI t.2.1]) eI F_Even_cost_between (fun x t => t_Even_cost_between_b x t.1 t.2.1) := fun x t r h => ⟨_, L_Even_cost_between o_ x t.1 t.2.1 h⟩
theorem L_Even_moves_from (o_ : Bool) (self : OEven_b) (node : (Int × Int)) {r : (List (Int × Ts × (Int × Int)))} (h : t_Even_moves_from_b self node = some r) : F_Even_moves_from [(e_Even o_) self, (eY (k2 kI kI)) node] = some ((eL true (e3 eI eS (eY (k2 kI kI)))) r, (fun _ => [(e_Even o_) self, (eY (k2 kI kI)) node]) r) := by
  have hb : Bk (Qf (eL true (e3 eI eS (eY (k2 kI kI)))) [true, true] (fun _ => [(e_Even o_) self, (eY (k2 kI kI)) node])) m_Even_moves_from [(e_Even o_) self, (eY (k2 kI kI)) node, .gone, .gone, .gone] _ := (b_asg (fun (lo : Int) => [(e_Even o_) self, (eY (k2 kI kI)) node, eI lo, .gone, .gone]) (eg_r (x_pr (f := eI) 0 (fun t : (Int × Int) => t.1) (fun _ => rfl) (x_wk (e' := (e2 eI eI)) (fun _ => rfl) (x_v (eY (k2 kI kI)) node rfl)))) (fun _ => rfl) (fun (lo : Int) => (b_ifT (et_b (x_m2 (o2_eq (e' := eI) (by decide)) (x_v eI lo rfl) (x_a1 o1_lenL (ev_get (e := (eL false (eV eA))) (x := self.row) rfl)))) (b_ret (k := fun (u1_ : (List (Int × Ts × (Int × Int)))) => u1_) (eg_f (x_lst (f := (eL true (e3 eI eS (eY (k2 kI kI))))) (fun t : Unit => ([] : (List (Int × Ts × (Int × Int))))) ea_nil (fun _ => rfl) (fun _ => (by decide : 0 ≤ LIM)))) (fun u1_ => ⟨rfl, ⟨.inl rfl, rfl⟩⟩)) (b_asg (fun (found : (List Int)) => [(e_Even o_) self, (eY (k2 kI kI)) node, eI lo, (eL false eI) found, .gone]) (eg_f (x_cold (x_call T_reached (ea_cons (ev_get (e := (eL false (eV eA))) (x := self.row) rfl) (ea_cons (ev_get (e := (eL false eI)) (x := self.spots) rfl) (ea_cons (x_v eI lo rfl) (ea_cons (ev_get (e := eI) (x := self.wide) rfl) ea_nil))))))) (fun _ => rfl) (fun (found : (List Int)) => (b_retI (eg_f (x_comp (fun (hi : Int) => [(e_Even o_) self, (eY (k2 kI kI)) node, eI lo, (eL false eI) found, eI hi]) (ei_itV (x_v (eL false eI) found rfl)) (fun _ => rfl) (fun (hi : Int) => et_yes) (fun (hi : Int) => (x_tup (f := (e3 eI eS (eY (k2 kI kI)))) (fun t : Int × Ts × (Int × Int) × Unit => (t.1, t.2.1, t.2.2.1)) (ea_cons (x_lookF (fun x => rfl) T_Even_cost_between (ev_get (e := (e_Even o_)) (x := self) rfl) (ea_cons (x_v eI lo rfl) (ea_cons (x_v eI hi rfl) ea_nil))) (ea_cons (x_a1 o1_str (x_v eI hi rfl)) (ea_cons (x_key (kk := (k2 kI kI)) (fun t : Int × Int × Unit => (t.1, t.2.1)) (ea_cons (x_v eI hi rfl) (ea_cons (x_k eI (0) rfl) ea_nil)) (fun _ => rfl) (fun _ => (by decide : 2 ≤ LIM))) ea_nil))) (fun _ => rfl) (fun _ => (by decide : 3 ≤ LIM)))))) (fun u5_ => ⟨.inl rfl, rfl⟩)))))))
  refine run_T (n := 5) (kp := [true, true]) (m := m_Even_moves_from) (ds := [(e_Even o_) self, (eY (k2 kI kI)) node]) rfl hb ?_
  first
    | (simp -implicitDefEqProofs only [t_Even_moves_from_b, Option.bind_assoc, Option.bind_some, bind_same] at h ⊢; exact h)
    | (simp -implicitDefEqProofs only [t_Even_moves_from_b, Option.bind_assoc, Option.bind_some, bind_same] at h; exact h)
    | exact h
    | (simp [t_Even_moves_from_b] at h ⊢; exact h)
theorem T_Even_moves_from {o_ : Bool} : To (τ := (Int × Int) × Unit) (e_Even o_) (fun t => [(eY (k2 kI kI)) t.1]) (eL true (e3 eI eS (eY (k2 kI kI)))) F_Even_moves_from (fun x t => t_Even_moves_from_b x t.1) := fun x t r h => ⟨_, L_Even_moves_from o_ x t.1 h⟩
theorem L_cheapest  (trail : OEven_b) (prices : (List ((Int × Int) × (Option Int)))) (node : (Int × Int)) {r : (Option Int)} (h : t_cheapest_d trail prices node = some r) : F_cheapest [(e_Even false) trail, (eDT false (k2 kI kI) (eO eI)) prices, (eY (k2 kI kI)) node] = some ((eO eI) r, (fun _ => [(e_Even false) trail, (eDT false (k2 kI kI) (eO eI)) prices, (eY (k2 kI kI)) node]) r) := by
  have hb : Bk (Qf (eO eI) [true, true, true] (fun _ => [(e_Even false) trail, (eDT false (k2 kI kI) (eO eI)) prices, (eY (k2 kI kI)) node])) m_cheapest [(e_Even false) trail, (eDT false (k2 kI kI) (eO eI)) prices, (eY (k2 kI kI)) node, .gone, .gone, .gone, .gone, .gone] _ := (b_asg (fun (found : (Option Int)) => [(e_Even false) trail, (eDT false (k2 kI kI) (eO eI)) prices, (eY (k2 kI kI)) node, (eO eI) found, .gone, .gone, .gone, .gone]) (eg_r (x_m2 (o2_ixT (o := false) (kk := (k2 kI kI)) (e := (eO eI))) (x_v (eDT false (k2 kI kI) (eO eI)) prices rfl) (x_v (eY (k2 kI kI)) node rfl))) (fun _ => rfl) (fun (found : (Option Int)) => (b_for (fun (s2_ : (Option Int)) => [(e_Even false) trail, (eDT false (k2 kI kI) (eO eI)) prices, (eY (k2 kI kI)) node, (eO eI) s2_, .gone, .gone, .gone, .gone]) found (fun (s2_ : (Option Int)) (x3_ : (Int × Ts × (Int × Int))) => [(e_Even false) trail, (eDT false (k2 kI kI) (eO eI)) prices, (eY (k2 kI kI)) node, (eO eI) s2_, eI x3_.1, eS x3_.2.1, (eY (k2 kI kI)) x3_.2.2, .gone]) (ei_it (x_cold (x_look (fun x => rfl) T_Even_moves_from (ev_get (e := (e_Even false)) (x := trail) rfl) (ea_cons (x_v (eY (k2 kI kI)) node rfl) ea_nil)))) rfl (fun _ _ => rfl) (fun (s2_ : (Option Int)) (x3_ : (Int × Ts × (Int × Int))) => (b_asg (fun (rest : (Option Int)) => [(e_Even false) trail, (eDT false (k2 kI kI) (eO eI)) prices, (eY (k2 kI kI)) node, (eO eI) s2_, eI x3_.1, eS x3_.2.1, (eY (k2 kI kI)) x3_.2.2, (eO eI) rest]) (eg_r (x_m2 (o2_ixT (o := false) (kk := (k2 kI kI)) (e := (eO eI))) (x_v (eDT false (k2 kI kI) (eO eI)) prices rfl) (x_v (eY (k2 kI kI)) x3_.2.2 rfl))) (fun _ => rfl) (fun (rest : (Option Int)) => (b_join (fun (s7_ : (Option Int)) => [(e_Even false) trail, (eDT false (k2 kI kI) (eO eI)) prices, (eY (k2 kI kI)) node, (eO eI) s7_, eI x3_.1, eS x3_.2.1, (eY (k2 kI kI)) x3_.2.2, (eO eI) rest]) (et_and (et_b (x_m2 o2_nisN (x_v (eO eI) rest rfl) (x_k eU () rfl))) (et_or (et_b (x_m2 o2_isN (x_v (eO eI) s2_ rfl) (x_k eU () rfl))) (et_b (x_m2 o2_ltI (x_m2 o2_addI (x_v eI x3_.1 rfl) (x_un (x_v (eO eI) rest rfl))) (x_un (x_v (eO eI) s2_ rfl)))))) (b_asg (fun (found : (Option Int)) => [(e_Even false) trail, (eDT false (k2 kI kI) (eO eI)) prices, (eY (k2 kI kI)) node, (eO eI) found, eI x3_.1, eS x3_.2.1, (eY (k2 kI kI)) x3_.2.2, (eO eI) rest]) (eg_f (x_map (e := eI) (f := (eO eI)) some (fun _ => rfl) (x_m2 o2_addI (x_v eI x3_.1 rfl) (x_un (x_v (eO eI) rest rfl))))) (fun _ => rfl) (fun (found : (Option Int)) => (b_nil (t := found) ⟨rfl, rfl⟩))) (b_nil (t := s2_) ⟨rfl, rfl⟩) (fun (s7_ : (Option Int)) => (b_nil (t := s7_) ⟨rfl, rfl⟩)))))) (fun (s2_ : (Option Int)) => (b_ret (k := fun (u11_ : (Option Int)) => u11_) (eg_r (x_v (eO eI) s2_ rfl)) (fun u11_ => ⟨.inl rfl, rfl⟩))))))
  refine run_T (n := 8) (kp := [true, true, true]) (m := m_cheapest) (ds := [(e_Even false) trail, (eDT false (k2 kI kI) (eO eI)) prices, (eY (k2 kI kI)) node]) rfl hb ?_
  first
    | (simp -implicitDefEqProofs only [t_cheapest_d, Option.bind_assoc, Option.bind_some, bind_same] at h ⊢; exact h)
    | (simp -implicitDefEqProofs only [t_cheapest_d, Option.bind_assoc, Option.bind_some, bind_same] at h; exact h)
    | exact h
    | (simp [t_cheapest_d] at h ⊢; exact h)
theorem T_cheapest : Tf (τ := OEven_b × (List ((Int × Int) × (Option Int))) × (Int × Int) × Unit) (fun t => [(e_Even false) t.1, (eDT false (k2 kI kI) (eO eI)) t.2.1, (eY (k2 kI kI)) t.2.2.1]) (eO eI) F_cheapest (fun t => t_cheapest_d t.1 t.2.1 t.2.2.1) := fun t r h => ⟨_, L_cheapest t.1 t.2.1 t.2.2.1 h⟩
theorem L_settle  (trail : OEven_b) (prices : (List ((Int × Int) × (Option Int)))) (here : (List (Int × Int))) {r : (List ((Int × Int) × (Option Int)))} (h : t_settle_d trail prices here = some r) : F_settle [(e_Even false) trail, (eDT true (k2 kI kI) (eO eI)) prices, (eL false (eY (k2 kI kI))) here] = some ((fun _ => .non) r, (fun r : (List ((Int × Int) × (Option Int))) => [(e_Even false) trail, (eDT true (k2 kI kI) (eO eI)) r, (eL false (eY (k2 kI kI))) here]) r) := by
  have hb : Bk (Qf (fun _ => .non) [true, true, true] (fun r : (List ((Int × Int) × (Option Int))) => [(e_Even false) trail, (eDT true (k2 kI kI) (eO eI)) r, (eL false (eY (k2 kI kI))) here])) m_settle [(e_Even false) trail, (eDT true (k2 kI kI) (eO eI)) prices, (eL false (eY (k2 kI kI))) here, .gone, .gone, .gone] _ := (b_asg (fun (falls : Bool) => [(e_Even false) trail, (eDT true (k2 kI kI) (eO eI)) prices, (eL false (eY (k2 kI kI))) here, eB falls, .gone, .gone]) (eg_f (x_k eB true rfl)) (fun _ => rfl) (fun (falls : Bool) => (b_while (fun (s1_ : ((List ((Int × Int) × (Option Int))) × Bool)) => [(e_Even false) trail, (eDT true (k2 kI kI) (eO eI)) s1_.1, (eL false (eY (k2 kI kI))) here, eB s1_.2, .gone, .gone]) (prices, falls) rfl (fun (s1_ : ((List ((Int × Int) × (Option Int))) × Bool)) => (et_tru (x_v eB s1_.2 rfl))) (fun (s1_ : ((List ((Int × Int) × (Option Int))) × Bool)) => (b_asg (fun (falls : Bool) => [(e_Even false) trail, (eDT true (k2 kI kI) (eO eI)) s1_.1, (eL false (eY (k2 kI kI))) here, eB falls, .gone, .gone]) (eg_f (x_k eB false rfl)) (fun _ => rfl) (fun (falls : Bool) => (b_for (fun (s2_ : ((List ((Int × Int) × (Option Int))) × Bool)) => [(e_Even false) trail, (eDT true (k2 kI kI) (eO eI)) s2_.1, (eL false (eY (k2 kI kI))) here, eB s2_.2, .gone, .gone]) (s1_.1, falls) (fun (s2_ : ((List ((Int × Int) × (Option Int))) × Bool)) (node : (Int × Int)) => [(e_Even false) trail, (eDT true (k2 kI kI) (eO eI)) s2_.1, (eL false (eY (k2 kI kI))) here, eB s2_.2, (eY (k2 kI kI)) node, .gone]) (ei_it (x_v (eL false (eY (k2 kI kI))) here rfl)) rfl (fun _ _ => rfl) (fun (s2_ : ((List ((Int × Int) × (Option Int))) × Bool)) (node : (Int × Int)) => (b_asg (fun (found : (Option Int)) => [(e_Even false) trail, (eDT true (k2 kI kI) (eO eI)) s2_.1, (eL false (eY (k2 kI kI))) here, eB s2_.2, (eY (k2 kI kI)) node, (eO eI) found]) (eg_f (x_callF T_cheapest (ea_cons (x_v (e_Even false) trail rfl) (ea_consW (x_v (eDT true (k2 kI kI) (eO eI)) s2_.1 rfl) (ea_cons (x_v (eY (k2 kI kI)) node rfl) ea_nil))))) (fun _ => rfl) (fun (found : (Option Int)) => (b_join (fun (s4_ : ((List ((Int × Int) × (Option Int))) × Bool)) => [(e_Even false) trail, (eDT true (k2 kI kI) (eO eI)) s4_.1, (eL false (eY (k2 kI kI))) here, eB s4_.2, (eY (k2 kI kI)) node, (eO eI) found]) (et_b (x_m2 (o2_ne (e' := (eO eI)) (by decide)) (x_v (eO eI) found rfl) (x_m2 (o2_ixT (o := true) (kk := (k2 kI kI)) (e := (eO eI))) (x_v (eDT true (k2 kI kI) (eO eI)) s2_.1 rfl) (x_v (eY (k2 kI kI)) node rfl)))) (b_dputT (av := (eO eI)) (v := fun u5_ => u5_) (xs := fun u5_ => s2_.1) (fun p7_ => [(e_Even false) trail, (eDT true (k2 kI kI) (eO eI)) p7_.2, (eL false (eY (k2 kI kI))) here, eB s2_.2, (eY (k2 kI kI)) node, (eO eI) found]) (eg_r (x_v (eO eI) found rfl)) (fun _ => rfl) (fun _ => rfl) (fun u5_ => (x_v (eY (k2 kI kI)) node rfl)) (fun _ => rfl) (fun p7_ => (b_asg (fun (falls : Bool) => [(e_Even false) trail, (eDT true (k2 kI kI) (eO eI)) p7_.2, (eL false (eY (k2 kI kI))) here, eB falls, (eY (k2 kI kI)) node, (eO eI) found]) (eg_f (x_k eB true rfl)) (fun _ => rfl) (fun (falls : Bool) => (b_nil (t := (p7_.2, falls)) ⟨rfl, rfl⟩))))) (b_nil (t := (s2_.1, s2_.2)) ⟨rfl, rfl⟩) (fun (s4_ : ((List ((Int × Int) × (Option Int))) × Bool)) => (b_nil (t := (s4_.1, s4_.2)) ⟨rfl, rfl⟩)))))) (fun (s2_ : ((List ((Int × Int) × (Option Int))) × Bool)) => (b_nil (t := (s2_.1, s2_.2)) ⟨rfl, rfl⟩)))))) (fun (s1_ : ((List ((Int × Int) × (Option Int))) × Bool)) => (b_nil (t := s1_.1) ⟨.inr ⟨rfl, rfl⟩, rfl⟩)))))
  refine run_T (n := 6) (kp := [true, true, true]) (m := m_settle) (ds := [(e_Even false) trail, (eDT true (k2 kI kI) (eO eI)) prices, (eL false (eY (k2 kI kI))) here]) rfl hb ?_
  first
    | (simp -implicitDefEqProofs only [t_settle_d, Option.bind_assoc, Option.bind_some, bind_same] at h ⊢; exact h)
    | (simp -implicitDefEqProofs only [t_settle_d, Option.bind_assoc, Option.bind_some, bind_same] at h; exact h)
    | exact h
    | (simp [t_settle_d] at h ⊢; exact h)
theorem T_settle : Tl (τ1 := OEven_b × Unit) (τ2 := (List (Int × Int)) × Unit) (fun t => [(e_Even false) t.1]) (eDT true (k2 kI kI) (eO eI)) (fun t => [(eL false (eY (k2 kI kI))) t.1]) (fun _ => .non) (fun r => r) F_settle (fun t x u => t_settle_d t.1 x u.1) := fun t x u r h => ⟨_, L_settle t.1 x u.1 h, rfl⟩
theorem L_Even_nodes_at (o_ : Bool) (self : OEven_b) (at_ : Int) {r : (List (Int × Int))} (h : t_Even_nodes_at_b self at_ = some r) : F_Even_nodes_at [(e_Even o_) self, eI at_] = some ((eL true (eY (k2 kI kI))) r, (fun _ => [(e_Even o_) self, eI at_]) r) := by
  have hb : Bk (Qf (eL true (eY (k2 kI kI))) [true, true] (fun _ => [(e_Even o_) self, eI at_])) m_Even_nodes_at [(e_Even o_) self, eI at_] _ := (b_ret (k := fun (u1_ : (List (Int × Int))) => u1_) (eg_f (x_lst (f := (eL true (eY (k2 kI kI)))) (fun t : (Int × Int) × Unit => ([t.1] : (List (Int × Int)))) (ea_cons (x_key (kk := (k2 kI kI)) (fun t : Int × Int × Unit => (t.1, t.2.1)) (ea_cons (x_v eI at_ rfl) (ea_cons (x_k eI (0) rfl) ea_nil)) (fun _ => rfl) (fun _ => (by decide : 2 ≤ LIM))) ea_nil) (fun _ => rfl) (fun _ => (by decide : 1 ≤ LIM)))) (fun u1_ => ⟨.inl rfl, rfl⟩))
  refine run_T (n := 2) (kp := [true, true]) (m := m_Even_nodes_at) (ds := [(e_Even o_) self, eI at_]) rfl hb ?_
  first
    | (simp -implicitDefEqProofs only [t_Even_nodes_at_b, Option.bind_assoc, Option.bind_some, bind_same] at h ⊢; exact h)
    | (simp -implicitDefEqProofs only [t_Even_nodes_at_b, Option.bind_assoc, Option.bind_some, bind_same] at h; exact h)
    | exact h
    | (simp [t_Even_nodes_at_b] at h ⊢; exact h)
theorem T_Even_nodes_at {o_ : Bool} : To (τ := Int × Unit) (e_Even o_) (fun t => [eI t.1]) (eL true (eY (k2 kI kI))) F_Even_nodes_at (fun x t => t_Even_nodes_at_b x t.1) := fun x t r h => ⟨_, L_Even_nodes_at o_ x t.1 h⟩
theorem L_Even_last_at (o_ : Bool) (self : OEven_b) {r : Int} (h : t_Even_last_at_b self = some r) : F_Even_last_at [(e_Even o_) self] = some (eI r, (fun _ => [(e_Even o_) self]) r) := by
  have hb : Bk (Qf eI [true] (fun _ => [(e_Even o_) self])) m_Even_last_at [(e_Even o_) self] _ := (b_ret (k := fun (u1_ : Int) => u1_) (eg_f (x_a1 o1_lenL (ev_get (e := (eL false (eV eA))) (x := self.row) rfl))) (fun u1_ => ⟨.inl rfl, rfl⟩))
  refine run_T (n := 1) (kp := [true]) (m := m_Even_last_at) (ds := [(e_Even o_) self]) rfl hb ?_
  first
    | (simp -implicitDefEqProofs only [t_Even_last_at_b, Option.bind_assoc, Option.bind_some, bind_same] at h ⊢; exact h)
    | (simp -implicitDefEqProofs only [t_Even_last_at_b, Option.bind_assoc, Option.bind_some, bind_same] at h; exact h)
    | exact h
    | (simp [t_Even_last_at_b] at h ⊢; exact h)
theorem T_Even_last_at {o_ : Bool} : To (τ := Unit) (e_Even o_) (fun t => []) eI F_Even_last_at (fun x t => t_Even_last_at_b x ) := fun x t r h => ⟨_, L_Even_last_at o_ x  h⟩
theorem L_Even_is_end (o_ : Bool) (self : OEven_b) (node : (Int × Int)) {r : Bool} (h : t_Even_is_end_b self node = some r) : F_Even_is_end [(e_Even o_) self, (eY (k2 kI kI)) node] = some (eB r, (fun _ => [(e_Even o_) self, (eY (k2 kI kI)) node]) r) := by
  have hb : Bk (Qf eB [true, true] (fun _ => [(e_Even o_) self, (eY (k2 kI kI)) node])) m_Even_is_end [(e_Even o_) self, (eY (k2 kI kI)) node] _ := (b_ret (k := fun (u1_ : Bool) => u1_) (eg_f (x_m2 (o2_eq (e' := eI) (by decide)) (x_pr (f := eI) 0 (fun t : (Int × Int) => t.1) (fun _ => rfl) (x_wk (e' := (e2 eI eI)) (fun _ => rfl) (x_v (eY (k2 kI kI)) node rfl))) (x_a1 o1_lenL (ev_get (e := (eL false (eV eA))) (x := self.row) rfl)))) (fun u1_ => ⟨.inl rfl, rfl⟩))
  refine run_T (n := 2) (kp := [true, true]) (m := m_Even_is_end) (ds := [(e_Even o_) self, (eY (k2 kI kI)) node]) rfl hb ?_
  first
    | (simp -implicitDefEqProofs only [t_Even_is_end_b, Option.bind_assoc, Option.bind_some, bind_same] at h ⊢; exact h)
    | (simp -implicitDefEqProofs only [t_Even_is_end_b, Option.bind_assoc, Option.bind_some, bind_same] at h; exact h)
    | exact h
    | (simp [t_Even_is_end_b] at h ⊢; exact h)
theorem T_Even_is_end {o_ : Bool} : To (τ := (Int × Int) × Unit) (e_Even o_) (fun t => [(eY (k2 kI kI)) t.1]) eB F_Even_is_end (fun x t => t_Even_is_end_b x t.1) := fun x t r h => ⟨_, L_Even_is_end o_ x t.1 h⟩
theorem L_priced  (trail : OEven_b) {r : (List ((Int × Int) × (Option Int)))} (h : t_priced_d trail = some r) : F_priced [(e_Even false) trail] = some ((eDT true (k2 kI kI) (eO eI)) r, (fun _ => [(e_Even false) trail]) r) := by
  have hb : Bk (Qf (eDT true (k2 kI kI) (eO eI)) [true] (fun _ => [(e_Even false) trail])) m_priced [(e_Even false) trail, .gone, .gone, .gone, .gone] _ := (b_asg (fun (prices : (List ((Int × Int) × (Option Int)))) => [(e_Even false) trail, (eDT true (k2 kI kI) (eO eI)) prices, .gone, .gone, .gone]) (eg_f (x_newT (kk := (k2 kI kI)) (a := (eO eI)))) (fun _ => rfl) (fun (prices : (List ((Int × Int) × (Option Int)))) => (b_for (fun (s3_ : (List ((Int × Int) × (Option Int)))) => [(e_Even false) trail, (eDT true (k2 kI kI) (eO eI)) s3_, .gone, .gone, .gone]) prices (fun (s3_ : (List ((Int × Int) × (Option Int)))) (back : Int) => [(e_Even false) trail, (eDT true (k2 kI kI) (eO eI)) s3_, eI back, .gone, .gone]) (ei_rng1 (x_m2 o2_addI (x_lookF (fun x => rfl) T_Even_last_at (ev_get (e := (e_Even false)) (x := trail) rfl) ea_nil) (x_k eI (1) rfl))) rfl (fun _ _ => rfl) (fun (s3_ : (List ((Int × Int) × (Option Int)))) (back : Int) => (b_asg (fun (here : (List (Int × Int))) => [(e_Even false) trail, (eDT true (k2 kI kI) (eO eI)) s3_, eI back, (eL false (eY (k2 kI kI))) here, .gone]) (eg_f (x_cold (x_look (fun x => rfl) T_Even_nodes_at (ev_get (e := (e_Even false)) (x := trail) rfl) (ea_cons (x_m2 o2_subI (x_lookF (fun x => rfl) T_Even_last_at (ev_get (e := (e_Even false)) (x := trail) rfl) ea_nil) (x_v eI back rfl)) ea_nil)))) (fun _ => rfl) (fun (here : (List (Int × Int))) => (b_for (fun (s6_ : (List ((Int × Int) × (Option Int)))) => [(e_Even false) trail, (eDT true (k2 kI kI) (eO eI)) s6_, eI back, (eL false (eY (k2 kI kI))) here, .gone]) s3_ (fun (s6_ : (List ((Int × Int) × (Option Int)))) (node : (Int × Int)) => [(e_Even false) trail, (eDT true (k2 kI kI) (eO eI)) s6_, eI back, (eL false (eY (k2 kI kI))) here, (eY (k2 kI kI)) node]) (ei_it (x_v (eL false (eY (k2 kI kI))) here rfl)) rfl (fun _ _ => rfl) (fun (s6_ : (List ((Int × Int) × (Option Int)))) (node : (Int × Int)) => (b_dputT (av := (eO eI)) (v := fun u7_ => u7_) (xs := fun u7_ => s6_) (fun p15_ => [(e_Even false) trail, (eDT true (k2 kI kI) (eO eI)) p15_.2, eI back, (eL false (eY (k2 kI kI))) here, (eY (k2 kI kI)) node]) (eg_f (x_map (e := eU) (f := (eO eI)) (fun _ => none) (fun _ => rfl) (x_k eU () rfl))) (fun _ => rfl) (fun _ => rfl) (fun u7_ => (x_v (eY (k2 kI kI)) node rfl)) (fun _ => rfl) (fun p15_ => (b_join (fun (s9_ : (List ((Int × Int) × (Option Int)))) => [(e_Even false) trail, (eDT true (k2 kI kI) (eO eI)) s9_, eI back, (eL false (eY (k2 kI kI))) here, (eY (k2 kI kI)) node]) (et_tru (x_lookF (fun x => rfl) T_Even_is_end (ev_get (e := (e_Even false)) (x := trail) rfl) (ea_cons (x_v (eY (k2 kI kI)) node rfl) ea_nil))) (b_dputT (av := (eO eI)) (v := fun u10_ => u10_) (xs := fun u10_ => p15_.2) (fun p12_ => [(e_Even false) trail, (eDT true (k2 kI kI) (eO eI)) p12_.2, eI back, (eL false (eY (k2 kI kI))) here, (eY (k2 kI kI)) node]) (eg_f (x_map (e := eI) (f := (eO eI)) some (fun _ => rfl) (x_k eI (0) rfl))) (fun _ => rfl) (fun _ => rfl) (fun u10_ => (x_v (eY (k2 kI kI)) node rfl)) (fun _ => rfl) (fun p12_ => (b_nil (t := p12_.2) ⟨rfl, rfl⟩))) (b_nil (t := p15_.2) ⟨rfl, rfl⟩) (fun (s9_ : (List ((Int × Int) × (Option Int)))) => (b_nil (t := s9_) ⟨rfl, rfl⟩)))))) (fun (s6_ : (List ((Int × Int) × (Option Int)))) => (b_expr (eg_lend (x := s6_) (env := fun r17_ => [(e_Even false) trail, (eDT true (k2 kI kI) (eO eI)) r17_, eI back, (eL false (eY (k2 kI kI))) here, .gone]) T_settle rfl (ea_cons (x_v (e_Even false) trail rfl) ea_nil) (ea_cons (x_v (eL false (eY (k2 kI kI))) here rfl) ea_nil) (fun _ => rfl)) (fun (u18_ : (List ((Int × Int) × (Option Int)))) => (b_nil (t := u18_) ⟨rfl, rfl⟩)))))))) (fun (s3_ : (List ((Int × Int) × (Option Int)))) => (b_ret (k := fun (u19_ : (List ((Int × Int) × (Option Int)))) => u19_) (eg_mv (eDT true (k2 kI kI) (eO eI)) s3_ [(e_Even false) trail, .gone, .gone, .gone, .gone] rfl rfl) (fun u19_ => ⟨.inl rfl, rfl⟩))))))
  refine run_T (n := 5) (kp := [true]) (m := m_priced) (ds := [(e_Even false) trail]) rfl hb ?_
  first
    | (simp -implicitDefEqProofs only [t_priced_d, Option.bind_assoc, Option.bind_some, bind_same] at h ⊢; exact h)
    | (simp -implicitDefEqProofs only [t_priced_d, Option.bind_assoc, Option.bind_some, bind_same] at h; exact h)
    | exact h
    | (simp [t_priced_d] at h ⊢; exact h)
theorem T_priced : Tf (τ := OEven_b × Unit) (fun t => [(e_Even false) t.1]) (eDT true (k2 kI kI) (eO eI)) F_priced (fun t => t_priced_d t.1) := fun t r h => ⟨_, L_priced t.1 h⟩
theorem L_Even_init  (letters : (List (List An))) (wide : Int) {r : OEven_b} (h : t_Even_init_b letters wide = some r) : F_Even_init [.obj true 3 [] [], (eL false (eV eA)) letters, eI wide] = some ((fun _ => .non) r, (fun r : OEven_b => e_Even true r :: [(eL false (eV eA)) letters, eI wide]) r) := by
  have hb : Bk (Qf (fun _ => .non) [true, true, true] (fun r : OEven_b => e_Even true r :: [(eL false (eV eA)) letters, eI wide])) m_Even_init [(fun p_ : Unit => .obj true 3 [] []) (), (eL false (eV eA)) letters, eI wide] _ := (b_fld (fun (u1_ : (List (List An))) => [(fun p_ : (List (List An)) => .obj true 3 ["row"] [(eL false (eV eA)) p_]) u1_, (eL false (eV eA)) letters, eI wide]) (eg_f (x_cold (x_a1 o1_listL (x_v (eL false (eV eA)) letters rfl)))) (fun _ => rfl) (fun (u1_ : (List (List An))) => (b_fld (fun (u2_ : Int) => [(fun p_ : ((List (List An)) × Int) => .obj true 3 ["row", "wide"] [(eL false (eV eA)) p_.1, eI p_.2]) (u1_, u2_), (eL false (eV eA)) letters, eI wide]) (eg_r (x_v eI wide rfl)) (fun _ => rfl) (fun (u2_ : Int) => (b_fld (fun (u3_ : (List Int)) => [e_Even true ({ row := u1_, wide := u2_, spots := u3_ : OEven_b }), (eL false (eV eA)) letters, eI wide]) (eg_f (x_cold (x_call T_breaks (ea_cons (ev_get (e := (eL false (eV eA))) (x := u1_) rfl) ea_nil)))) (fun _ => rfl) (fun (u3_ : (List Int)) => (b_nil (t := ({ row := u1_, wide := u2_, spots := u3_ : OEven_b })) ⟨.inr ⟨rfl, rfl⟩, rfl⟩)))))))
  refine run_T (n := 3) (kp := [true, true, true]) (m := m_Even_init) (ds := [.obj true 3 [] [], (eL false (eV eA)) letters, eI wide]) rfl hb ?_
  first
    | (simp -implicitDefEqProofs only [t_Even_init_b, Option.bind_assoc, Option.bind_some, bind_same] at h ⊢; exact h)
    | (simp -implicitDefEqProofs only [t_Even_init_b, Option.bind_assoc, Option.bind_some, bind_same] at h; exact h)
    | exact h
    | (simp [t_Even_init_b] at h ⊢; exact h)
theorem T_Even_init : Tn (τ := (List (List An)) × Int × Unit) 3 (fun t => [(eL false (eV eA)) t.1, eI t.2.1]) (e_Even true) F_Even_init (fun t => t_Even_init_b t.1 t.2.1) := fun t r h => ⟨_, L_Even_init t.1 t.2.1 h⟩
theorem L_Even_first_node (o_ : Bool) (self : OEven_b) {r : (Int × Int)} (h : t_Even_first_node_b self = some r) : F_Even_first_node [(e_Even o_) self] = some ((eY (k2 kI kI)) r, (fun _ => [(e_Even o_) self]) r) := by
  have hb : Bk (Qf (eY (k2 kI kI)) [true] (fun _ => [(e_Even o_) self])) m_Even_first_node [(e_Even o_) self] _ := (b_ret (k := fun (u1_ : (Int × Int)) => u1_) (eg_f (x_key (kk := (k2 kI kI)) (fun t : Int × Int × Unit => (t.1, t.2.1)) (ea_cons (x_k eI (0) rfl) (ea_cons (x_k eI (0) rfl) ea_nil)) (fun _ => rfl) (fun _ => (by decide : 2 ≤ LIM)))) (fun u1_ => ⟨.inl rfl, rfl⟩))
  refine run_T (n := 1) (kp := [true]) (m := m_Even_first_node) (ds := [(e_Even o_) self]) rfl hb ?_
  first
    | (simp -implicitDefEqProofs only [t_Even_first_node_b, Option.bind_assoc, Option.bind_some, bind_same] at h ⊢; exact h)
    | (simp -implicitDefEqProofs only [t_Even_first_node_b, Option.bind_assoc, Option.bind_some, bind_same] at h; exact h)
    | exact h
    | (simp [t_Even_first_node_b] at h ⊢; exact h)
theorem T_Even_first_node {o_ : Bool} : To (τ := Unit) (e_Even o_) (fun t => []) (eY (k2 kI kI)) F_Even_first_node (fun x t => t_Even_first_node_b x ) := fun x t r h => ⟨_, L_Even_first_node o_ x  h⟩
theorem L_even  (letters : (List (List An))) (wide : Int) {r : (List (Int × Int))} (h : t_even_b letters wide = some r) : F_even [(eL false (eV eA)) letters, eI wide] = some ((eL true (e2 eI eI)) r, (fun _ => [(eL false (eV eA)) letters, eI wide]) r) := by
  have hb : Bk (Qf (eL true (e2 eI eI)) [true, true] (fun _ => [(eL false (eV eA)) letters, eI wide])) m_even [(eL false (eV eA)) letters, eI wide, .gone, .gone, .gone, .gone, .gone, .gone, .gone] _ := (b_ifT (et_b (x_m2 (o2_eq (e' := eI) (by decide)) (x_a1 o1_lenL (x_v (eL false (eV eA)) letters rfl)) (x_k eI (0) rfl))) (b_ret (k := fun (u1_ : (List (Int × Int))) => u1_) (eg_f (x_lst (f := (eL true (e2 eI eI))) (fun t : (Int × Int) × Unit => ([t.1] : (List (Int × Int)))) (ea_cons (x_tup (f := (e2 eI eI)) (fun t : Int × Int × Unit => (t.1, t.2.1)) (ea_cons (x_k eI (0) rfl) (ea_cons (x_k eI (0) rfl) ea_nil)) (fun _ => rfl) (fun _ => (by decide : 2 ≤ LIM))) ea_nil) (fun _ => rfl) (fun _ => (by decide : 1 ≤ LIM)))) (fun u1_ => ⟨rfl, ⟨.inl rfl, rfl⟩⟩)) (b_asg (fun (trail : OEven_b) => [(eL false (eV eA)) letters, eI wide, (e_Even false) trail, .gone, .gone, .gone, .gone, .gone, .gone]) (eg_f (x_cold (x_mk T_Even_init (ea_cons (x_v (eL false (eV eA)) letters rfl) (ea_cons (x_v eI wide rfl) ea_nil))))) (fun _ => rfl) (fun (trail : OEven_b) => (b_asg (fun (prices : (List ((Int × Int) × (Option Int)))) => [(eL false (eV eA)) letters, eI wide, (e_Even false) trail, (eDT false (k2 kI kI) (eO eI)) prices, .gone, .gone, .gone, .gone, .gone]) (eg_f (x_cold (x_call T_priced (ea_cons (x_v (e_Even false) trail rfl) ea_nil)))) (fun _ => rfl) (fun (prices : (List ((Int × Int) × (Option Int)))) => (b_asg (fun (found : (List (Int × Int))) => [(eL false (eV eA)) letters, eI wide, (e_Even false) trail, (eDT false (k2 kI kI) (eO eI)) prices, (eL true (e2 eI eI)) found, .gone, .gone, .gone, .gone]) (eg_f (x_lst (f := (eL true (e2 eI eI))) (fun t : Unit => ([] : (List (Int × Int)))) ea_nil (fun _ => rfl) (fun _ => (by decide : 0 ≤ LIM)))) (fun _ => rfl) (fun (found : (List (Int × Int))) => (b_asg (fun (node : (Int × Int)) => [(eL false (eV eA)) letters, eI wide, (e_Even false) trail, (eDT false (k2 kI kI) (eO eI)) prices, (eL true (e2 eI eI)) found, (eY (k2 kI kI)) node, .gone, .gone, .gone]) (eg_f (x_look (fun x => rfl) T_Even_first_node (ev_get (e := (e_Even false)) (x := trail) rfl) ea_nil)) (fun _ => rfl) (fun (node : (Int × Int)) => (b_while (fun (s2_ : ((List (Int × Int)) × (Int × Int))) => [(eL false (eV eA)) letters, eI wide, (e_Even false) trail, (eDT false (k2 kI kI) (eO eI)) prices, (eL true (e2 eI eI)) s2_.1, (eY (k2 kI kI)) s2_.2, .gone, .gone, .gone]) (found, node) rfl (fun (s2_ : ((List (Int × Int)) × (Int × Int))) => (et_not (et_tru (x_lookF (fun x => rfl) T_Even_is_end (ev_get (e := (e_Even false)) (x := trail) rfl) (ea_cons (x_v (eY (k2 kI kI)) s2_.2 rfl) ea_nil))))) (fun (s2_ : ((List (Int × Int)) × (Int × Int))) => (b_asgC (fun (least : (List (Int × Int))) => [(eL false (eV eA)) letters, eI wide, (e_Even false) trail, (eDT false (k2 kI kI) (eO eI)) prices, (eL true (e2 eI eI)) s2_.1, (eY (k2 kI kI)) s2_.2, (eL false (eY (k2 kI kI))) least, .gone, .gone]) (eg_f (x_comp (fun (move : (Int × Ts × (Int × Int))) => [(eL false (eV eA)) letters, eI wide, (e_Even false) trail, (eDT false (k2 kI kI) (eO eI)) prices, (eL true (e2 eI eI)) s2_.1, (eY (k2 kI kI)) s2_.2, .gone, .gone, (e3 eI eS (eY (k2 kI kI))) move]) (ei_itV (x_cold (x_look (fun x => rfl) T_Even_moves_from (ev_get (e := (e_Even false)) (x := trail) rfl) (ea_cons (x_v (eY (k2 kI kI)) s2_.2 rfl) ea_nil)))) (fun _ => rfl) (fun (move : (Int × Ts × (Int × Int))) => (et_b (x_m2 (o2_eq (e' := (eO eI)) (by decide)) (x_map (e := eI) (f := (eO eI)) some (fun _ => rfl) (x_m2 o2_addI (x_pr (f := eI) 0 (fun t : (Int × Ts × (Int × Int)) => t.1) (fun _ => rfl) (x_v (e3 eI eS (eY (k2 kI kI))) move rfl)) (x_un (x_m2 (o2_ixT (o := false) (kk := (k2 kI kI)) (e := (eO eI))) (x_v (eDT false (k2 kI kI) (eO eI)) prices rfl) (x_pr (f := (eY (k2 kI kI))) 2 (fun t : (Int × Ts × (Int × Int)) => t.2.2) (fun _ => rfl) (x_v (e3 eI eS (eY (k2 kI kI))) move rfl)))))) (x_m2 (o2_ixT (o := false) (kk := (k2 kI kI)) (e := (eO eI))) (x_v (eDT false (k2 kI kI) (eO eI)) prices rfl) (x_v (eY (k2 kI kI)) s2_.2 rfl))))) (fun (move : (Int × Ts × (Int × Int))) => (x_pr (f := (eY (k2 kI kI))) 2 (fun t : (Int × Ts × (Int × Int)) => t.2.2) (fun _ => rfl) (x_v (e3 eI eS (eY (k2 kI kI))) move rfl))))) (fun _ => rfl) (fun _ => rfl) (fun (least : (List (Int × Int))) => (b_asg (fun (beyond : (Int × Int)) => [(eL false (eV eA)) letters, eI wide, (e_Even false) trail, (eDT false (k2 kI kI) (eO eI)) prices, (eL true (e2 eI eI)) s2_.1, (eY (k2 kI kI)) s2_.2, (eL false (eY (k2 kI kI))) least, (eY (k2 kI kI)) beyond, .gone]) (eg_f (x_a1 o1_maxY (x_v (eL false (eY (k2 kI kI))) least rfl))) (fun _ => rfl) (fun (beyond : (Int × Int)) => (b_expr (eg_app (a := (e2 eI eI)) (xs := s2_.1) (env := fun r_ => [(eL false (eV eA)) letters, eI wide, (e_Even false) trail, (eDT false (k2 kI kI) (eO eI)) prices, (eL true (e2 eI eI)) r_, (eY (k2 kI kI)) s2_.2, (eL false (eY (k2 kI kI))) least, (eY (k2 kI kI)) beyond, .gone]) rfl (x_tup (f := (e2 eI eI)) (fun t : Int × Int × Unit => (t.1, t.2.1)) (ea_cons (x_pr (f := eI) 0 (fun t : (Int × Int) => t.1) (fun _ => rfl) (x_wk (e' := (e2 eI eI)) (fun _ => rfl) (x_v (eY (k2 kI kI)) s2_.2 rfl))) (ea_cons (x_pr (f := eI) 0 (fun t : (Int × Int) => t.1) (fun _ => rfl) (x_wk (e' := (e2 eI eI)) (fun _ => rfl) (x_v (eY (k2 kI kI)) beyond rfl))) ea_nil)) (fun _ => rfl) (fun _ => (by decide : 2 ≤ LIM))) (fun _ => rfl)) (fun (u11_ : (List (Int × Int))) => (b_asg (fun (node : (Int × Int)) => [(eL false (eV eA)) letters, eI wide, (e_Even false) trail, (eDT false (k2 kI kI) (eO eI)) prices, (eL true (e2 eI eI)) u11_, (eY (k2 kI kI)) node, (eL false (eY (k2 kI kI))) least, (eY (k2 kI kI)) beyond, .gone]) (eg_r (x_v (eY (k2 kI kI)) beyond rfl)) (fun _ => rfl) (fun (node : (Int × Int)) => (b_nil (t := (u11_, node)) ⟨rfl, rfl⟩)))))))))) (fun (s2_ : ((List (Int × Int)) × (Int × Int))) => (b_ret (k := fun (u12_ : (List (Int × Int))) => u12_) (eg_mv (eL true (e2 eI eI)) s2_.1 [(eL false (eV eA)) letters, eI wide, (e_Even false) trail, (eDT false (k2 kI kI) (eO eI)) prices, .gone, (eY (k2 kI kI)) s2_.2, .gone, .gone, .gone] rfl rfl) (fun u12_ => ⟨.inl rfl, rfl⟩)))))))))))))
  refine run_T (n := 9) (kp := [true, true]) (m := m_even) (ds := [(eL false (eV eA)) letters, eI wide]) rfl hb ?_
  first
    | (simp -implicitDefEqProofs only [t_even_b, Option.bind_assoc, Option.bind_some, bind_same] at h ⊢; exact h)
    | (simp -implicitDefEqProofs only [t_even_b, Option.bind_assoc, Option.bind_some, bind_same] at h; exact h)
    | exact h
    | (simp [t_even_b] at h ⊢; exact h)
theorem T_even : Tf (τ := (List (List An)) × Int × Unit) (fun t => [(eL false (eV eA)) t.1, eI t.2.1]) (eL true (e2 eI eI)) F_even (fun t => t_even_b t.1 t.2.1) := fun t r h => ⟨_, L_even t.1 t.2.1 h⟩
theorem L_is_wide  (thing : Int) {r : Bool} (h : t_is_wide thing = some r) : F_is_wide [eI thing] = some (eB r, (fun _ => [eI thing]) r) := by
  have hb : Bk (Qf eB [true] (fun _ => [eI thing])) m_is_wide [eI thing] _ := (b_ret (k := fun (u1_ : Bool) => u1_) (eg_f (x_andT (x_isK kit_int_int (x_v eI thing rfl)) (x_andT (x_not (x_isK kit_int_bool (x_v eI thing rfl))) (x_chT o2_leI o2_leI (x_k eI (2) rfl) (x_v eI thing rfl) (x_k eI (40) rfl))))) (fun u1_ => ⟨.inl rfl, rfl⟩))
  refine run_T (n := 1) (kp := [true]) (m := m_is_wide) (ds := [eI thing]) rfl hb ?_
  first
    | (simp -implicitDefEqProofs only [t_is_wide, Option.bind_assoc, Option.bind_some, bind_same] at h ⊢; exact h)
    | (simp -implicitDefEqProofs only [t_is_wide, Option.bind_assoc, Option.bind_some, bind_same] at h; exact h)
    | exact h
    | (simp [t_is_wide] at h ⊢; exact h)
theorem T_is_wide : Tf (τ := Int × Unit) (fun t => [eI t.1]) eB F_is_wide (fun t => t_is_wide t.1) := fun t r h => ⟨_, L_is_wide t.1 h⟩
theorem L_is_way  (thing : Ts) {r : Bool} (h : t_is_way thing = some r) : F_is_way [eS thing] = some (eB r, (fun _ => [eS thing]) r) := by
  have hb : Bk (Qf eB [true] (fun _ => [eS thing])) m_is_way [eS thing] _ := (b_ret (k := fun (u1_ : Bool) => u1_) (eg_f (x_andT (x_isK kit_str_str (x_v eS thing rfl)) (x_m2 o2_in (x_v eS thing rfl) (x_k eK [['c', 'u', 't'], ['c', 'e', 'l', 'l', 's'], ['w', 'o', 'r', 'd', 's'], ['e', 'v', 'e', 'n']] rfl)))) (fun u1_ => ⟨.inl rfl, rfl⟩))
  refine run_T (n := 1) (kp := [true]) (m := m_is_way) (ds := [eS thing]) rfl hb ?_
  first
    | (simp -implicitDefEqProofs only [t_is_way, Option.bind_assoc, Option.bind_some, bind_same] at h ⊢; exact h)
    | (simp -implicitDefEqProofs only [t_is_way, Option.bind_assoc, Option.bind_some, bind_same] at h; exact h)
    | exact h
    | (simp [t_is_way] at h ⊢; exact h)
theorem T_is_way : Tf (τ := Ts × Unit) (fun t => [eS t.1]) eB F_is_way (fun t => t_is_way t.1) := fun t r h => ⟨_, L_is_way t.1 h⟩
theorem L_line_end  (letters : (List (List An))) (spots : (List Int)) (lo : Int) (wide : Int) (way : Ts) {r : Int} (h : t_line_end_b letters spots lo wide way = some r) : F_line_end [(eL false (eV eA)) letters, (eL false eI) spots, eI lo, eI wide, eS way] = some (eI r, (fun _ => [(eL false (eV eA)) letters, (eL false eI) spots, eI lo, eI wide, eS way]) r) := by
  have hb : Bk (Qf eI [true, true, true, true, true] (fun _ => [(eL false (eV eA)) letters, (eL false eI) spots, eI lo, eI wide, eS way])) m_line_end [(eL false (eV eA)) letters, (eL false eI) spots, eI lo, eI wide, eS way] _ := (b_ifT (et_b (x_m2 (o2_eq (e' := eS) (by decide)) (x_v eS way rfl) (x_k eS ['w', 'o', 'r', 'd', 's'] rfl))) (b_retI (eg_r (x_m2 o2_ixL (x_call T_reached (ea_cons (x_v (eL false (eV eA)) letters rfl) (ea_cons (x_v (eL false eI) spots rfl) (ea_cons (x_v eI lo rfl) (ea_cons (x_v eI wide rfl) ea_nil))))) (x_m1 o1_neg (x_k eI (1) rfl)))) (fun u2_ => ⟨rfl, ⟨.inl rfl, rfl⟩⟩)) (b_retI (eg_f (x_call T_taken (ea_cons (x_v (eL false (eV eA)) letters rfl) (ea_cons (x_v eI lo rfl) (ea_cons (x_v eI wide rfl) ea_nil))))) (fun u3_ => ⟨.inl rfl, rfl⟩)))
  refine run_T (n := 5) (kp := [true, true, true, true, true]) (m := m_line_end) (ds := [(eL false (eV eA)) letters, (eL false eI) spots, eI lo, eI wide, eS way]) rfl hb ?_
  first
    | (simp -implicitDefEqProofs only [t_line_end_b, Option.bind_assoc, Option.bind_some, bind_same] at h ⊢; exact h)
    | (simp -implicitDefEqProofs only [t_line_end_b, Option.bind_assoc, Option.bind_some, bind_same] at h; exact h)
    | exact h
    | (simp [t_line_end_b] at h ⊢; exact h)
theorem T_line_end : Tf (τ := (List (List An)) × (List Int) × Int × Int × Ts × Unit) (fun t => [(eL false (eV eA)) t.1, (eL false eI) t.2.1, eI t.2.2.1, eI t.2.2.2.1, eS t.2.2.2.2.1]) eI F_line_end (fun t => t_line_end_b t.1 t.2.1 t.2.2.1 t.2.2.2.1 t.2.2.2.2.1) := fun t r h => ⟨_, L_line_end t.1 t.2.1 t.2.2.1 t.2.2.2.1 t.2.2.2.2.1 h⟩
theorem L_fold  (letters : (List (List An))) (wide : Int) (way : Ts) {r : (List (Int × Int))} (h : t_fold_b letters wide way = some r) : F_fold [(eL false (eV eA)) letters, eI wide, eS way] = some ((eL true (e2 eI eI)) r, (fun _ => [(eL false (eV eA)) letters, eI wide, eS way]) r) := by
  have hb : Bk (Qf (eL true (e2 eI eI)) [true, true, true] (fun _ => [(eL false (eV eA)) letters, eI wide, eS way])) m_fold [(eL false (eV eA)) letters, eI wide, eS way, .gone, .gone, .gone] _ := (b_ifT (et_or (et_not (et_tru (x_call T_is_wide (ea_cons (x_v eI wide rfl) ea_nil)))) (et_not (et_tru (x_call T_is_way (ea_cons (x_v eS way rfl) ea_nil))))) b_never (b_ifT (et_b (x_m2 (o2_eq (e' := eS) (by decide)) (x_v eS way rfl) (x_k eS ['e', 'v', 'e', 'n'] rfl))) (b_retI (eg_f (x_call T_even (ea_cons (x_v (eL false (eV eA)) letters rfl) (ea_cons (x_v eI wide rfl) ea_nil)))) (fun u4_ => ⟨rfl, ⟨.inl rfl, rfl⟩⟩)) (b_ifT (et_b (x_m2 (o2_eq (e' := eI) (by decide)) (x_a1 o1_lenL (x_v (eL false (eV eA)) letters rfl)) (x_k eI (0) rfl))) (b_ret (k := fun (u5_ : (List (Int × Int))) => u5_) (eg_f (x_lst (f := (eL true (e2 eI eI))) (fun t : (Int × Int) × Unit => ([t.1] : (List (Int × Int)))) (ea_cons (x_tup (f := (e2 eI eI)) (fun t : Int × Int × Unit => (t.1, t.2.1)) (ea_cons (x_k eI (0) rfl) (ea_cons (x_k eI (0) rfl) ea_nil)) (fun _ => rfl) (fun _ => (by decide : 2 ≤ LIM))) ea_nil) (fun _ => rfl) (fun _ => (by decide : 1 ≤ LIM)))) (fun u5_ => ⟨rfl, ⟨.inl rfl, rfl⟩⟩)) (b_asg (fun (spots : (List Int)) => [(eL false (eV eA)) letters, eI wide, eS way, (eL false eI) spots, .gone, .gone]) (eg_f (x_cold (x_call T_breaks (ea_cons (x_v (eL false (eV eA)) letters rfl) ea_nil)))) (fun _ => rfl) (fun (spots : (List Int)) => (b_asg (fun (found : (List (Int × Int))) => [(eL false (eV eA)) letters, eI wide, eS way, (eL false eI) spots, (eL true (e2 eI eI)) found, .gone]) (eg_f (x_lst (f := (eL true (e2 eI eI))) (fun t : (Int × Int) × Unit => ([t.1] : (List (Int × Int)))) (ea_cons (x_tup (f := (e2 eI eI)) (fun t : Int × Int × Unit => (t.1, t.2.1)) (ea_cons (x_k eI (0) rfl) (ea_cons (x_call T_line_end (ea_cons (x_v (eL false (eV eA)) letters rfl) (ea_cons (x_v (eL false eI) spots rfl) (ea_cons (x_k eI (0) rfl) (ea_cons (x_v eI wide rfl) (ea_cons (x_v eS way rfl) ea_nil)))))) ea_nil)) (fun _ => rfl) (fun _ => (by decide : 2 ≤ LIM))) ea_nil) (fun _ => rfl) (fun _ => (by decide : 1 ≤ LIM)))) (fun _ => rfl) (fun (found : (List (Int × Int))) => (b_while (fun (s8_ : (List (Int × Int))) => [(eL false (eV eA)) letters, eI wide, eS way, (eL false eI) spots, (eL true (e2 eI eI)) s8_, .gone]) found rfl (fun (s8_ : (List (Int × Int))) => (et_and (et_b (x_m2 (o2_ne (e' := eS) (by decide)) (x_v eS way rfl) (x_k eS ['c', 'u', 't'] rfl))) (et_b (x_m2 o2_ltI (x_pr (f := eI) 1 (fun t : (Int × Int) => t.2) (fun _ => rfl) (x_m2 o2_ixL (x_v (eL true (e2 eI eI)) s8_ rfl) (x_m1 o1_neg (x_k eI (1) rfl)))) (x_a1 o1_lenL (x_v (eL false (eV eA)) letters rfl)))))) (fun (s8_ : (List (Int × Int))) => (b_asg (fun (lo : Int) => [(eL false (eV eA)) letters, eI wide, eS way, (eL false eI) spots, (eL true (e2 eI eI)) s8_, eI lo]) (eg_r (x_pr (f := eI) 1 (fun t : (Int × Int) => t.2) (fun _ => rfl) (x_m2 o2_ixL (x_v (eL true (e2 eI eI)) s8_ rfl) (x_m1 o1_neg (x_k eI (1) rfl))))) (fun _ => rfl) (fun (lo : Int) => (b_expr (eg_app (a := (e2 eI eI)) (xs := s8_) (env := fun r_ => [(eL false (eV eA)) letters, eI wide, eS way, (eL false eI) spots, (eL true (e2 eI eI)) r_, eI lo]) rfl (x_tup (f := (e2 eI eI)) (fun t : Int × Int × Unit => (t.1, t.2.1)) (ea_cons (x_v eI lo rfl) (ea_cons (x_call T_line_end (ea_cons (x_v (eL false (eV eA)) letters rfl) (ea_cons (x_v (eL false eI) spots rfl) (ea_cons (x_v eI lo rfl) (ea_cons (x_v eI wide rfl) (ea_cons (x_v eS way rfl) ea_nil)))))) ea_nil)) (fun _ => rfl) (fun _ => (by decide : 2 ≤ LIM))) (fun _ => rfl)) (fun (u15_ : (List (Int × Int))) => (b_nil (t := u15_) ⟨rfl, rfl⟩)))))) (fun (s8_ : (List (Int × Int))) => (b_ret (k := fun (u16_ : (List (Int × Int))) => u16_) (eg_mv (eL true (e2 eI eI)) s8_ [(eL false (eV eA)) letters, eI wide, eS way, (eL false eI) spots, .gone, .gone] rfl rfl) (fun u16_ => ⟨.inl rfl, rfl⟩)))))))))))
  refine run_T (n := 6) (kp := [true, true, true]) (m := m_fold) (ds := [(eL false (eV eA)) letters, eI wide, eS way]) rfl hb ?_
  first
    | (simp -implicitDefEqProofs only [t_fold_b, Option.bind_assoc, Option.bind_some, bind_same] at h ⊢; exact h)
    | (simp -implicitDefEqProofs only [t_fold_b, Option.bind_assoc, Option.bind_some, bind_same] at h; exact h)
    | exact h
    | (simp [t_fold_b] at h ⊢; exact h)
theorem T_fold : Tf (τ := (List (List An)) × Int × Ts × Unit) (fun t => [(eL false (eV eA)) t.1, eI t.2.1, eS t.2.2.1]) (eL true (e2 eI eI)) F_fold (fun t => t_fold_b t.1 t.2.1 t.2.2.1) := fun t r h => ⟨_, L_fold t.1 t.2.1 t.2.2.1 h⟩
theorem L_lw_cell  (script : (List Int)) (k : Int) {r : Int} (h : t_lw_cell_b script k = some r) : F_lw_cell [eC script, eI k] = some (eI r, (fun _ => [eC script, eI k]) r) := by
  have hb : Bk (Qf eI [true, true] (fun _ => [eC script, eI k])) m_lw_cell [eC script, eI k, .gone] _ := (b_ifT (et_b (x_m2 o2_ltI (x_v eI k rfl) (x_a1 o1_lenC (x_v eC script rfl)))) (b_retI (eg_r (x_m2 o2_ixC (x_v eC script rfl) (x_v eI k rfl))) (fun u1_ => ⟨rfl, ⟨.inl rfl, rfl⟩⟩)) (b_asg (fun (number : Int) => [eC script, eI k, eI number]) (eg_f (x_m2 o2_addI (x_mulR 7919 (by decide) (x_m2 o2_mul (x_v eI k rfl) (x_v eI k rfl))) (x_k eI (104729) rfl))) (fun _ => rfl) (fun (number : Int) => (b_join (fun (s4_ : Int) => [eC script, eI k, eI s4_]) (et_b (x_m2 o2_gtI (x_a1 o1_lenC (x_v eC script rfl)) (x_k eI (0) rfl))) (b_asg (fun (number_2 : Int) => [eC script, eI k, eI number_2]) (eg_f (x_m2 o2_addI (x_v eI number rfl) (x_mulR 48271 (by decide) (x_modP 1000003 (by decide) (x_m2 o2_ixC (x_v eC script rfl) (x_m2 o2_mod (x_v eI k rfl) (x_a1 o1_lenC (x_v eC script rfl)))) (x_k eI (1000003) rfl))))) (fun _ => rfl) (fun (number_2 : Int) => (b_nil (t := number_2) ⟨rfl, rfl⟩))) (b_nil (t := number) ⟨rfl, rfl⟩) (fun (s4_ : Int) => (b_ret (k := fun (u9_ : Int) => u9_) (eg_f (x_modP 2147483647 (by decide) (x_mulR 48271 (by decide) (x_v eI s4_ rfl)) (x_k eI (2147483647) rfl))) (fun u9_ => ⟨.inl rfl, rfl⟩)))))))
  refine run_T (n := 3) (kp := [true, true]) (m := m_lw_cell) (ds := [eC script, eI k]) rfl hb ?_
  first
    | (simp -implicitDefEqProofs only [t_lw_cell_b, Option.bind_assoc, Option.bind_some, bind_same] at h ⊢; exact h)
    | (simp -implicitDefEqProofs only [t_lw_cell_b, Option.bind_assoc, Option.bind_some, bind_same] at h; exact h)
    | exact h
    | (simp [t_lw_cell_b] at h ⊢; exact h)
theorem T_lw_cell : Tf (τ := (List Int) × Int × Unit) (fun t => [eC t.1, eI t.2.1]) eI F_lw_cell (fun t => t_lw_cell_b t.1 t.2.1) := fun t r h => ⟨_, L_lw_cell t.1 t.2.1 h⟩
theorem L_lw_mix  (cell_here : Int) (k : Int) {r : Int} (h : t_lw_mix cell_here k = some r) : F_lw_mix [eI cell_here, eI k] = some (eI r, (fun _ => [eI cell_here, eI k]) r) := by
  have hb : Bk (Qf eI [true, true] (fun _ => [eI cell_here, eI k])) m_lw_mix [eI cell_here, eI k, .gone, .gone, .gone] _ := (b_ifT (et_b (x_m2 o2_gtI (x_v eI cell_here rfl) (x_pow 10 18 1000000000000000000 (by decide)))) (b_asg (fun (rest : Int) => [eI cell_here, eI k, eI rest, .gone, .gone]) (eg_r (x_v eI cell_here rfl)) (fun _ => rfl) (fun (rest : Int) => (b_for (fun (s1_ : Int) => [eI cell_here, eI k, eI s1_, .gone, .gone]) rest (fun (s1_ : Int) (turn : Int) => [eI cell_here, eI k, eI s1_, eI turn, .gone]) (ei_rng1 (x_v eI k rfl)) rfl (fun _ _ => rfl) (fun (s1_ : Int) (turn : Int) => (b_asg (fun (rest : Int) => [eI cell_here, eI k, eI rest, eI turn, .gone]) (eg_f (x_fdivP 1000000000 (by decide) (x_v eI s1_ rfl) (x_pow 10 9 1000000000 (by decide)))) (fun _ => rfl) (fun (rest : Int) => (b_nil (t := rest) ⟨rfl, rfl⟩)))) (fun (s1_ : Int) => (b_ret (k := fun (u2_ : Int) => u2_) (eg_f (x_modP 1000000000 (by decide) (x_v eI s1_ rfl) (x_pow 10 9 1000000000 (by decide)))) (fun u2_ => ⟨rfl, ⟨.inl rfl, rfl⟩⟩)))))) (b_asg (fun (number : Int) => [eI cell_here, eI k, .gone, .gone, eI number]) (eg_f (x_m2 o2_addI (x_modP 2147483647 (by decide) (x_v eI cell_here rfl) (x_k eI (2147483647) rfl)) (x_k eI (7919) rfl))) (fun _ => rfl) (fun (number : Int) => (b_for (fun (s4_ : Int) => [eI cell_here, eI k, .gone, .gone, eI s4_]) number (fun (s4_ : Int) (turn : Int) => [eI cell_here, eI k, .gone, eI turn, eI s4_]) (ei_rng1 (x_m2 o2_addI (x_v eI k rfl) (x_k eI (2) rfl))) rfl (fun _ _ => rfl) (fun (s4_ : Int) (turn : Int) => (b_asg (fun (number : Int) => [eI cell_here, eI k, .gone, eI turn, eI number]) (eg_f (x_modP 2147483629 (by decide) (x_m2 o2_addI (x_mulR 48271 (by decide) (x_v eI s4_ rfl)) (x_k eI (104729) rfl)) (x_k eI (2147483629) rfl))) (fun _ => rfl) (fun (number : Int) => (b_nil (t := number) ⟨rfl, rfl⟩)))) (fun (s4_ : Int) => (b_retI (eg_f (x_fdivP 11 (by decide) (x_modP 998244353 (by decide) (x_m2 o2_mul (x_v eI s4_ rfl) (x_v eI s4_ rfl)) (x_k eI (998244353) rfl)) (x_k eI (11) rfl))) (fun u7_ => ⟨.inl rfl, rfl⟩)))))))
  refine run_T (n := 5) (kp := [true, true]) (m := m_lw_mix) (ds := [eI cell_here, eI k]) rfl hb ?_
  first
    | (simp -implicitDefEqProofs only [t_lw_mix, Option.bind_assoc, Option.bind_some, bind_same] at h ⊢; exact h)
    | (simp -implicitDefEqProofs only [t_lw_mix, Option.bind_assoc, Option.bind_some, bind_same] at h; exact h)
    | exact h
    | (simp [t_lw_mix] at h ⊢; exact h)
theorem T_lw_mix : Tf (τ := Int × Int × Unit) (fun t => [eI t.1, eI t.2.1]) eI F_lw_mix (fun t => t_lw_mix t.1 t.2.1) := fun t r h => ⟨_, L_lw_mix t.1 t.2.1 h⟩
theorem L_lw_whole  (found : Int) {r : Bool} (h : t_lw_whole found = some r) : F_lw_whole [eI found] = some (eB r, (fun _ => [eI found]) r) := by
  have hb : Bk (Qf eB [true] (fun _ => [eI found])) m_lw_whole [eI found] _ := (b_ret (k := fun (u1_ : Bool) => u1_) (eg_f (x_andT (x_isK kit_int_int (x_v eI found rfl)) (x_not (x_isK kit_int_bool (x_v eI found rfl))))) (fun u1_ => ⟨.inl rfl, rfl⟩))
  refine run_T (n := 1) (kp := [true]) (m := m_lw_whole) (ds := [eI found]) rfl hb ?_
  first
    | (simp -implicitDefEqProofs only [t_lw_whole, Option.bind_assoc, Option.bind_some, bind_same] at h ⊢; exact h)
    | (simp -implicitDefEqProofs only [t_lw_whole, Option.bind_assoc, Option.bind_some, bind_same] at h; exact h)
    | exact h
    | (simp [t_lw_whole] at h ⊢; exact h)
theorem T_lw_whole : Tf (τ := Int × Unit) (fun t => [eI t.1]) eB F_lw_whole (fun t => t_lw_whole t.1) := fun t r h => ⟨_, L_lw_whole t.1 h⟩
theorem L_lw_stream  (cell_here : Int) (many : Int) {r : (List Int)} (h : t_lw_stream cell_here many = some r) : F_lw_stream [eI cell_here, eI many] = some ((eL true eI) r, (fun _ => [eI cell_here, eI many]) r) := by
  have hb : Bk (Qf (eL true eI) [true, true] (fun _ => [eI cell_here, eI many])) m_lw_stream [eI cell_here, eI many, .gone, .gone, .gone, .gone] _ := (b_asg (fun (number : Int) => [eI cell_here, eI many, eI number, .gone, .gone, .gone]) (eg_f (x_m2 o2_addI (x_mulR 48271 (by decide) (x_m2 o2_addI (x_modP 2147483647 (by decide) (x_v eI cell_here rfl) (x_k eI (2147483647) rfl)) (x_k eI (7919) rfl))) (x_k eI (104729) rfl))) (fun _ => rfl) (fun (number : Int) => (b_asg (fun (rest : Int) => [eI cell_here, eI many, eI number, eI rest, .gone, .gone]) (eg_r (x_v eI cell_here rfl)) (fun _ => rfl) (fun (rest : Int) => (b_asg (fun (found : (List Int)) => [eI cell_here, eI many, eI number, eI rest, (eL true eI) found, .gone]) (eg_f (x_lst (f := (eL true eI)) (fun t : Unit => ([] : (List Int))) ea_nil (fun _ => rfl) (fun _ => (by decide : 0 ≤ LIM)))) (fun _ => rfl) (fun (found : (List Int)) => (b_for (fun (s1_ : (Int × Int × (List Int))) => [eI cell_here, eI many, eI s1_.1, eI s1_.2.1, (eL true eI) s1_.2.2, .gone]) (number, rest, found) (fun (s1_ : (Int × Int × (List Int))) (k : Int) => [eI cell_here, eI many, eI s1_.1, eI s1_.2.1, (eL true eI) s1_.2.2, eI k]) (ei_rng1 (x_v eI many rfl)) rfl (fun _ _ => rfl) (fun (s1_ : (Int × Int × (List Int))) (k : Int) => (b_join (fun (s2_ : (Int × Int × (List Int))) => [eI cell_here, eI many, eI s2_.1, eI s2_.2.1, (eL true eI) s2_.2.2, eI k]) (et_b (x_m2 o2_gtI (x_v eI cell_here rfl) (x_pow 10 18 1000000000000000000 (by decide)))) (b_expr (eg_app (a := eI) (xs := s1_.2.2) (env := fun r_ => [eI cell_here, eI many, eI s1_.1, eI s1_.2.1, (eL true eI) r_, eI k]) rfl (x_modP 1000000000 (by decide) (x_v eI s1_.2.1 rfl) (x_pow 10 9 1000000000 (by decide))) (fun _ => rfl)) (fun (u3_ : (List Int)) => (b_asg (fun (rest : Int) => [eI cell_here, eI many, eI s1_.1, eI rest, (eL true eI) u3_, eI k]) (eg_f (x_fdivP 1000000000 (by decide) (x_v eI s1_.2.1 rfl) (x_pow 10 9 1000000000 (by decide)))) (fun _ => rfl) (fun (rest : Int) => (b_nil (t := (s1_.1, rest, u3_)) ⟨rfl, rfl⟩))))) (b_asg (fun (number : Int) => [eI cell_here, eI many, eI number, eI s1_.2.1, (eL true eI) s1_.2.2, eI k]) (eg_f (x_modP 2147483629 (by decide) (x_m2 o2_addI (x_mulR 48271 (by decide) (x_v eI s1_.1 rfl)) (x_k eI (104729) rfl)) (x_k eI (2147483629) rfl))) (fun _ => rfl) (fun (number : Int) => (b_expr (eg_app (a := eI) (xs := s1_.2.2) (env := fun r_ => [eI cell_here, eI many, eI number, eI s1_.2.1, (eL true eI) r_, eI k]) rfl (x_fdivP 11 (by decide) (x_modP 998244353 (by decide) (x_m2 o2_mul (x_v eI number rfl) (x_v eI number rfl)) (x_k eI (998244353) rfl)) (x_k eI (11) rfl)) (fun _ => rfl)) (fun (u9_ : (List Int)) => (b_nil (t := (number, s1_.2.1, u9_)) ⟨rfl, rfl⟩))))) (fun (s2_ : (Int × Int × (List Int))) => (b_nil (t := (s2_.1, s2_.2.1, s2_.2.2)) ⟨rfl, rfl⟩)))) (fun (s1_ : (Int × Int × (List Int))) => (b_ret (k := fun (u10_ : (List Int)) => u10_) (eg_mv (eL true eI) s1_.2.2 [eI cell_here, eI many, eI s1_.1, eI s1_.2.1, .gone, .gone] rfl rfl) (fun u10_ => ⟨.inl rfl, rfl⟩))))))))))
  refine run_T (n := 6) (kp := [true, true]) (m := m_lw_stream) (ds := [eI cell_here, eI many]) rfl hb ?_
  first
    | (simp -implicitDefEqProofs only [t_lw_stream, Option.bind_assoc, Option.bind_some, bind_same] at h ⊢; exact h)
    | (simp -implicitDefEqProofs only [t_lw_stream, Option.bind_assoc, Option.bind_some, bind_same] at h; exact h)
    | exact h
    | (simp [t_lw_stream] at h ⊢; exact h)
theorem T_lw_stream : Tf (τ := Int × Int × Unit) (fun t => [eI t.1, eI t.2.1]) (eL true eI) F_lw_stream (fun t => t_lw_stream t.1 t.2.1) := fun t r h => ⟨_, L_lw_stream t.1 t.2.1 h⟩
theorem L_lw_run  (xs : (List Int)) {r : Ts} (h : t_lw_run xs = some r) : F_lw_run [(eL false eI) xs] = some (eS r, (fun _ => [(eL false eI) xs]) r) := by
  have hb : Bk (Qf eS [true] (fun _ => [(eL false eI) xs])) m_lw_run [(eL false eI) xs, .gone, .gone, .gone, .gone, .gone, .gone, .gone, .gone] _ := (b_asg (fun (small : Ts) => [(eL false eI) xs, eS small, .gone, .gone, .gone, .gone, .gone, .gone, .gone]) (eg_f (x_k eS ['a', 'b', 'c', 'd', 'e', 'f', 'g', 'h', 'i', 'j', 'k', 'l', 'm', 'n', 'o', 'p', 'q', 'r', 's', 't', 'u', 'v', 'w', 'x', 'y', 'z'] rfl)) (fun _ => rfl) (fun (small : Ts) => (b_asg (fun (great : Ts) => [(eL false eI) xs, eS small, eS great, .gone, .gone, .gone, .gone, .gone, .gone]) (eg_f (x_k eS ['A', 'B', 'C', 'D', 'E', 'F', 'G', 'H', 'I', 'J', 'K', 'L', 'M', 'N', 'O', 'P', 'Q', 'R', 'S', 'T', 'U', 'V', 'W', 'X', 'Y', 'Z'] rfl)) (fun _ => rfl) (fun (great : Ts) => (b_asg (fun (other : Ts) => [(eL false eI) xs, eS small, eS great, eS other, .gone, .gone, .gone, .gone, .gone]) (eg_f (x_k eS ['!', '"', '#', '$', '&', '\'', '(', ')', '*', '+', ',', '-', '.', '/', '0', '1', '2', '3', '4', '5', '6', '7', '8', '9', ':', ';', '<', '=', '>', '?', '@', '[', '\\', ']', '^', '_', '`', '{', '|', '}'] rfl)) (fun _ => rfl) (fun (other : Ts) => (b_asg (fun (way : Int) => [(eL false eI) xs, eS small, eS great, eS other, eI way, .gone, .gone, .gone, .gone]) (eg_f (x_modP 8 (by decide) (x_m2 o2_ixL (x_v (eL false eI) xs rfl) (x_k eI (0) rfl)) (x_k eI (8) rfl))) (fun _ => rfl) (fun (way : Int) => (b_asg (fun (many : Int) => [(eL false eI) xs, eS small, eS great, eS other, eI way, eI many, .gone, .gone, .gone]) (eg_f (x_m2 o2_addI (x_k eI (1) rfl) (x_m2 o2_mod (x_m2 o2_ixL (x_v (eL false eI) xs rfl) (x_k eI (1) rfl)) (x_m2 o2_ixL (x_lst (f := (eL true eI)) (fun t : Int × Int × Int × Int × Int × Int × Int × Int × Unit => ([t.1, t.2.1, t.2.2.1, t.2.2.2.1, t.2.2.2.2.1, t.2.2.2.2.2.1, t.2.2.2.2.2.2.1, t.2.2.2.2.2.2.2.1] : (List Int))) (ea_cons (x_k eI (4) rfl) (ea_cons (x_k eI (6) rfl) (ea_cons (x_k eI (9) rfl) (ea_cons (x_k eI (40) rfl) (ea_cons (x_k eI (4) rfl) (ea_cons (x_k eI (3) rfl) (ea_cons (x_k eI (1) rfl) (ea_cons (x_k eI (2) rfl) ea_nil)))))))) (fun _ => rfl) (fun _ => (by decide : 8 ≤ LIM))) (x_v eI way rfl))))) (fun _ => rfl) (fun (many : Int) => (b_asg (fun (signs : Ts) => [(eL false eI) xs, eS small, eS great, eS other, eI way, eI many, eS signs, .gone, .gone]) (eg_r (x_m2 o2_ixL (x_lst (f := (eL true eS)) (fun t : Ts × Ts × Ts × Ts × Ts × Ts × Ts × Ts × Unit => ([t.1, t.2.1, t.2.2.1, t.2.2.2.1, t.2.2.2.2.1, t.2.2.2.2.2.1, t.2.2.2.2.2.2.1, t.2.2.2.2.2.2.2.1] : (List Ts))) (ea_cons (x_v eS small rfl) (ea_cons (x_v eS small rfl) (ea_cons (x_m2 o2_catS (x_v eS small rfl) (x_v eS great rfl)) (ea_cons (x_v eS small rfl) (ea_cons (x_v eS great rfl) (ea_cons (x_k eS [' '] rfl) (ea_cons (x_k eS [' '] rfl) (ea_cons (x_v eS other rfl) ea_nil)))))))) (fun _ => rfl) (fun _ => (by decide : 8 ≤ LIM))) (x_v eI way rfl))) (fun _ => rfl) (fun (signs : Ts) => (b_asg (fun (text : Ts) => [(eL false eI) xs, eS small, eS great, eS other, eI way, eI many, eS signs, eS text, .gone]) (eg_f (x_m2 o2_join (x_k eS ([] : Ts) rfl) (x_comp (fun (k : Int) => [(eL false eI) xs, eS small, eS great, eS other, eI way, eI many, eS signs, .gone, eI k]) (ei_rng1 (x_v eI many rfl)) (fun _ => rfl) (fun (k : Int) => et_yes) (fun (k : Int) => (x_m2 o2_ixS (x_v eS signs rfl) (x_m2 o2_mod (x_m2 o2_addI (x_m2 o2_ixL (x_v (eL false eI) xs rfl) (x_k eI (2) rfl)) (x_mulK 7 (by decide) (x_v eI k rfl))) (x_a1 o1_lenS (x_v eS signs rfl)))))))) (fun _ => rfl) (fun (text : Ts) => (b_retI (eg_f (x_m2 o2_catS (x_v eS text rfl) (x_m2 o2_repS (x_k eS [' '] rfl) (x_fdivP 2 (by decide) (x_modP 5 (by decide) (x_m2 o2_ixL (x_v (eL false eI) xs rfl) (x_k eI (3) rfl)) (x_k eI (5) rfl)) (x_k eI (2) rfl))))) (fun u18_ => ⟨.inl rfl, rfl⟩))))))))))))))))
  refine run_T (n := 9) (kp := [true]) (m := m_lw_run) (ds := [(eL false eI) xs]) rfl hb ?_
  first
    | (simp -implicitDefEqProofs only [t_lw_run, Option.bind_assoc, Option.bind_some, bind_same] at h ⊢; exact h)
    | (simp -implicitDefEqProofs only [t_lw_run, Option.bind_assoc, Option.bind_some, bind_same] at h; exact h)
    | exact h
    | (simp [t_lw_run] at h ⊢; exact h)
theorem T_lw_run : Tf (τ := (List Int) × Unit) (fun t => [(eL false eI) t.1]) eS F_lw_run (fun t => t_lw_run t.1) := fun t r h => ⟨_, L_lw_run t.1 h⟩
theorem L_lw_letters  (script : (List Int)) (at_ : Int) (most : Int) {r : Ls} (h : t_lw_letters script at_ most = some r) : F_lw_letters [eC script, eI at_, eI most] = some ((eL true eLt) r, (fun _ => [eC script, eI at_, eI most]) r) := by
  have hb : Bk (Qf (eL true eLt) [true, true, true] (fun _ => [eC script, eI at_, eI most])) m_lw_letters [eC script, eI at_, eI most, .gone, .gone, .gone, .gone, .gone] _ := (b_asg (fun (letters_here : Ls) => [eC script, eI at_, eI most, (eL true eLt) letters_here, .gone, .gone, .gone, .gone]) (eg_f (x_lst (f := (eL true eLt)) (fun t : Unit => ([] : Ls)) ea_nil (fun _ => rfl) (fun _ => (by decide : 0 ≤ LIM)))) (fun _ => rfl) (fun (letters_here : Ls) => (b_asg (fun (place : Int) => [eC script, eI at_, eI most, (eL true eLt) letters_here, eI place, .gone, .gone, .gone]) (eg_f (x_modP 1000 (by decide) (x_call T_lw_mix (ea_cons (x_call T_lw_cell (ea_cons (x_v eC script rfl) (ea_cons (x_v eI at_ rfl) ea_nil))) (ea_cons (x_k eI (0) rfl) ea_nil))) (x_k eI (1000) rfl))) (fun _ => rfl) (fun (place : Int) => (b_for (fun (s3_ : (Ls × Int)) => [eC script, eI at_, eI most, (eL true eLt) s3_.1, eI s3_.2, .gone, .gone, .gone]) (letters_here, place) (fun (s3_ : (Ls × Int)) (k : Int) => [eC script, eI at_, eI most, (eL true eLt) s3_.1, eI s3_.2, eI k, .gone, .gone]) (ei_rng1 (x_a2 o2_max (x_k eI (1) rfl) (x_a2 o2_min (x_k eI (40) rfl) (x_m2 o2_subI (x_a1 o1_lenC (x_v eC script rfl)) (x_v eI at_ rfl))))) rfl (fun _ _ => rfl) (fun (s3_ : (Ls × Int)) (k : Int) => (b_asg (fun (xs : (List Int)) => [eC script, eI at_, eI most, (eL true eLt) s3_.1, eI s3_.2, eI k, (eL false eI) xs, .gone]) (eg_f (x_cold (x_call T_lw_stream (ea_cons (x_call T_lw_cell (ea_cons (x_v eC script rfl) (ea_cons (x_m2 o2_addI (x_v eI at_ rfl) (x_v eI k rfl)) ea_nil))) (ea_cons (x_k eI (7) rfl) ea_nil))))) (fun _ => rfl) (fun (xs : (List Int)) => (b_for (fun (s6_ : (Ls × Int)) => [eC script, eI at_, eI most, (eL true eLt) s6_.1, eI s6_.2, eI k, (eL false eI) xs, .gone]) (s3_.1, s3_.2) (fun (s6_ : (Ls × Int)) (sign : Ts) => [eC script, eI at_, eI most, (eL true eLt) s6_.1, eI s6_.2, eI k, (eL false eI) xs, eS sign]) (ei_it (x_call T_lw_run (ea_cons (x_v (eL false eI) xs rfl) ea_nil))) rfl (fun _ _ => rfl) (fun (s6_ : (Ls × Int)) (sign : Ts) => (b_join (fun (s7_ : Ls) => [eC script, eI at_, eI most, (eL true eLt) s7_, eI s6_.2, eI k, (eL false eI) xs, eS sign]) (et_b (x_m2 o2_ltI (x_a1 o1_lenL (x_v (eL true eLt) s6_.1 rfl)) (x_v eI most rfl))) (b_expr (eg_app (a := eLt) (xs := s6_.1) (env := fun r_ => [eC script, eI at_, eI most, (eL true eLt) r_, eI s6_.2, eI k, (eL false eI) xs, eS sign]) rfl (x_tup (f := eLt) (fun t : Ts × Ts × Ts × Int × Unit => (t.1, t.2.1, t.2.2.1, t.2.2.2.1)) (ea_cons (x_v eS sign rfl) (ea_cons (x_m2 o2_ixS (x_k eS ['a', 'b', 'c', 'd', 'e', 'f', 'g', 'h', '.'] rfl) (x_modP 9 (by decide) (x_m2 o2_ixL (x_v (eL false eI) xs rfl) (x_k eI (4) rfl)) (x_k eI (9) rfl))) (ea_cons (x_m2 o2_ixS (x_k eS ['a', 'b', 'c', 'd', 'e', 'f', 'g', 'h', '.'] rfl) (x_modP 9 (by decide) (x_m2 o2_ixL (x_v (eL false eI) xs rfl) (x_k eI (5) rfl)) (x_k eI (9) rfl))) (ea_cons (x_v eI s6_.2 rfl) ea_nil)))) (fun _ => rfl) (fun _ => (by decide : 4 ≤ LIM))) (fun _ => rfl)) (fun (u21_ : Ls) => (b_nil (t := u21_) ⟨rfl, rfl⟩))) (b_nil (t := s6_.1) ⟨rfl, rfl⟩) (fun (s7_ : Ls) => (b_asg (fun (place : Int) => [eC script, eI at_, eI most, (eL true eLt) s7_, eI place, eI k, (eL false eI) xs, eS sign]) (eg_f (x_m2 o2_addI (x_m2 o2_addI (x_v eI s6_.2 rfl) (x_k eI (1) rfl)) (x_modP 3 (by decide) (x_m2 o2_ixL (x_v (eL false eI) xs rfl) (x_k eI (6) rfl)) (x_k eI (3) rfl)))) (fun _ => rfl) (fun (place : Int) => (b_nil (t := (s7_, place)) ⟨rfl, rfl⟩)))))) (fun (s6_ : (Ls × Int)) => (b_nil (t := (s6_.1, s6_.2)) ⟨rfl, rfl⟩)))))) (fun (s3_ : (Ls × Int)) => (b_join (fun (s28_ : Ls) => [eC script, eI at_, eI most, (eL true eLt) s28_, eI s3_.2, .gone, .gone, .gone]) (et_b (x_m2 (o2_eq (e' := eI) (by decide)) (x_modP 9 (by decide) (x_call T_lw_mix (ea_cons (x_call T_lw_cell (ea_cons (x_v eC script rfl) (ea_cons (x_k eI (0) rfl) ea_nil))) (ea_cons (x_k eI (9) rfl) ea_nil))) (x_k eI (9) rfl)) (x_k eI (4) rfl))) (b_asg (fun (letters_here : Ls) => [eC script, eI at_, eI most, (eL true eLt) letters_here, eI s3_.2, .gone, .gone, .gone]) (eg_f (x_lst (f := (eL true eLt)) (fun t : Unit => ([] : Ls)) ea_nil (fun _ => rfl) (fun _ => (by decide : 0 ≤ LIM)))) (fun _ => rfl) (fun (letters_here : Ls) => (b_nil (t := letters_here) ⟨rfl, rfl⟩))) (b_nil (t := s3_.1) ⟨rfl, rfl⟩) (fun (s28_ : Ls) => (b_ret (k := fun (u29_ : Ls) => u29_) (eg_mv (eL true eLt) s28_ [eC script, eI at_, eI most, .gone, eI s3_.2, .gone, .gone, .gone] rfl rfl) (fun u29_ => ⟨.inl rfl, rfl⟩))))))))))
  refine run_T (n := 8) (kp := [true, true, true]) (m := m_lw_letters) (ds := [eC script, eI at_, eI most]) rfl hb ?_
  first
    | (simp -implicitDefEqProofs only [t_lw_letters, Option.bind_assoc, Option.bind_some, bind_same] at h ⊢; exact h)
    | (simp -implicitDefEqProofs only [t_lw_letters, Option.bind_assoc, Option.bind_some, bind_same] at h; exact h)
    | exact h
    | (simp [t_lw_letters] at h ⊢; exact h)
theorem T_lw_letters : Tf (τ := (List Int) × Int × Int × Unit) (fun t => [eC t.1, eI t.2.1, eI t.2.2.1]) (eL true eLt) F_lw_letters (fun t => t_lw_letters t.1 t.2.1 t.2.2.1) := fun t r h => ⟨_, L_lw_letters t.1 t.2.1 t.2.2.1 h⟩
theorem L_lw_wide  (script : (List Int)) {r : Int} (h : t_lw_wide script = some r) : F_lw_wide [eC script] = some (eI r, (fun _ => [eC script]) r) := by
  have hb : Bk (Qf eI [true] (fun _ => [eC script])) m_lw_wide [eC script, .gone] _ := (b_asg (fun (cell_here : Int) => [eC script, eI cell_here]) (eg_f (x_call T_lw_cell (ea_cons (x_v eC script rfl) (ea_cons (x_k eI (1) rfl) ea_nil)))) (fun _ => rfl) (fun (cell_here : Int) => (b_retI (eg_f (x_m2 o2_addI (x_k eI (2) rfl) (x_m2 o2_mod (x_call T_lw_mix (ea_cons (x_v eI cell_here rfl) (ea_cons (x_k eI (7) rfl) ea_nil))) (x_m2 o2_ixL (x_lst (f := (eL true eI)) (fun t : Int × Int × Int × Int × Unit => ([t.1, t.2.1, t.2.2.1, t.2.2.2.1] : (List Int))) (ea_cons (x_k eI (4) rfl) (ea_cons (x_k eI (9) rfl) (ea_cons (x_k eI (9) rfl) (ea_cons (x_k eI (39) rfl) ea_nil)))) (fun _ => rfl) (fun _ => (by decide : 4 ≤ LIM))) (x_modP 4 (by decide) (x_call T_lw_mix (ea_cons (x_v eI cell_here rfl) (ea_cons (x_k eI (8) rfl) ea_nil))) (x_k eI (4) rfl)))))) (fun u6_ => ⟨.inl rfl, rfl⟩))))
  refine run_T (n := 2) (kp := [true]) (m := m_lw_wide) (ds := [eC script]) rfl hb ?_
  first
    | (simp -implicitDefEqProofs only [t_lw_wide, Option.bind_assoc, Option.bind_some, bind_same] at h ⊢; exact h)
    | (simp -implicitDefEqProofs only [t_lw_wide, Option.bind_assoc, Option.bind_some, bind_same] at h; exact h)
    | exact h
    | (simp [t_lw_wide] at h ⊢; exact h)
theorem T_lw_wide : Tf (τ := (List Int) × Unit) (fun t => [eC t.1]) eI F_lw_wide (fun t => t_lw_wide t.1) := fun t r h => ⟨_, L_lw_wide t.1 h⟩
theorem L_lw_trimmed  (letters_here : Ls) (lo : Int) (hi : Int) {r : Int} (h : t_lw_trimmed letters_here lo hi = some r) : F_lw_trimmed [eLs letters_here, eI lo, eI hi] = some (eI r, (fun _ => [eLs letters_here, eI lo, .gone]) r) := by
  have hb : Bk (Qf eI [true, true, false] (fun _ => [eLs letters_here, eI lo, .gone])) m_lw_trimmed [eLs letters_here, eI lo, eI hi, .gone, .gone] _ := (b_while (fun (s1_ : Int) => [eLs letters_here, eI lo, eI s1_, .gone, .gone]) hi rfl (fun (s1_ : Int) => (et_and (et_b (x_m2 o2_gtI (x_v eI s1_ rfl) (x_v eI lo rfl))) (et_b (x_m2 (o2_eq (e' := eS) (by decide)) (x_pr (f := eS) 0 (fun t : Lt => t.1) (fun _ => rfl) (x_m2 o2_ixL (x_v eLs letters_here rfl) (x_m2 o2_subI (x_v eI s1_ rfl) (x_k eI (1) rfl)))) (x_k eS [' '] rfl))))) (fun (s1_ : Int) => (b_asg (fun (hi : Int) => [eLs letters_here, eI lo, eI hi, .gone, .gone]) (eg_f (x_m2 o2_subI (x_v eI s1_ rfl) (x_k eI (1) rfl))) (fun _ => rfl) (fun (hi : Int) => (b_nil (t := hi) ⟨rfl, rfl⟩)))) (fun (s1_ : Int) => (b_asg (fun (great : Ts) => [eLs letters_here, eI lo, eI s1_, eS great, .gone]) (eg_f (x_k eS ['A', 'B', 'C', 'D', 'E', 'F', 'G', 'H', 'I', 'J', 'K', 'L', 'M', 'N', 'O', 'P', 'Q', 'R', 'S', 'T', 'U', 'V', 'W', 'X', 'Y', 'Z'] rfl)) (fun _ => rfl) (fun (great : Ts) => (b_retI (eg_f (x_a1 o1_sum (x_comp (fun (letter : Lt) => [eLs letters_here, eI lo, eI s1_, eS great, eLt letter]) (ei_itV (x_cold (x_sl (x_v eLs letters_here rfl) (eo_so (x_v eI lo rfl)) (eo_so (x_v eI s1_ rfl))))) (fun _ => rfl) (fun (letter : Lt) => et_yes) (fun (letter : Lt) => (x_m2 o2_addI (x_k eI (1) rfl) (x_a1 o1_intB (x_m2 o2_in (x_pr (f := eS) 0 (fun t : Lt => t.1) (fun _ => rfl) (x_v eLt letter rfl)) (x_v eS great rfl)))))))) (fun u8_ => ⟨.inl rfl, rfl⟩))))))
  refine run_T (n := 5) (kp := [true, true, false]) (m := m_lw_trimmed) (ds := [eLs letters_here, eI lo, eI hi]) rfl hb ?_
  first
    | (simp -implicitDefEqProofs only [t_lw_trimmed, Option.bind_assoc, Option.bind_some, bind_same] at h ⊢; exact h)
    | (simp -implicitDefEqProofs only [t_lw_trimmed, Option.bind_assoc, Option.bind_some, bind_same] at h; exact h)
    | exact h
    | (simp [t_lw_trimmed] at h ⊢; exact h)
theorem T_lw_trimmed : Tf (τ := Ls × Int × Int × Unit) (fun t => [eLs t.1, eI t.2.1, eI t.2.2.1]) eI F_lw_trimmed (fun t => t_lw_trimmed t.1 t.2.1 t.2.2.1) := fun t r h => ⟨_, L_lw_trimmed t.1 t.2.1 t.2.2.1 h⟩
theorem L_lw_breaks  (letters_here : Ls) {r : (List Int)} (h : t_lw_breaks letters_here = some r) : F_lw_breaks [eLs letters_here] = some ((eL true eI) r, (fun _ => [eLs letters_here]) r) := by
  have hb : Bk (Qf (eL true eI) [true] (fun _ => [eLs letters_here])) m_lw_breaks [eLs letters_here, .gone, .gone] _ := (b_asg (fun (found : (List Int)) => [eLs letters_here, (eL true eI) found, .gone]) (eg_f (x_lst (f := (eL true eI)) (fun t : Unit => ([] : (List Int))) ea_nil (fun _ => rfl) (fun _ => (by decide : 0 ≤ LIM)))) (fun _ => rfl) (fun (found : (List Int)) => (b_for (fun (s1_ : (List Int)) => [eLs letters_here, (eL true eI) s1_, .gone]) found (fun (s1_ : (List Int)) (at_ : Int) => [eLs letters_here, (eL true eI) s1_, eI at_]) (ei_rng2 (x_k eI (1) rfl) (x_m2 o2_addI (x_a1 o1_lenL (x_v eLs letters_here rfl)) (x_k eI (1) rfl))) rfl (fun _ _ => rfl) (fun (s1_ : (List Int)) (at_ : Int) => (b_join (fun (s7_ : (List Int)) => [eLs letters_here, (eL true eI) s7_, eI at_]) (et_or (et_b (x_m2 (o2_eq (e' := eI) (by decide)) (x_v eI at_ rfl) (x_a1 o1_lenL (x_v eLs letters_here rfl)))) (et_and (et_b (x_m2 (o2_eq (e' := eS) (by decide)) (x_pr (f := eS) 0 (fun t : Lt => t.1) (fun _ => rfl) (x_m2 o2_ixL (x_v eLs letters_here rfl) (x_m2 o2_subI (x_v eI at_ rfl) (x_k eI (1) rfl)))) (x_k eS [' '] rfl))) (et_b (x_m2 (o2_ne (e' := eS) (by decide)) (x_pr (f := eS) 0 (fun t : Lt => t.1) (fun _ => rfl) (x_m2 o2_ixL (x_v eLs letters_here rfl) (x_v eI at_ rfl))) (x_k eS [' '] rfl))))) (b_expr (eg_app (a := eI) (xs := s1_) (env := fun r_ => [eLs letters_here, (eL true eI) r_, eI at_]) rfl (x_fr (x_v eI at_ rfl)) (fun _ => rfl)) (fun (u8_ : (List Int)) => (b_nil (t := u8_) ⟨rfl, rfl⟩))) (b_nil (t := s1_) ⟨rfl, rfl⟩) (fun (s7_ : (List Int)) => (b_nil (t := s7_) ⟨rfl, rfl⟩)))) (fun (s1_ : (List Int)) => (b_ret (k := fun (u10_ : (List Int)) => u10_) (eg_mv (eL true eI) s1_ [eLs letters_here, .gone, .gone] rfl rfl) (fun u10_ => ⟨.inl rfl, rfl⟩))))))
  refine run_T (n := 3) (kp := [true]) (m := m_lw_breaks) (ds := [eLs letters_here]) rfl hb ?_
  first
    | (simp -implicitDefEqProofs only [t_lw_breaks, Option.bind_assoc, Option.bind_some, bind_same] at h ⊢; exact h)
    | (simp -implicitDefEqProofs only [t_lw_breaks, Option.bind_assoc, Option.bind_some, bind_same] at h; exact h)
    | exact h
    | (simp [t_lw_breaks] at h ⊢; exact h)
theorem T_lw_breaks : Tf (τ := Ls × Unit) (fun t => [eLs t.1]) (eL true eI) F_lw_breaks (fun t => t_lw_breaks t.1) := fun t r h => ⟨_, L_lw_breaks t.1 h⟩
theorem L_lw_held  (found : (List (Int × Int))) (letters_here : Ls) (wide_here : Int) (way : Ts) {r : Bool} (h : t_lw_held found letters_here wide_here way = some r) : F_lw_held [(eL false (e2 eI eI)) found, eLs letters_here, eI wide_here, eS way] = some (eB r, (fun _ => [(eL false (e2 eI eI)) found, eLs letters_here, eI wide_here, eS way]) r) := by
  have hb : Bk (Qf eB [true, true, true, true] (fun _ => [(eL false (e2 eI eI)) found, eLs letters_here, eI wide_here, eS way])) m_lw_held [(eL false (e2 eI eI)) found, eLs letters_here, eI wide_here, eS way, .gone, .gone] _ := (b_ifT (et_orT (et_not (et_tru (x_isK kit_list_list (x_v (eL false (e2 eI eI)) found rfl)))) (et_b (x_m2 (o2_eq (e' := eI) (by decide)) (x_a1 o1_lenL (x_v (eL false (e2 eI eI)) found rfl)) (x_k eI (0) rfl)))) (b_ret (k := fun (u1_ : Bool) => u1_) (eg_f (x_k eB false rfl)) (fun u1_ => ⟨rfl, ⟨.inl rfl, rfl⟩⟩)) (b_asg (fun (at_ : Int) => [(eL false (e2 eI eI)) found, eLs letters_here, eI wide_here, eS way, eI at_, .gone]) (eg_f (x_k eI (0) rfl)) (fun _ => rfl) (fun (at_ : Int) => (b_forR (fun (s2_ : Int) => [(eL false (e2 eI eI)) found, eLs letters_here, eI wide_here, eS way, eI s2_, .gone]) at_ (fun (s2_ : Int) (one : (Int × Int)) => [(eL false (e2 eI eI)) found, eLs letters_here, eI wide_here, eS way, eI s2_, (e2 eI eI) one]) (ei_it (x_v (eL false (e2 eI eI)) found rfl)) rfl (fun _ _ => rfl) (fun (s2_ : Int) (one : (Int × Int)) => (b_ifT (et_or (et_not (et_tru (x_isK kit_tuple_tuple (x_v (e2 eI eI) one rfl)))) (et_or (et_b (x_m2 (o2_ne (e' := eI) (by decide)) (x_a1 (o1_lenK (n := 2) (fun _ => rfl)) (x_v (e2 eI eI) one rfl)) (x_k eI (2) rfl))) (et_or (et_not (et_tru (x_call T_lw_whole (ea_cons (x_pr (f := eI) 0 (fun t : (Int × Int) => t.1) (fun _ => rfl) (x_v (e2 eI eI) one rfl)) ea_nil)))) (et_not (et_tru (x_call T_lw_whole (ea_cons (x_pr (f := eI) 1 (fun t : (Int × Int) => t.2) (fun _ => rfl) (x_v (e2 eI eI) one rfl)) ea_nil))))))) (b_ret (k := fun (u6_ : Bool) => (.rt u6_ : (St Int Bool))) (eg_f (x_k eB false rfl)) (fun u6_ => ⟨rfl, ⟨rfl, ⟨.inl rfl, rfl⟩⟩⟩)) (b_ifT (et_orT (et_b (x_m2 (o2_ne (e' := eI) (by decide)) (x_pr (f := eI) 0 (fun t : (Int × Int) => t.1) (fun _ => rfl) (x_v (e2 eI eI) one rfl)) (x_v eI s2_ rfl))) (et_orT (et_b (x_m2 o2_ltI (x_pr (f := eI) 1 (fun t : (Int × Int) => t.2) (fun _ => rfl) (x_v (e2 eI eI) one rfl)) (x_v eI s2_ rfl))) (et_orT (et_b (x_m2 o2_gtI (x_pr (f := eI) 1 (fun t : (Int × Int) => t.2) (fun _ => rfl) (x_v (e2 eI eI) one rfl)) (x_a1 o1_lenL (x_v eLs letters_here rfl)))) (et_andT (et_b (x_m2 (o2_eq (e' := eI) (by decide)) (x_pr (f := eI) 1 (fun t : (Int × Int) => t.2) (fun _ => rfl) (x_v (e2 eI eI) one rfl)) (x_v eI s2_ rfl))) (et_b (x_m2 (o2_ne (e' := eLs) (by decide)) (x_v eLs letters_here rfl) (x_lst (f := (eL true eLt)) (fun t : Unit => ([] : Ls)) ea_nil (fun _ => rfl) (fun _ => (by decide : 0 ≤ LIM))))))))) (b_ret (k := fun (u7_ : Bool) => (.rt u7_ : (St Int Bool))) (eg_f (x_k eB false rfl)) (fun u7_ => ⟨rfl, ⟨rfl, ⟨.inl rfl, rfl⟩⟩⟩)) (b_ifT (et_b (x_m2 o2_gtI (x_call T_lw_trimmed (ea_cons (x_v eLs letters_here rfl) (ea_cons (x_pr (f := eI) 0 (fun t : (Int × Int) => t.1) (fun _ => rfl) (x_v (e2 eI eI) one rfl)) (ea_cons (x_pr (f := eI) 1 (fun t : (Int × Int) => t.2) (fun _ => rfl) (x_v (e2 eI eI) one rfl)) ea_nil)))) (x_v eI wide_here rfl))) (b_ret (k := fun (u9_ : Bool) => (.rt u9_ : (St Int Bool))) (eg_f (x_k eB false rfl)) (fun u9_ => ⟨rfl, ⟨rfl, ⟨.inl rfl, rfl⟩⟩⟩)) (b_asg (fun (at_ : Int) => [(eL false (e2 eI eI)) found, eLs letters_here, eI wide_here, eS way, eI at_, (e2 eI eI) one]) (eg_r (x_pr (f := eI) 1 (fun t : (Int × Int) => t.2) (fun _ => rfl) (x_v (e2 eI eI) one rfl))) (fun _ => rfl) (fun (at_ : Int) => (b_nil (t := (.nx at_ : (St Int Bool))) ⟨rfl, rfl⟩))))))) (fun (s2_ : Int) => (b_ifT (et_b (x_m2 (o2_eq (e' := eS) (by decide)) (x_v eS way rfl) (x_k eS ['c', 'u', 't'] rfl))) (b_ret (k := fun (u12_ : Bool) => u12_) (eg_f (x_m2 (o2_eq (e' := eI) (by decide)) (x_a1 o1_lenL (x_v (eL false (e2 eI eI)) found rfl)) (x_k eI (1) rfl))) (fun u12_ => ⟨rfl, ⟨.inl rfl, rfl⟩⟩)) (b_ret (k := fun (u13_ : Bool) => u13_) (eg_f (x_m2 (o2_eq (e' := eI) (by decide)) (x_v eI s2_ rfl) (x_a1 o1_lenL (x_v eLs letters_here rfl)))) (fun u13_ => ⟨.inl rfl, rfl⟩))))))))
  refine run_T (n := 6) (kp := [true, true, true, true]) (m := m_lw_held) (ds := [(eL false (e2 eI eI)) found, eLs letters_here, eI wide_here, eS way]) rfl hb ?_
  first
    | (simp -implicitDefEqProofs only [t_lw_held, Option.bind_assoc, Option.bind_some, bind_same] at h ⊢; exact h)
    | (simp -implicitDefEqProofs only [t_lw_held, Option.bind_assoc, Option.bind_some, bind_same] at h; exact h)
    | exact h
    | (simp [t_lw_held] at h ⊢; exact h)
theorem T_lw_held : Tf (τ := (List (Int × Int)) × Ls × Int × Ts × Unit) (fun t => [(eL false (e2 eI eI)) t.1, eLs t.2.1, eI t.2.2.1, eS t.2.2.2.1]) eB F_lw_held (fun t => t_lw_held t.1 t.2.1 t.2.2.1 t.2.2.2.1) := fun t r h => ⟨_, L_lw_held t.1 t.2.1 t.2.2.1 t.2.2.2.1 h⟩
theorem L_lw_fewest  (letters_here : Ls) (wide_here : Int) {r : Int} (h : t_lw_fewest letters_here wide_here = some r) : F_lw_fewest [eLs letters_here, eI wide_here] = some (eI r, (fun _ => [eLs letters_here, eI wide_here]) r) := by
  have hb : Bk (Qf eI [true, true] (fun _ => [eLs letters_here, eI wide_here])) m_lw_fewest [eLs letters_here, eI wide_here, .gone, .gone, .gone, .gone] _ := (b_asg (fun (spots : (List Int)) => [eLs letters_here, eI wide_here, (eL false eI) spots, .gone, .gone, .gone]) (eg_f (x_cold (x_m2 o2_catL (x_lst (f := (eL true eI)) (fun t : Int × Unit => ([t.1] : (List Int))) (ea_cons (x_k eI (0) rfl) ea_nil) (fun _ => rfl) (fun _ => (by decide : 1 ≤ LIM))) (x_call T_lw_breaks (ea_cons (x_v eLs letters_here rfl) ea_nil))))) (fun _ => rfl) (fun (spots : (List Int)) => (b_asg (fun (lines : (List (Int × Int))) => [eLs letters_here, eI wide_here, (eL false eI) spots, (eD true kI eI) lines, .gone, .gone]) (eg_f (x_disp eI (edp_cons (x_k eI (0) rfl) (x_k eI (0) rfl) (edp_nil (kk := kI) (a := eI))))) (fun _ => rfl) (fun (lines : (List (Int × Int))) => (b_for (fun (s2_ : (List (Int × Int))) => [eLs letters_here, eI wide_here, (eL false eI) spots, (eD true kI eI) s2_, .gone, .gone]) lines (fun (s2_ : (List (Int × Int))) (k : Int) => [eLs letters_here, eI wide_here, (eL false eI) spots, (eD true kI eI) s2_, eI k, .gone]) (ei_rng2 (x_k eI (1) rfl) (x_a1 o1_lenL (x_v (eL false eI) spots rfl))) rfl (fun _ _ => rfl) (fun (s2_ : (List (Int × Int))) (k : Int) => (b_for (fun (s3_ : (List (Int × Int))) => [eLs letters_here, eI wide_here, (eL false eI) spots, (eD true kI eI) s3_, eI k, .gone]) s2_ (fun (s3_ : (List (Int × Int))) (j : Int) => [eLs letters_here, eI wide_here, (eL false eI) spots, (eD true kI eI) s3_, eI k, eI j]) (ei_rng1 (x_v eI k rfl)) rfl (fun _ _ => rfl) (fun (s3_ : (List (Int × Int))) (j : Int) => (b_join (fun (s9_ : (List (Int × Int))) => [eLs letters_here, eI wide_here, (eL false eI) spots, (eD true kI eI) s9_, eI k, eI j]) (et_and (et_b (x_m2 o2_in (x_m2 o2_ixL (x_v (eL false eI) spots rfl) (x_v eI j rfl)) (x_v (eD true kI eI) s3_ rfl))) (et_b (x_m2 o2_leI (x_call T_lw_trimmed (ea_cons (x_v eLs letters_here rfl) (ea_cons (x_m2 o2_ixL (x_v (eL false eI) spots rfl) (x_v eI j rfl)) (ea_cons (x_m2 o2_ixL (x_v (eL false eI) spots rfl) (x_v eI k rfl)) ea_nil)))) (x_v eI wide_here rfl)))) (b_dputK (av := eI) (v := fun u15_ => u15_) (xs := fun u15_ => s3_) (fun p17_ => [eLs letters_here, eI wide_here, (eL false eI) spots, (eD true kI eI) p17_.2, eI k, eI j]) (eg_f (x_a2 o2_min (x_m2 o2_addI (x_m2 (o2_ixD (o := true) (ek := eI) (a := eI)) (x_v (eD true kI eI) s3_ rfl) (x_m2 o2_ixL (x_v (eL false eI) spots rfl) (x_v eI j rfl))) (x_k eI (1) rfl)) (x_get2 (x_v (eD true kI eI) s3_ rfl) (x_m2 o2_ixL (x_v (eL false eI) spots rfl) (x_v eI k rfl)) (x_k eI (1000) rfl)))) (fun _ => rfl) (fun _ => rfl) (fun u15_ => (x_m2 o2_ixL (x_v (eL false eI) spots rfl) (x_v eI k rfl))) (fun _ => rfl) (fun p17_ => (b_nil (t := p17_.2) ⟨rfl, rfl⟩))) (b_nil (t := s3_) ⟨rfl, rfl⟩) (fun (s9_ : (List (Int × Int))) => (b_nil (t := s9_) ⟨rfl, rfl⟩)))) (fun (s3_ : (List (Int × Int))) => (b_nil (t := s3_) ⟨rfl, rfl⟩)))) (fun (s2_ : (List (Int × Int))) => (b_ret (k := fun (u21_ : Int) => u21_) (eg_r (x_get2 (x_v (eD true kI eI) s2_ rfl) (x_a1 o1_lenL (x_v eLs letters_here rfl)) (x_k eI (0) rfl))) (fun u21_ => ⟨.inl rfl, rfl⟩))))))))
  refine run_T (n := 6) (kp := [true, true]) (m := m_lw_fewest) (ds := [eLs letters_here, eI wide_here]) rfl hb ?_
  first
    | (simp -implicitDefEqProofs only [t_lw_fewest, Option.bind_assoc, Option.bind_some, bind_same] at h ⊢; exact h)
    | (simp -implicitDefEqProofs only [t_lw_fewest, Option.bind_assoc, Option.bind_some, bind_same] at h; exact h)
    | exact h
    | (simp [t_lw_fewest] at h ⊢; exact h)
theorem T_lw_fewest : Tf (τ := Ls × Int × Unit) (fun t => [eLs t.1, eI t.2.1]) eI F_lw_fewest (fun t => t_lw_fewest t.1 t.2.1) := fun t r h => ⟨_, L_lw_fewest t.1 t.2.1 h⟩
theorem B_law_b1 (script : (List Int)) (letters_here : Ls) (wide_here : Int) (size : Int) (other : (List (List An))) (turn : Int) (ways_2 : (List Ts)) (s10_ : (List (Ts × (List (Int × Int))))) (way : Ts) : Bk (Qs [8, 9] (fun (s10_ : (List (Ts × (List (Int × Int))))) => [eC script, eLs letters_here, eI wide_here, eI size, (eL false (eV eA)) other, (eL false eS) ways_2, eI turn, (eD true kS (eL false (e2 eI eI))) s10_, .gone, .gone, .gone, .gone, .gone]) (Qf eB [true] (fun _ => [eC script]))) m_law_b1 [eC script, eLs letters_here, eI wide_here, eI size, (eL false (eV eA)) other, (eL false eS) ways_2, eI turn, (eD true kS (eL false (e2 eI eI))) s10_, eS way, .gone, .gone, .gone, .gone] (t_law_b1 letters_here wide_here other s10_ way) := by
  have hb : Bk (Qs [8, 9] (fun (s10_ : (List (Ts × (List (Int × Int))))) => [eC script, eLs letters_here, eI wide_here, eI size, (eL false (eV eA)) other, (eL false eS) ways_2, eI turn, (eD true kS (eL false (e2 eI eI))) s10_, .gone, .gone, .gone, .gone, .gone]) (Qf eB [true] (fun _ => [eC script]))) m_law_b1 [eC script, eLs letters_here, eI wide_here, eI size, (eL false (eV eA)) other, (eL false eS) ways_2, eI turn, (eD true kS (eL false (e2 eI eI))) s10_, eS way, .gone, .gone, .gone, .gone] _ := (b_asg (fun (found : (List (Int × Int))) => [eC script, eLs letters_here, eI wide_here, eI size, (eL false (eV eA)) other, (eL false eS) ways_2, eI turn, (eD true kS (eL false (e2 eI eI))) s10_, eS way, (eL false (e2 eI eI)) found, .gone, .gone, .gone]) (eg_f (x_cold (x_call T_fold (ea_cons (x_cold (x_map (e := (eL true eLt)) (f := (eL true (eV eA))) (List.map (fun t : Lt => ([(an eS) t.1, (an eS) t.2.1, (an eS) t.2.2.1, (an eI) t.2.2.2] : (List An)))) (eL_map _ (fun _ => rfl)) (x_a1 o1_listL (x_v eLs letters_here rfl)))) (ea_cons (x_v eI wide_here rfl) (ea_cons (x_v eS way rfl) ea_nil)))))) (fun _ => rfl) (fun (found : (List (Int × Int))) => (b_ifT (et_or (et_not (et_tru (x_call T_lw_held (ea_cons (x_v (eL false (e2 eI eI)) found rfl) (ea_cons (x_v eLs letters_here rfl) (ea_cons (x_v eI wide_here rfl) (ea_cons (x_v eS way rfl) ea_nil))))))) (et_b (x_m2 (o2_ne (e' := (eL false (e2 eI eI))) (by decide)) (x_callV T_fold (ea_cons (x_v (eL false (eV eA)) other rfl) (ea_cons (x_v eI wide_here rfl) (ea_cons (x_v eS way rfl) ea_nil)))) (x_v (eL false (e2 eI eI)) found rfl)))) (b_ret (k := fun (u14_ : Bool) => (.rt u14_ : (St (List (Ts × (List (Int × Int)))) Bool))) (eg_f (x_k eB false rfl)) (fun u14_ => ⟨rfl, ⟨rfl, ⟨.inl rfl, rfl⟩⟩⟩)) (b_dputK (av := (eL false (e2 eI eI))) (v := fun u15_ => u15_) (xs := fun u15_ => s10_) (fun p17_ => [eC script, eLs letters_here, eI wide_here, eI size, (eL false (eV eA)) other, (eL false eS) ways_2, eI turn, (eD true kS (eL false (e2 eI eI))) p17_.2, eS way, (eL false (e2 eI eI)) found, .gone, .gone, .gone]) (eg_r (x_v (eL false (e2 eI eI)) found rfl)) (fun _ => rfl) (fun _ => rfl) (fun u15_ => (x_v eS way rfl)) (fun _ => rfl) (fun p17_ => (b_nil (t := (.nx p17_.2 : (St (List (Ts × (List (Int × Int)))) Bool))) ⟨rfl, rfl⟩))))))
  refine bk_of hb fun t h => ?_
  first
    | (simp -implicitDefEqProofs only [t_law_b1, Option.bind_assoc, Option.bind_some, bind_same] at h ⊢; exact h)
    | (simp -implicitDefEqProofs only [t_law_b1, Option.bind_assoc, Option.bind_some, bind_same] at h; exact h)
    | exact h
    | (simp [t_law_b1] at h ⊢; exact h)
theorem B_law_b2 (script : (List Int)) (letters_here : Ls) (wide_here : Int) (size : Int) (other : (List (List An))) (turn : Int) (ways_2 : (List Ts)) (s10_ : (List (Ts × (List (Int × Int))))) (fewest_here : Int) (s26_ : Unit) (way : Ts) : Bk (Qs [8, 11] (fun (s26_ : Unit) => [eC script, eLs letters_here, eI wide_here, eI size, (eL false (eV eA)) other, (eL false eS) ways_2, eI turn, (eD true kS (eL false (e2 eI eI))) s10_, .gone, .gone, eI fewest_here, .gone, .gone]) (Qf eB [true] (fun _ => [eC script]))) m_law_b2 [eC script, eLs letters_here, eI wide_here, eI size, (eL false (eV eA)) other, (eL false eS) ways_2, eI turn, (eD true kS (eL false (e2 eI eI))) s10_, eS way, .gone, eI fewest_here, .gone, .gone] (t_law_b2 letters_here wide_here s10_ s26_ way) := by
  have hb : Bk (Qs [8, 11] (fun (s26_ : Unit) => [eC script, eLs letters_here, eI wide_here, eI size, (eL false (eV eA)) other, (eL false eS) ways_2, eI turn, (eD true kS (eL false (e2 eI eI))) s10_, .gone, .gone, eI fewest_here, .gone, .gone]) (Qf eB [true] (fun _ => [eC script]))) m_law_b2 [eC script, eLs letters_here, eI wide_here, eI size, (eL false (eV eA)) other, (eL false eS) ways_2, eI turn, (eD true kS (eL false (e2 eI eI))) s10_, eS way, .gone, eI fewest_here, .gone, .gone] _ := (b_asg (fun (handed : Ls) => [eC script, eLs letters_here, eI wide_here, eI size, (eL false (eV eA)) other, (eL false eS) ways_2, eI turn, (eD true kS (eL false (e2 eI eI))) s10_, eS way, .gone, eI fewest_here, (eL true eLt) handed, .gone]) (eg_f (x_a1 o1_listL (x_v eLs letters_here rfl))) (fun _ => rfl) (fun (handed : Ls) => (b_ifT (et_b (x_m2 (o2_ne (e' := (eL false (e2 eI eI))) (by decide)) (x_callV T_fold (ea_consW (x_map (e := (eL true eLt)) (f := (eL true (eV eA))) (List.map (fun t : Lt => ([(an eS) t.1, (an eS) t.2.1, (an eS) t.2.2.1, (an eI) t.2.2.2] : (List An)))) (eL_map _ (fun _ => rfl)) (x_v (eL true eLt) handed rfl)) (ea_cons (x_v eI wide_here rfl) (ea_cons (x_v eS way rfl) ea_nil)))) (x_m2 (o2_ixD (o := true) (ek := eS) (a := (eL false (e2 eI eI)))) (x_v (eD true kS (eL false (e2 eI eI))) s10_ rfl) (x_v eS way rfl)))) (b_ret (k := fun (u29_ : Bool) => (.rt u29_ : (St Unit Bool))) (eg_f (x_k eB false rfl)) (fun u29_ => ⟨rfl, ⟨rfl, ⟨.inl rfl, rfl⟩⟩⟩)) (b_expr (eg_rev (a := eLt) (xs := handed) (env := fun r_ => [eC script, eLs letters_here, eI wide_here, eI size, (eL false (eV eA)) other, (eL false eS) ways_2, eI turn, (eD true kS (eL false (e2 eI eI))) s10_, eS way, .gone, eI fewest_here, (eL true eLt) r_, .gone]) rfl (fun _ => rfl)) (fun (u30_ : Ls) => (b_ifT (et_b (x_m2 (o2_ne (e' := (eL false (e2 eI eI))) (by decide)) (x_callV T_fold (ea_consW (x_map (e := (eL true eLt)) (f := (eL true (eV eA))) (List.map (fun t : Lt => ([(an eS) t.1, (an eS) t.2.1, (an eS) t.2.2.1, (an eI) t.2.2.2] : (List An)))) (eL_map _ (fun _ => rfl)) (x_v (eL true eLt) u30_ rfl)) (ea_cons (x_v eI wide_here rfl) (ea_cons (x_v eS way rfl) ea_nil)))) (x_callV T_fold (ea_cons (x_cold (x_map (e := (eL true eLt)) (f := (eL true (eV eA))) (List.map (fun t : Lt => ([(an eS) t.1, (an eS) t.2.1, (an eS) t.2.2.1, (an eI) t.2.2.2] : (List An)))) (eL_map _ (fun _ => rfl)) (x_m1 o1_revL (x_v eLs letters_here rfl)))) (ea_cons (x_v eI wide_here rfl) (ea_cons (x_v eS way rfl) ea_nil)))))) (b_ret (k := fun (u33_ : Bool) => (.rt u33_ : (St Unit Bool))) (eg_f (x_k eB false rfl)) (fun u33_ => ⟨rfl, ⟨rfl, ⟨.inl rfl, rfl⟩⟩⟩)) (b_nil (t := (.nx () : (St Unit Bool))) ⟨rfl, rfl⟩)))))))
  refine bk_of hb fun t h => ?_
  first
    | (simp -implicitDefEqProofs only [t_law_b2, Option.bind_assoc, Option.bind_some, bind_same] at h ⊢; exact h)
    | (simp -implicitDefEqProofs only [t_law_b2, Option.bind_assoc, Option.bind_some, bind_same] at h; exact h)
    | exact h
    | (simp [t_law_b2] at h ⊢; exact h)
theorem L_law  (script : (List Int)) {r : Bool} (h : t_law script = some r) : F_law [eC script] = some (eB r, (fun _ => [eC script]) r) := by
  have hb : Bk (Qf eB [true] (fun _ => [eC script])) m_law [eC script, .gone, .gone, .gone, .gone, .gone, .gone, .gone, .gone, .gone, .gone, .gone, .gone] _ := (b_asg (fun (letters_here : Ls) => [eC script, eLs letters_here, .gone, .gone, .gone, .gone, .gone, .gone, .gone, .gone, .gone, .gone, .gone]) (eg_f (x_cold (x_call T_lw_letters (ea_cons (x_v eC script rfl) (ea_cons (x_k eI (2) rfl) (ea_cons (x_k eI (44) rfl) ea_nil)))))) (fun _ => rfl) (fun (letters_here : Ls) => (b_asg (fun (wide_here : Int) => [eC script, eLs letters_here, eI wide_here, .gone, .gone, .gone, .gone, .gone, .gone, .gone, .gone, .gone, .gone]) (eg_f (x_call T_lw_wide (ea_cons (x_v eC script rfl) ea_nil))) (fun _ => rfl) (fun (wide_here : Int) => (b_asg (fun (size : Int) => [eC script, eLs letters_here, eI wide_here, eI size, .gone, .gone, .gone, .gone, .gone, .gone, .gone, .gone, .gone]) (eg_r (x_m2 o2_ixL (x_lst (f := (eL true eI)) (fun t : Int × Int × Int × Unit => ([t.1, t.2.1, t.2.2.1] : (List Int))) (ea_cons (x_k eI (4) rfl) (ea_cons (x_k eI (3) rfl) (ea_cons (x_k eI (1) rfl) ea_nil))) (fun _ => rfl) (fun _ => (by decide : 3 ≤ LIM))) (x_modP 3 (by decide) (x_call T_lw_mix (ea_cons (x_call T_lw_cell (ea_cons (x_v eC script rfl) (ea_cons (x_k eI (1) rfl) ea_nil))) (ea_cons (x_k eI (11) rfl) ea_nil))) (x_k eI (3) rfl)))) (fun _ => rfl) (fun (size : Int) => (b_asgC (fun (other : (List (List An))) => [eC script, eLs letters_here, eI wide_here, eI size, (eL false (eV eA)) other, .gone, .gone, .gone, .gone, .gone, .gone, .gone, .gone]) (eg_f (x_comp (fun (one : Lt) => [eC script, eLs letters_here, eI wide_here, eI size, .gone, .gone, .gone, .gone, .gone, .gone, .gone, .gone, eLt one]) (ei_itV (x_v eLs letters_here rfl)) (fun _ => rfl) (fun (one : Lt) => et_yes) (fun (one : Lt) => (x_sl (x_map (e := eLt) (f := (eV eA)) (fun t : Lt => ([(an eS) t.1, (an eS) t.2.1, (an eS) t.2.2.1, (an eI) t.2.2.2] : (List An))) (fun _ => rfl) (x_tup (f := eLt) (fun t : Ts × Ts × Ts × Int × Unit => (t.1, t.2.1, t.2.2.1, t.2.2.2.1)) (ea_cons (x_pr (f := eS) 0 (fun t : Lt => t.1) (fun _ => rfl) (x_v eLt one rfl)) (ea_cons (x_m2 o2_ixS (x_k eS ['a', 'b', 'c', 'd', 'e', 'f', 'g', 'h', '.'] rfl) (x_modP 9 (by decide) (x_pr (f := eI) 3 (fun t : Lt => t.2.2.2) (fun _ => rfl) (x_v eLt one rfl)) (x_k eI (9) rfl))) (ea_cons (x_k eS ['.'] rfl) (ea_cons (x_m2 o2_addI (x_k eI (7) rfl) (x_mulK 2 (by decide) (x_pr (f := eI) 3 (fun t : Lt => t.2.2.2) (fun _ => rfl) (x_v eLt one rfl)))) ea_nil)))) (fun _ => rfl) (fun _ => (by decide : 4 ≤ LIM)))) eo_no (eo_so (x_v eI size rfl)))))) (fun _ => rfl) (fun _ => rfl) (fun (other : (List (List An))) => (b_asg (fun (ways : (List Ts)) => [eC script, eLs letters_here, eI wide_here, eI size, (eL false (eV eA)) other, (eL false eS) ways, .gone, .gone, .gone, .gone, .gone, .gone, .gone]) (eg_f (x_cold (x_lst (f := (eL true eS)) (fun t : Ts × Ts × Ts × Ts × Unit => ([t.1, t.2.1, t.2.2.1, t.2.2.2.1] : (List Ts))) (ea_cons (x_k eS ['c', 'u', 't'] rfl) (ea_cons (x_k eS ['c', 'e', 'l', 'l', 's'] rfl) (ea_cons (x_k eS ['w', 'o', 'r', 'd', 's'] rfl) (ea_cons (x_k eS ['e', 'v', 'e', 'n'] rfl) ea_nil)))) (fun _ => rfl) (fun _ => (by decide : 4 ≤ LIM))))) (fun _ => rfl) (fun (ways : (List Ts)) => (b_asg (fun (turn : Int) => [eC script, eLs letters_here, eI wide_here, eI size, (eL false (eV eA)) other, (eL false eS) ways, eI turn, .gone, .gone, .gone, .gone, .gone, .gone]) (eg_f (x_modP 4 (by decide) (x_call T_lw_mix (ea_cons (x_call T_lw_cell (ea_cons (x_v eC script rfl) (ea_cons (x_k eI (1) rfl) ea_nil))) (ea_cons (x_k eI (10) rfl) ea_nil))) (x_k eI (4) rfl))) (fun _ => rfl) (fun (turn : Int) => (b_asg (fun (ways_2 : (List Ts)) => [eC script, eLs letters_here, eI wide_here, eI size, (eL false (eV eA)) other, (eL false eS) ways_2, eI turn, .gone, .gone, .gone, .gone, .gone, .gone]) (eg_f (x_cold (x_m2 o2_catL (x_sl (x_v (eL false eS) ways rfl) (eo_so (x_v eI turn rfl)) eo_no) (x_sl (x_v (eL false eS) ways rfl) eo_no (eo_so (x_v eI turn rfl)))))) (fun _ => rfl) (fun (ways_2 : (List Ts)) => (b_asg (fun (told : (List (Ts × (List (Int × Int))))) => [eC script, eLs letters_here, eI wide_here, eI size, (eL false (eV eA)) other, (eL false eS) ways_2, eI turn, (eD true kS (eL false (e2 eI eI))) told, .gone, .gone, .gone, .gone, .gone]) (eg_f (x_disp eS (edp_nil (kk := kS) (a := (eL false (e2 eI eI)))))) (fun _ => rfl) (fun (told : (List (Ts × (List (Int × Int))))) => (b_forR (fun (s10_ : (List (Ts × (List (Int × Int))))) => [eC script, eLs letters_here, eI wide_here, eI size, (eL false (eV eA)) other, (eL false eS) ways_2, eI turn, (eD true kS (eL false (e2 eI eI))) s10_, .gone, .gone, .gone, .gone, .gone]) told (fun (s10_ : (List (Ts × (List (Int × Int))))) (way : Ts) => [eC script, eLs letters_here, eI wide_here, eI size, (eL false (eV eA)) other, (eL false eS) ways_2, eI turn, (eD true kS (eL false (e2 eI eI))) s10_, eS way, .gone, .gone, .gone, .gone]) (ei_it (x_v (eL false eS) ways_2 rfl)) rfl (fun _ _ => rfl) (fun (s10_ : (List (Ts × (List (Int × Int))))) (way : Ts) => (B_law_b1 script letters_here wide_here size other turn ways_2 s10_ way)) (fun (s10_ : (List (Ts × (List (Int × Int))))) => (b_asg (fun (fewest_here : Int) => [eC script, eLs letters_here, eI wide_here, eI size, (eL false (eV eA)) other, (eL false eS) ways_2, eI turn, (eD true kS (eL false (e2 eI eI))) s10_, .gone, .gone, eI fewest_here, .gone, .gone]) (eg_f (x_call T_lw_fewest (ea_cons (x_v eLs letters_here rfl) (ea_cons (x_v eI wide_here rfl) ea_nil)))) (fun _ => rfl) (fun (fewest_here : Int) => (b_ifT (et_and (et_b (x_m2 o2_gtI (x_v eI fewest_here rfl) (x_k eI (0) rfl))) (et_or (et_b (x_m2 (o2_ne (e' := eI) (by decide)) (x_a1 o1_lenL (x_m2 (o2_ixD (o := true) (ek := eS) (a := (eL false (e2 eI eI)))) (x_v (eD true kS (eL false (e2 eI eI))) s10_ rfl) (x_k eS ['w', 'o', 'r', 'd', 's'] rfl))) (x_v eI fewest_here rfl))) (et_b (x_m2 o2_ltI (x_a1 o1_lenL (x_m2 (o2_ixD (o := true) (ek := eS) (a := (eL false (e2 eI eI)))) (x_v (eD true kS (eL false (e2 eI eI))) s10_ rfl) (x_k eS ['e', 'v', 'e', 'n'] rfl))) (x_v eI fewest_here rfl))))) (b_ret (k := fun (u25_ : Bool) => u25_) (eg_f (x_k eB false rfl)) (fun u25_ => ⟨rfl, ⟨.inl rfl, rfl⟩⟩)) (b_forR (fun (s26_ : Unit) => [eC script, eLs letters_here, eI wide_here, eI size, (eL false (eV eA)) other, (eL false eS) ways_2, eI turn, (eD true kS (eL false (e2 eI eI))) s10_, .gone, .gone, eI fewest_here, .gone, .gone]) () (fun (s26_ : Unit) (way : Ts) => [eC script, eLs letters_here, eI wide_here, eI size, (eL false (eV eA)) other, (eL false eS) ways_2, eI turn, (eD true kS (eL false (e2 eI eI))) s10_, eS way, .gone, eI fewest_here, .gone, .gone]) (ei_it (x_cold (x_lst (f := (eL true eS)) (fun t : Ts × Ts × Ts × Ts × Unit => ([t.1, t.2.1, t.2.2.1, t.2.2.2.1] : (List Ts))) (ea_cons (x_k eS ['e', 'v', 'e', 'n'] rfl) (ea_cons (x_k eS ['c', 'u', 't'] rfl) (ea_cons (x_k eS ['w', 'o', 'r', 'd', 's'] rfl) (ea_cons (x_k eS ['c', 'e', 'l', 'l', 's'] rfl) ea_nil)))) (fun _ => rfl) (fun _ => (by decide : 4 ≤ LIM))))) rfl (fun _ _ => rfl) (fun (s26_ : Unit) (way : Ts) => (B_law_b2 script letters_here wide_here size other turn ways_2 s10_ fewest_here s26_ way)) (fun (s26_ : Unit) => (b_ret (k := fun (u36_ : Bool) => u36_) (eg_f (x_k eB true rfl)) (fun u36_ => ⟨.inl rfl, rfl⟩)))))))))))))))))))))))))
  refine run_T (n := 13) (kp := [true]) (m := m_law) (ds := [eC script]) rfl hb ?_
  first
    | (simp -implicitDefEqProofs only [t_law, Option.bind_assoc, Option.bind_some, bind_same] at h ⊢; exact h)
    | (simp -implicitDefEqProofs only [t_law, Option.bind_assoc, Option.bind_some, bind_same] at h; exact h)
    | exact h
    | (simp [t_law] at h ⊢; exact h)
end LW

namespace LW
open PySem L2 LI OW
theorem eqA_SS (s t : Ts) : eqA (an eS s) (an eS t) = some (decide (s = t)) := eqB_pe (e1 := eS) (e2 := eS) (e' := eS) (by decide) s t
theorem dS_an (w : Ts) : dS (an eS w).d = some w := Dc.od (e := eS) w
def vv (g : Lt → List An) (ls : List Lt) : List (List An) := ls.map fun l => an eS l.1 :: g l
section
variable (g : Lt → List An) (ls : List Lt)
theorem vv_len : (vv g ls).length = ls.length := List.length_map _
theorem at_zero {x : An} {xs : List An} : atI (x :: xs) 0 = some x := LI.atI_nat (xs := x :: xs) (k := 0) (by simp)
theorem vv_eq (i : Int) (t : Ts) : (((atI (vv g ls) i).bind fun v2_ => (atI v2_ (0 : Int))).bind fun v3_ => (eqA v3_ ((an eS) t))) = ((atI ls i).bind fun v2_ => some v2_.1).bind fun v3_ => some (decide (v3_ = t)) := by
  unfold vv
  rw [atI_map]
  cases atI ls i with
  | none => rfl
  | some l => simp only [Option.map_some, Option.bind_some, at_zero, eqA_SS]
theorem vv_ne (i : Int) (t : Ts) : (((atI (vv g ls) i).bind fun v6_ => (atI v6_ (0 : Int))).bind fun v7_ => ((eqA v7_ ((an eS) t)).bind fun k => some (!k))) = ((atI ls i).bind fun v2_ => some v2_.1).bind fun v3_ => some (!decide (v3_ = t)) := by
  unfold vv
  rw [atI_map]
  cases atI ls i with
  | none => rfl
  | some l => simp only [Option.map_some, Option.bind_some, at_zero, eqA_SS]
theorem vv_wd (i : Int) : (((atI (vv g ls) i).bind fun v2_ => (atI v2_ (0 : Int))).bind fun v3_ => (dS v3_.d)) = ((atI ls i).bind fun v2_ => some v2_.1) := by
  unfold vv
  rw [atI_map]
  cases atI ls i with
  | none => rfl
  | some l => simp only [Option.map_some, Option.bind_some, at_zero, dS_an]
theorem compG_map {α β γ : Type} (f : α → β) (p : β → Option Bool) (h : β → Option γ) : ∀ xs : List α, compG p h (xs.map f) = compG (fun x => p (f x)) (fun x => h (f x)) xs
  | [] => rfl
  | x :: xs => by rw [List.map_cons, compG, compG, compG_map f p h xs]
theorem compT_mp {α β γ : Type} (f : α → β) (p : β → Option Bool) (h : β → Option γ) (xs : List α) : compT p h (xs.map f) = compT (fun x => p (f x)) (fun x => h (f x)) xs := by
  unfold compT
  rw [List.length_map, compG_map]
theorem cells_of_b : t_cells_of_b (vv g ls) = t_cells_of ls := by
  unfold t_cells_of_b t_cells_of vv
  rw [compT_mp]
  simp only [at_zero, Option.bind_some, dS_an]
theorem bare_end_b (lo hi : Int) : t_bare_end_b (vv g ls) lo hi = t_bare_end ls lo hi := by
  unfold t_bare_end_b t_bare_end
  simp only [vv_eq]
theorem cells_between_b (lo hi : Int) : t_cells_between_b (vv g ls) lo hi = t_cells_between ls lo hi := by
  unfold t_cells_between_b t_cells_between
  rw [bare_end_b]
  cases t_bare_end ls lo hi with
  | none => rfl
  | some h =>
    simp only [Option.bind_some]
    rw [show cutL (vv g ls) (some lo) (some h) = vv g (cutL ls (some lo) (some h)) from cutL_map _ _ _ _, cells_of_b]
theorem fits_b (lo hi w : Int) : t_fits_b (vv g ls) lo hi w = t_fits ls lo hi w := by
  unfold t_fits_b t_fits
  rw [cells_between_b]
theorem breaks_b : t_breaks_b (vv g ls) = t_breaks ls := by
  unfold t_breaks_b t_breaks
  simp only [vv_eq, vv_ne, vv_len]
theorem taken_b (lo w : Int) : t_taken_b (vv g ls) lo w = t_taken ls lo w := by
  unfold t_taken_b t_taken
  simp only [vv_wd, vv_len]
theorem reached_b (ss : List Int) (lo w : Int) : t_reached_b (vv g ls) ss lo w = t_reached ls ss lo w := by
  unfold t_reached_b t_reached
  simp only [fits_b, taken_b]
def evB (e : OEven) : OEven_b := ⟨vv g e.row, e.wide, e.spots⟩
variable (e : OEven)
theorem cost_b (lo hi : Int) : t_Even_cost_between_b (evB g e) lo hi = t_Even_cost_between e lo hi := by
  unfold t_Even_cost_between_b t_Even_cost_between
  simp only [evB, vv_len, cells_between_b]
theorem moves_b (n : Int × Int) : t_Even_moves_from_b (evB g e) n = t_Even_moves_from e n := by
  unfold t_Even_moves_from_b t_Even_moves_from
  simp only [cost_b]
  simp only [evB, vv_len, reached_b]
theorem cheapest_b (ps : List ((Int × Int) × Option Int)) (n : Int × Int) : t_cheapest_d (evB g e) ps n = t_cheapest e ps n := by
  unfold t_cheapest_d t_cheapest
  simp only [moves_b]
theorem settle_b (ps : List ((Int × Int) × Option Int)) (here : List (Int × Int)) : t_settle_d (evB g e) ps here = t_settle e ps here := by
  unfold t_settle_d t_settle
  simp only [cheapest_b]
theorem last_b : t_Even_last_at_b (evB g e) = t_Even_last_at e := by
  unfold t_Even_last_at_b t_Even_last_at
  simp only [evB, vv_len]
theorem end_b (n : Int × Int) : t_Even_is_end_b (evB g e) n = t_Even_is_end e n := by
  unfold t_Even_is_end_b t_Even_is_end
  simp only [evB, vv_len]
theorem nodes_b (a : Int) : t_Even_nodes_at_b (evB g e) a = t_Even_nodes_at e a := rfl
theorem priced_b : t_priced_d (evB g e) = t_priced e := by
  unfold t_priced_d t_priced
  simp -implicitDefEqProofs only [last_b, end_b, settle_b, nodes_b]
theorem init_b (w : Int) : t_Even_init_b (vv g ls) w = (t_Even_init ls w).map (evB g) := by
  unfold t_Even_init_b t_Even_init
  simp only [breaks_b]
  cases t_breaks ls <;> rfl
theorem first_b : t_Even_first_node_b (evB g e) = t_Even_first_node e := rfl
theorem even_b (w : Int) : t_even_b (vv g ls) w = t_even ls w := by
  unfold t_even_b t_even
  rw [init_b, vv_len]
  cases t_Even_init ls w with
  | none => rfl
  | some e =>
    simp -implicitDefEqProofs only [Option.map_some, Option.bind_some, priced_b, end_b, moves_b, first_b]
theorem line_end_b (ss : List Int) (lo w : Int) (way : Ts) : t_line_end_b (vv g ls) ss lo w way = t_line_end ls ss lo w way := by
  unfold t_line_end_b t_line_end
  rw [reached_b, taken_b]
theorem fold_b (w : Int) (way : Ts) : t_fold_b (vv g ls) w way = t_fold ls w way := by
  unfold t_fold_b t_fold
  simp -implicitDefEqProofs only [even_b, vv_len, breaks_b, line_end_b]
end
def Lnk (ls : List Lt) (w : Int) : Nat → List (Int × Int) → Nat → Prop
  | a, [], b => a = b
  | a, q :: xs, b => q.1 = (a : Int) ∧ ∃ c : Nat, q.2 = (c : Int) ∧ a ≤ c ∧ c ≤ ls.length ∧ (a = c → ls = []) ∧ cel ls a c ≤ w ∧ Lnk ls w c xs b
theorem trimmed_eq {ls : List Lt} (hk : ∀ l ∈ ls, okL l) (lo h : Nat) (hh : h ≤ ls.length) (hl : ls.length < 5000) : t_lw_trimmed ls (lo : Int) (h : Int) = some (cel ls lo h) := by
  unfold t_lw_trimmed
  rw [show whileT _ _ 5000 (h : Int) = some ((bareN ls lo h : Nat) : Int) from bare_while lo 5000 h (by omega) hh, Option.bind_some]
  dsimp only
  rw [cut_nat, compT_map (f := fun l : Lt => wdC l.1) (by rw [List.length_drop, List.length_take]; unfold LIM; omega) (by
    intro l hm
    have := great_eq (hk l (List.mem_of_mem_take (List.mem_of_mem_drop hm)))
    rw [show (inS l.1 _).bind _ = some (wdC l.1 - 1) from this, Option.bind_some]
    congr 1; omega)]
  rfl
theorem lw_breaks_eq {ls : List Lt} (hl : ls.length ≤ 100000) : t_lw_breaks ls = some (breaksL ls) := by
  unfold t_lw_breaks
  dsimp only
  rw [rng2T_ok (by omega) (by omega) (by omega) (by omega), Option.bind_some]
  rw [show ((ls.length : Int) + 1 - 1).toNat = ls.length by omega]
  rw [foldT_fil (q := fun x => decide (x = (ls.length : Int)) || brkI ls x) _ _ (by simp; unfold LIM; omega) (by
    intro acc x hx ha
    obtain ⟨j, hj, rfl⟩ := List.mem_map.mp hx
    rw [List.mem_range] at hj
    have e1 : (1 + (j : Int) - 1) = (j : Int) := by omega
    have e2 : (1 + (j : Int)) = ((j + 1 : Nat) : Int) := by omega
    by_cases he : 1 + (j : Int) = (ls.length : Int)
    · simp [he, appT_ok ha]
    · have e3 : brkI ls (1 + (j : Int)) = (decide (ls[j].1 = [' ']) && !decide ((ls[j + 1]'(by omega)).1 = [' '])) := by
        unfold brkI
        rw [e1, Int.toNat_natCast, e2, Int.toNat_natCast, sgn_at (by omega), sgn_at (by omega)]
      rw [decide_eq_false he, e3, e1, LI.atI_nat (show j < ls.length by omega), e2, LI.atI_nat (show j + 1 < ls.length by omega)]
      simp only [Option.bind_some, appT_ok ha, Bool.false_eq_true, if_false, Bool.false_or]
      by_cases h1 : ls[j].1 = [' ']
      · by_cases h2 : (ls[j + 1]'(by omega)).1 = [' '] <;> simp [h1, h2]
      · simp [h1]), Option.bind_some, List.nil_append]
  congr 1
  unfold breaksL
  cases hn : ls.length with
  | zero => rfl
  | succ n =>
    rw [List.range_succ, List.map_append, List.filter_append, show n + 1 - 1 = n by omega]
    have h1 : ((List.range n).map fun (j : Nat) => 1 + (j : Int)).filter (fun x => decide (x = ((n + 1 : Nat) : Int)) || brkI ls x) = ((List.range n).map fun (j : Nat) => 1 + (j : Int)).filter (brkI ls) := by
      refine List.filter_congr fun x hx => ?_
      obtain ⟨j, hj, rfl⟩ := List.mem_map.mp hx
      rw [List.mem_range] at hj
      rw [decide_eq_false (by omega), Bool.false_or]
    rw [h1, if_pos (by omega)]
    congr 1
    have hq : (decide (1 + (n : Int) = ((n + 1 : Nat) : Int)) || brkI ls (1 + (n : Int))) = true := by
      rw [decide_eq_true (show 1 + (n : Int) = ((n + 1 : Nat) : Int) by omega)]; rfl
    rw [List.map_cons, List.map_nil, List.filter_cons, if_pos hq, List.filter_nil, show 1 + (n : Int) = ((n + 1 : Nat) : Int) by omega]
theorem chain_lnk {ls : List Lt} {w : Int} {f : Nat → Nat} (hf : ∀ a, a < ls.length → a < f a ∧ f a ≤ ls.length ∧ cel ls a (f a) ≤ w) : ∀ (k a : Nat), ls.length - a ≤ k → a ≤ ls.length → Lnk ls w a (chain f ls.length k a) ls.length
  | 0, a, h1, h2 => by
    show a = ls.length
    omega
  | k + 1, a, h1, h2 => by
    unfold chain
    by_cases c : a < ls.length
    · obtain ⟨i1, i2, i3⟩ := hf a c
      rw [if_pos c]
      exact ⟨rfl, f a, rfl, by omega, i2, fun h => absurd h (by omega), i3, chain_lnk hf k (f a) (by omega) i2⟩
    · rw [if_neg c]
      show a = ls.length
      omega
theorem whole_eq (x : Int) : t_lw_whole x = some true := by
  unfold t_lw_whole
  simp
theorem held_eq {ls : List Lt} (hk : ∀ l ∈ ls, okL l) (hl : ls.length ≤ 1000) {w : Int} {way : Ts} {xs : List (Int × Int)} {b : Nat} (hx : xs ≠ []) (h : Lnk ls w 0 xs b) (hc : way = kCutW → xs.length = 1) (hn : way ≠ kCutW → b = ls.length) : t_lw_held xs ls w way = some true := by
  unfold t_lw_held
  rw [if_neg (by simp [hx])]
  dsimp only
  obtain ⟨s, e1, a, e2, e3⟩ := forT_nxt (τ := Bool) (g := (fun (s1_ : Int) (one : (Int × Int)) =>
    ((if (!true) = true then some true else (if (!decide ((2 : Int) = (2 : Int))) = true then some true else (((t_lw_whole one.1).bind fun v2_ => some (!v2_)).bind fun v3_ => (if v3_ = true then some true else ((t_lw_whole one.2).bind fun v4_ => some (!v4_)))))).bind fun v5_ => if v5_ = true then
    some (.rt false : (St Int Bool))
    else
    if ((!decide (one.1 = s1_)) || (decide (one.2 < s1_) || (decide ((List.length ls : Int) < one.2) || ((decide (one.2 = s1_)) && (!decide (ls = ([] : Ls))))))) = true then
    some (.rt false : (St Int Bool))
    else
    (((t_lw_trimmed ls one.1 one.2).bind fun v6_ => some (decide (w < v6_))).bind fun v7_ => if v7_ = true then
    some (.rt false : (St Int Bool))
    else
    let at_ : Int := one.2
    some (.nx at_ : (St Int Bool)))))) (fun xs (s : Int) => ∃ a : Nat, s = (a : Int) ∧ Lnk ls w a xs b) (by
      rintro x xs s ⟨a, rfl, h1, c, h2, h3, h4, h5, h6, h7⟩
      obtain ⟨x1, x2⟩ := x
      dsimp only at h1 h2 ⊢
      subst h1 h2
      have h8 : ¬ w < cel ls a c := by omega
      rw [whole_eq, whole_eq, trimmed_eq hk a c h4 (by omega)]
      simp only [Option.bind_some, Bool.not_true, Bool.false_eq_true, if_false, decide_true]
      rw [if_neg (by
        simp only [Bool.not_true, Bool.false_or, Bool.or_eq_true, Bool.and_eq_true, decide_eq_true_eq, Bool.not_eq_true', decide_eq_false_iff_not, not_or, not_and, Classical.not_not]
        exact ⟨by omega, by omega, fun q => h5 (by omega)⟩), if_neg (by simp [h8])]
      exact ⟨_, rfl, c, rfl, h7⟩) xs (0 : Int) ⟨0, rfl, h⟩
  rw [show forT (τ := Bool) _ xs (0 : Int) = _ from e1, Option.bind_some, seqT_inl]
  by_cases c : way = kCutW
  · rw [if_pos (by rw [decide_eq_true_eq]; exact c), hc c]; rfl
  · rw [if_neg (by rw [decide_eq_true_eq]; exact c), e2]
    have : a = ls.length := by
      have := hn c
      have e4 : a = b := e3
      omega
    rw [this]; simp
def Stp (ls : List Lt) (w : Int) (a b : Nat) : Prop := a < b ∧ (b : Int) ∈ breaksL ls ∧ cel ls a b ≤ w
def Pth (ls : List Lt) (w : Int) : Nat → Nat → Prop
  | 0, s => s = 0
  | k + 1, s => ∃ r, Pth ls w k r ∧ Stp ls w r s
theorem bare_mono (ls : List Lt) (lo : Nat) : ∀ {h h' : Nat}, h ≤ h' → bareN ls lo h ≤ bareN ls lo h'
  | h, 0, q => by rw [show h = 0 by omega]; exact Nat.le_refl _
  | h, h' + 1, q => by
    rcases Nat.lt_or_ge h (h' + 1) with c | c
    · have ih := bare_mono ls lo (show h ≤ h' by omega)
      have hb := bareN_le ls lo h'
      refine Nat.le_trans ih ?_
      rw [bareN]
      split
      · exact Nat.le_refl _
      · omega
    · rw [show h = h' + 1 by omega]; exact Nat.le_refl _
theorem cel_hi (ls : List Lt) (lo : Nat) {h h' : Nat} (q : h ≤ h') : cel ls lo h ≤ cel ls lo h' := by
  have := bare_mono ls lo q
  unfold cel
  rw [List.drop_take, List.drop_take]
  exact take_sum _ (by omega)
theorem bare_lo (ls : List Lt) {lo lo' : Nat} (q : lo ≤ lo') : ∀ h, bareN ls lo' h = bareN ls lo h ∨ bareN ls lo' h ≤ lo'
  | 0 => .inl rfl
  | h + 1 => by
    rw [bareN, bareN]
    by_cases b : sgnL ls h = [' ']
    · by_cases c : lo' < h + 1
      · rw [if_pos ⟨c, b⟩, if_pos ⟨by omega, b⟩]
        exact bare_lo ls q h
      · rw [if_neg (by omega)]
        right; omega
    · rw [if_neg (by simp [b]), if_neg (by simp [b])]
      exact .inl rfl
theorem cel_lo (ls : List Lt) {lo lo' : Nat} (q : lo ≤ lo') (h : Nat) : cel ls lo' h ≤ cel ls lo h := by
  rcases bare_lo ls q h with e | e
  · unfold cel
    rw [e]
    have e2 := sumW_app (((ls.take (bareN ls lo h)).drop lo).take (lo' - lo)) (((ls.take (bareN ls lo h)).drop lo).drop (lo' - lo))
    rw [List.take_append_drop, List.drop_drop, show lo + (lo' - lo) = lo' by omega] at e2
    have := sumW_nn (((ls.take (bareN ls lo h)).drop lo).take (lo' - lo))
    omega
  · have : cel ls lo' h = 0 := by
      unfold cel
      rw [List.drop_eq_nil_of_le (by rw [List.length_take]; omega)]; rfl
    rw [this]
    exact cel_nn _ _ _
theorem rch_in {ls : List Lt} {lo : Nat} {w : Int} {s : Int} (h2 : (lo : Int) < s) (h3 : cel ls lo s.toNat ≤ w) : ∀ {ss : List Int}, ss.Pairwise (· < ·) → s ∈ ss → s ∈ rch ls lo w ss
  | [], _, h => by cases h
  | t :: ss, hp, h => by
    rw [List.pairwise_cons] at hp
    unfold rch
    rcases List.mem_cons.mp h with rfl | h
    · rw [if_pos h2, if_pos h3]; simp
    · have := hp.1 s h
      by_cases c : (lo : Int) < t
      · have := cel_hi ls lo (show t.toNat ≤ s.toNat by omega)
        rw [if_pos c, if_pos (by omega)]
        exact List.mem_cons_of_mem _ (rch_in h2 h3 hp.2 h)
      · rw [if_neg c]
        exact rch_in h2 h3 hp.2 h
theorem rch_pw (ls : List Lt) (lo : Nat) (w : Int) : ∀ {ss : List Int}, ss.Pairwise (· < ·) → (rch ls lo w ss).Pairwise (· < ·)
  | [], _ => List.Pairwise.nil
  | t :: ss, hp => by
    rw [List.pairwise_cons] at hp
    unfold rch
    split
    · split
      · refine List.pairwise_cons.mpr ⟨fun s hs => hp.1 s (rch_sub _ _ _ _ _ hs).1, rch_pw ls lo w hp.2⟩
      · exact List.Pairwise.nil
    · exact rch_pw ls lo w hp.2
theorem pw_last {xs : List Int} (hn : xs ≠ []) (hp : xs.Pairwise (· < ·)) {x : Int} (h : x ∈ xs) : x ≤ xs.getLast hn := by
  have e := List.dropLast_concat_getLast hn
  rw [← e, List.pairwise_append] at hp
  rw [← e] at h
  rcases List.mem_append.mp h with h | h
  · exact Int.le_of_lt (hp.2.2 x h _ (by simp))
  · rw [List.mem_singleton] at h
    rw [h]; exact Int.le_refl _
theorem pth_cross {ls : List Lt} {w : Int} : ∀ {k s a : Nat}, Pth ls w k s → a < s → ∃ r t, r ≤ a ∧ a < t ∧ Stp ls w r t
  | 0, s, a, h, q => by
    have : s = 0 := h
    omega
  | k + 1, s, a, ⟨r, h1, h2⟩, q => by
    by_cases c : r ≤ a
    · exact ⟨r, s, c, q, h2⟩
    · exact pth_cross h1 (by omega)
theorem lines1_stp {ls : List Lt} {w : Int} {k : Nat} (h : Pth ls w k ls.length) {a : Nat} (ha : a < ls.length) : lines1 ls a w = rch ls a w (breaksL ls) ∧ ∀ s ∈ lines1 ls a w, Stp ls w a s.toNat := by
  obtain ⟨r, t, h1, h2, h3, h4, h5⟩ := pth_cross h ha
  have hin : (t : Int) ∈ rch ls a w (breaksL ls) := rch_in (by omega) (by
    rw [Int.toNat_natCast]
    exact Int.le_trans (cel_lo ls h1 t) h5) breaks_up h4
  have e : lines1 ls a w = rch ls a w (breaksL ls) := by
    unfold lines1
    rw [if_neg (by intro q; rw [q] at hin; cases hin)]
  refine ⟨e, fun s hs => ?_⟩
  rw [e] at hs
  obtain ⟨i1, i2, i3⟩ := rch_sub _ _ _ _ _ hs
  exact ⟨by omega, by rw [show ((s.toNat : Nat) : Int) = s by omega]; exact i1, i3⟩
theorem lineW_stp {ls : List Lt} {w : Int} {k : Nat} (h : Pth ls w k ls.length) {a : Nat} (ha : a < ls.length) : Stp ls w a (lineW ls w a) := (lines1_stp h ha).2 _ (List.getLast_mem _)
theorem lineE_stp {ls : List Lt} {w : Int} (hw : 2 ≤ w) {k : Nat} (h : Pth ls w k ls.length) {a : Nat} (ha : a < ls.length) : Stp ls w a (lineE ls w a) := by
  have := (lines1_stp h ha).2 _ (List.mem_filter.mp (lineE_in hw ha).2.1).1
  rwa [Int.toNat_natCast] at this
theorem lineW_far {ls : List Lt} {w : Int} {k : Nat} (h : Pth ls w k ls.length) {a r s : Nat} (ha : a < s) (hs : s ≤ ls.length) (hr : r ≤ a) (st : Stp ls w r s) : s ≤ lineW ls w a := by
  have hin : (s : Int) ∈ rch ls a w (breaksL ls) := rch_in (by omega) (by
    rw [Int.toNat_natCast]
    exact Int.le_trans (cel_lo ls hr s) st.2.2) breaks_up st.2.1
  have e := (lines1_stp h (show a < ls.length by omega)).1
  have hp : (lines1 ls a w).Pairwise (· < ·) := by rw [e]; exact rch_pw ls a w breaks_up
  rw [← e] at hin
  have := pw_last lines1_ne hp hin
  unfold lineW
  omega
theorem chain_pth {ls : List Lt} {w : Int} {f : Nat → Nat} (hf : ∀ a, a < ls.length → Stp ls w a (f a) ∧ f a ≤ ls.length) : ∀ (k a j : Nat), ls.length - a ≤ k → a ≤ ls.length → Pth ls w j a → Pth ls w (j + (chain f ls.length k a).length) ls.length
  | 0, a, j, h1, h2, h3 => by
    rw [show a = ls.length by omega] at h3
    exact h3
  | k + 1, a, j, h1, h2, h3 => by
    unfold chain
    by_cases c : a < ls.length
    · obtain ⟨i1, i2⟩ := hf a c
      rw [if_pos c, List.length_cons]
      have := chain_pth hf k (f a) (j + 1) (by have := i1.1; omega) i2 ⟨a, h3, i1⟩
      rwa [show j + 1 + (chain f ls.length k (f a)).length = j + ((chain f ls.length k (f a)).length + 1) by omega] at this
    · rw [if_neg c]
      rw [show a = ls.length by omega] at h3
      exact h3
def itF (f : Nat → Nat) (n : Nat) : Nat → Nat → Nat
  | 0, a => a
  | k + 1, a => itF f n k (if a < n then f a else a)
theorem itF_snoc (f : Nat → Nat) (n : Nat) : ∀ k a, itF f n (k + 1) a = if itF f n k a < n then f (itF f n k a) else itF f n k a
  | 0, a => rfl
  | k + 1, a => itF_snoc f n k _
theorem chain_it (f : Nat → Nat) (n : Nat) : ∀ m k a, n ≤ itF f n m a → (chain f n k a).length ≤ m
  | 0, k, a, h => by
    have : n ≤ a := h
    cases k with
    | zero => exact Nat.le_refl _
    | succ k => unfold chain; rw [if_neg (by omega)]; exact Nat.le_refl _
  | m + 1, 0, a, h => Nat.zero_le _
  | m + 1, k + 1, a, h => by
    unfold chain
    by_cases c : a < n
    · rw [itF, if_pos c] at h
      rw [if_pos c, List.length_cons]
      have := chain_it f n m k (f a) h
      omega
    · rw [if_neg c]; exact Nat.zero_le _
theorem greedy {ls : List Lt} {w : Int} {K : Nat} (h : Pth ls w K ls.length) : ∀ {m s : Nat}, Pth ls w m s → s ≤ itF (lineW ls w) ls.length m 0
  | 0, s, q => by
    have : s = 0 := q
    omega
  | m + 1, s, ⟨r, q1, q2⟩ => by
    have ih := greedy h q1
    have hs := (breaks_in q2.2.1).2
    rw [itF_snoc]
    by_cases c : itF (lineW ls w) ls.length m 0 < s
    · rw [if_pos (by omega)]
      exact lineW_far h c (by omega) ih q2
    · split
      · next c2 =>
        have := (lineW_stp h c2).1
        omega
      · omega
theorem words_fewest {ls : List Lt} {w : Int} (hw : 2 ≤ w) {K : Nat} (h : Pth ls w K ls.length) (hm : ∀ m, Pth ls w m ls.length → K ≤ m) : (chain (lineW ls w) ls.length ls.length 0).length = K ∧ K ≤ (chain (lineE ls w) ls.length ls.length 0).length := by
  have h1 := hm _ (chain_pth (f := lineW ls w) (fun a ha => ⟨lineW_stp h ha, (lineW_in hw ha).2.1⟩) ls.length 0 0 (by omega) (Nat.zero_le _) rfl)
  have h2 := hm _ (chain_pth (f := lineE ls w) (fun a ha => ⟨lineE_stp hw h ha, (lineE_ok hw ha).2.1⟩) ls.length 0 0 (by omega) (Nat.zero_le _) rfl)
  have h3 := chain_it (lineW ls w) ls.length K ls.length 0 (greedy h h)
  rw [Nat.zero_add] at h1 h2
  exact ⟨by omega, h2⟩
theorem foldT_ix {σ : Type} {g : σ → Int → Option σ} (f : Nat → Int) (P : Nat → σ → Prop) (n : Nat) (h : ∀ j s, j < n → P j s → ∃ s', g s (f j) = some s' ∧ P (j + 1) s') : ∀ (m i : Nat) (s : σ), i + m = n → P i s → ∃ s', foldT g ((List.range' i m).map f) s = some s' ∧ P n s'
  | 0, i, s, e, q => ⟨s, rfl, by rw [← e]; exact q⟩
  | m + 1, i, s, e, q => by
    obtain ⟨s', h1, h2⟩ := h i s (by omega) q
    rw [List.range'_succ, List.map_cons, foldT_cons, h1, Option.bind_some]
    exact foldT_ix f P n h m (i + 1) s' (by omega) h2
theorem bfx {σ τ : Type} {g : σ → Int → Option σ} {K : σ → Option τ} {Φ : τ → Prop} {f : Nat → Int} (P : Nat → σ → Prop) {n : Nat} {s : σ} (h0 : P 0 s) (h : ∀ j s, j < n → P j s → ∃ s', g s (f j) = some s' ∧ P (j + 1) s') (hk : ∀ s, P n s → ∃ y, K s = some y ∧ Φ y) : ∃ y, (foldT g ((List.range n).map f) s).bind K = some y ∧ Φ y := by
  obtain ⟨s', h1, h2⟩ := foldT_ix f P n h n 0 s (by omega) h0
  rw [List.range_eq_range', h1, Option.bind_some]
  exact hk s' h2
theorem gput {κ α : Type} [DecidableEq κ] {k : κ} {v : α} : ∀ {m : List (κ × α)}, getT (putT m k v) k = some v := by
  intro m
  unfold putT
  split
  · rename_i h
    induction m with
    | nil => cases h
    | cons p m ih =>
      rw [List.map_cons]
      by_cases e : p.1 = k
      · rw [if_pos e]; unfold getT; rw [if_pos e]
      · rw [if_neg e]; unfold getT; rw [if_neg e]
        rw [List.any_cons, decide_eq_false e, Bool.false_or] at h
        exact ih h
  · rename_i h
    induction m with
    | nil => simp [getT]
    | cons p m ih =>
      rw [List.any_cons, Bool.or_eq_true, not_or] at h
      rw [List.cons_append]
      unfold getT
      rw [if_neg (by simpa using h.1)]
      exact ih h.2
theorem gput_ne {κ α : Type} [DecidableEq κ] {k k2 : κ} {v : α} (hn : k2 ≠ k) : ∀ {m : List (κ × α)}, getT (putT m k v) k2 = getT m k2 := by
  intro m
  unfold putT
  split
  · rename_i h
    clear h
    induction m with
    | nil => rfl
    | cons p m ih =>
      rw [List.map_cons]
      by_cases e : p.1 = k
      · rw [if_pos e]; unfold getT; rw [if_neg (by rw [e]; exact fun q => hn q.symm), if_neg (by rw [e]; exact fun q => hn q.symm)]; exact ih
      · rw [if_neg e]; unfold getT; rw [ih]
  · rename_i h
    clear h
    induction m with
    | nil => simp [getT, hn.symm]
    | cons p m ih =>
      rw [List.cons_append]
      unfold getT
      rw [ih]
theorem lput {κ α : Type} [DecidableEq κ] {k : κ} {v : α} (m : List (κ × α)) : (putT m k v).length ≤ m.length + 1 := by
  unfold putT
  split
  · rw [List.length_map]; omega
  · rw [List.length_append]; simp
def Sq (ls : List Lt) (q : Nat) : Nat := (((0 : Int) :: breaksL ls)[q]?.getD 0).toNat
section
variable {ls : List Lt}
theorem sq_zero : Sq ls 0 = 0 := rfl
theorem sq_succ {q : Nat} (h : q < (breaksL ls).length) : (Sq ls (q + 1) : Int) = (breaksL ls)[q] := by
  unfold Sq
  rw [List.getElem?_cons_succ, List.getElem?_eq_getElem h, Option.getD_some]
  have := (breaks_in (List.getElem_mem h)).1
  omega
theorem sq_brk {q : Nat} (h : q < (breaksL ls).length) : (Sq ls (q + 1) : Int) ∈ breaksL ls := by
  rw [sq_succ h]; exact List.getElem_mem h
theorem sq_at {q : Nat} (h : q < (breaksL ls).length + 1) : atI ((0 : Int) :: breaksL ls) (q : Int) = some (Sq ls q : Int) := by
  rw [LI.atI_nat (xs := (0 : Int) :: breaksL ls) (k := q) (by simpa using h)]
  cases q with
  | zero => rfl
  | succ q => rw [List.getElem_cons_succ, sq_succ (by omega)]
theorem sq_le {q : Nat} (h : q < (breaksL ls).length + 1) : Sq ls q ≤ ls.length := by
  cases q with
  | zero => rw [sq_zero]; exact Nat.zero_le _
  | succ q =>
    have := (breaks_in (sq_brk (ls := ls) (q := q) (by omega))).2
    omega
theorem sq_lt {q p : Nat} (h : q < p) (hp : p < (breaksL ls).length + 1) : Sq ls q < Sq ls p := by
  cases p with
  | zero => omega
  | succ p =>
    cases q with
    | zero =>
      have := (breaks_in (sq_brk (ls := ls) (q := p) (by omega))).1
      rw [sq_zero]; omega
    | succ q =>
      have h1 := sq_succ (ls := ls) (q := q) (by omega)
      have h2 := sq_succ (ls := ls) (q := p) (by omega)
      have := List.pairwise_iff_getElem.mp (breaks_up (ls := ls)) q p (by omega) (by omega) (by omega)
      omega
theorem sq_of {b : Nat} (h : b = 0 ∨ (b : Int) ∈ breaksL ls) : ∃ q, q < (breaksL ls).length + 1 ∧ Sq ls q = b := by
  rcases h with rfl | h
  · exact ⟨0, by omega, rfl⟩
  · obtain ⟨q, hq, e⟩ := List.mem_iff_getElem.mp h
    have := sq_succ hq
    exact ⟨q + 1, by omega, by omega⟩
theorem pth_at {w : Int} : ∀ {k s : Nat}, Pth ls w k s → s = 0 ∨ (s : Int) ∈ breaksL ls
  | 0, s, h => .inl h
  | k + 1, s, ⟨_, _, h⟩ => .inr h.2.1
end
def Gd (ls : List Lt) (w : Int) (q : Nat) : Option Int → Prop
  | none => ∀ m, ¬ Pth ls w m (Sq ls q)
  | some d => ∃ κ : Nat, d = (κ : Int) ∧ κ ≤ q ∧ Pth ls w κ (Sq ls q) ∧ ∀ m, Pth ls w m (Sq ls q) → κ ≤ m
def Inn (ls : List Lt) (w : Int) (k j : Nat) : Option Int → Prop
  | none => ∀ q m, q < j → Pth ls w m (Sq ls q) → ¬ cel ls (Sq ls q) (Sq ls k) ≤ w
  | some d => ∃ κ : Nat, d = (κ : Int) ∧ κ ≤ k ∧ Pth ls w κ (Sq ls k) ∧ ∀ q m, q < j → Pth ls w m (Sq ls q) → cel ls (Sq ls q) (Sq ls k) ≤ w → κ ≤ m + 1
theorem inn_done {ls : List Lt} {w : Int} {k : Nat} (h0 : 0 < k) (hk : k < (breaksL ls).length + 1) {o : Option Int} (h : Inn ls w k k o) : Gd ls w k o := by
  have key : ∀ m, Pth ls w m (Sq ls k) → ∃ m' q, m = m' + 1 ∧ q < k ∧ Pth ls w m' (Sq ls q) ∧ cel ls (Sq ls q) (Sq ls k) ≤ w := by
    intro m hm
    have hpos := sq_lt (ls := ls) h0 hk
    rw [sq_zero] at hpos
    cases m with
    | zero =>
      have : Sq ls k = 0 := hm
      omega
    | succ m =>
      obtain ⟨r, h1, h2⟩ := hm
      obtain ⟨q, hq, rfl⟩ := sq_of (pth_at h1)
      refine ⟨m, q, rfl, ?_, h1, h2.2.2⟩
      rcases Nat.lt_or_ge q k with c | c
      · exact c
      · have : Sq ls k ≤ Sq ls q := by
          rcases Nat.lt_or_ge k q with c2 | c2
          · exact Nat.le_of_lt (sq_lt c2 hq)
          · rw [show q = k by omega]; exact Nat.le_refl _
        have := h2.1
        omega
  cases o with
  | none =>
    intro m hm
    obtain ⟨m', q, _, h1, h2, h3⟩ := key m hm
    exact h q m' h1 h2 h3
  | some d =>
    obtain ⟨κ, e, h1, h2, h3⟩ := h
    refine ⟨κ, e, h1, h2, fun m hm => ?_⟩
    obtain ⟨m', q, rfl, h4, h5, h6⟩ := key m hm
    exact h3 q m' h4 h5 h6
theorem fewest_eq {ls : List Lt} (hk : ∀ l ∈ ls, okL l) (hl : ls.length ≤ 45) {w : Int} : ∃ F, t_lw_fewest ls w = some F ∧ (0 < F → ∃ k : Nat, F = (k : Int) ∧ Pth ls w k ls.length ∧ ∀ m, Pth ls w m ls.length → k ≤ m) := by
  have hb := breaks_len (ls := ls)
  unfold t_lw_fewest
  rw [lw_breaks_eq (by omega), Option.bind_some, catL_ok (by simp; unfold LIM; omega), Option.bind_some, show dispT ([((0 : Int), (0 : Int))] : List (Int × Int)) = some [(0, 0)] from rfl, Option.bind_some, List.singleton_append, List.length_cons]
  rw [rng2T_ok (by omega) (by omega) (by omega) (by omega), Option.bind_some, show (((breaksL ls).length + 1 : Nat) - 1 : Int).toNat = (breaksL ls).length by omega]
  refine bfx (P := fun i s => s.length ≤ 1 + 50 * i ∧ (∀ q, q < (breaksL ls).length + 1 → q ≤ i → Gd ls w q (getT s (Sq ls q : Int))) ∧ (∀ q, q < (breaksL ls).length + 1 → i < q → getT s (Sq ls q : Int) = none)) ⟨by simp, ?_, ?_⟩ ?_ ?_
  · intro q h1 h2
    rw [show q = 0 by omega]
    exact ⟨0, rfl, Nat.le_refl _, rfl, fun m _ => Nat.zero_le _⟩
  · intro q h1 h2
    have := sq_lt h2 h1
    rw [sq_zero] at this
    unfold getT
    rw [if_neg (by show ¬ (0 : Int) = _; omega)]
    rfl
  · rintro i s hi ⟨hlen, hg, hn⟩
    rw [show (1 + (i : Int)) = ((i + 1 : Nat) : Int) by omega, rngT_ok (by omega) (by omega), Option.bind_some, Int.toNat_natCast]
    refine bfx (P := fun j s => s.length ≤ 1 + 50 * i + j ∧ (∀ q, q < (breaksL ls).length + 1 → q ≤ i → Gd ls w q (getT s (Sq ls q : Int))) ∧ (∀ q, q < (breaksL ls).length + 1 → i + 1 < q → getT s (Sq ls q : Int) = none) ∧ Inn ls w (i + 1) j (getT s (Sq ls (i + 1) : Int))) ⟨by omega, hg, fun q h1 h2 => hn q h1 (by omega), ?_⟩ ?_ ?_
    · rw [hn (i + 1) (by omega) (by omega)]
      intro q m h; omega
    · rintro j s hj ⟨hlen, hg, hn, hin⟩
      have gj := hg j (by omega) (by omega)
      have lt := sq_lt (ls := ls) (q := j) (p := i + 1) (by omega) (by omega)
      rw [sq_at (ls := ls) (q := j) (by omega), sq_at (ls := ls) (q := i + 1) (by omega)]
      simp only [Option.bind_some]
      have keep : (∀ m, Pth ls w m (Sq ls j) → ¬ cel ls (Sq ls j) (Sq ls (i + 1)) ≤ w) → Inn ls w (i + 1) (j + 1) (getT s (Sq ls (i + 1) : Int)) := by
        intro hno
        cases ho : getT s (Sq ls (i + 1) : Int) with
        | none =>
          rw [ho] at hin
          intro q m h1 h2
          rcases Nat.lt_or_ge q j with c | c
          · exact hin q m c h2
          · rw [show q = j by omega] at h2 ⊢
            exact hno m h2
        | some d =>
          rw [ho] at hin
          obtain ⟨κ, e, h1, h2, h3⟩ := hin
          refine ⟨κ, e, h1, h2, fun q m h4 h5 h6 => ?_⟩
          rcases Nat.lt_or_ge q j with c | c
          · exact h3 q m c h5 h6
          · rw [show q = j by omega] at h5 h6
            exact absurd h6 (hno m h5)
      cases ho : getT s (Sq ls j : Int) with
      | none =>
        rw [ho] at gj
        simp only [Option.isSome_none, Bool.false_eq_true, if_false, Option.bind_some]
        exact ⟨s, rfl, by omega, hg, hn, keep fun m hm => absurd hm (gj m)⟩
      | some d =>
        rw [ho] at gj
        obtain ⟨κ, rfl, g1, g2, g3⟩ := gj
        rw [trimmed_eq hk _ _ (sq_le (ls := ls) (q := i + 1) (by omega)) (by omega)]
        simp only [Option.isSome_some, if_true, Option.bind_some]
        by_cases hc : cel ls (Sq ls j) (Sq ls (i + 1)) ≤ w
        · have hbig : ∀ κ2 : Nat, κ2 ≤ i + 1 → Pth ls w κ2 (Sq ls (i + 1)) → ∀ hq : (∀ q m, q < j → Pth ls w m (Sq ls q) → cel ls (Sq ls q) (Sq ls (i + 1)) ≤ w → κ2 ≤ m + 1), True := fun _ _ _ _ => trivial
          have hst : Pth ls w (κ + 1) (Sq ls (i + 1)) := ⟨Sq ls j, g2, lt, sq_brk (by omega), hc⟩
          have new : ∀ v : Int, Inn ls w (i + 1) (j + 1) (some v) → ∃ s', (if decide (cel ls (Sq ls j) (Sq ls (i + 1)) ≤ w) = true then (putC s (Sq ls (i + 1) : Int) v).bind fun y19_ => some y19_ else some s : Option (List (Int × Int))).bind (fun s20_ => some s20_) = some s' ∧ s'.length ≤ 1 + 50 * i + (j + 1) ∧ (∀ q, q < (breaksL ls).length + 1 → q ≤ i → Gd ls w q (getT s' (Sq ls q : Int))) ∧ (∀ q, q < (breaksL ls).length + 1 → i + 1 < q → getT s' (Sq ls q : Int) = none) ∧ Inn ls w (i + 1) (j + 1) (getT s' (Sq ls (i + 1) : Int)) := by
            intro v hv
            rw [if_pos (by simpa using hc), show putC s (Sq ls (i + 1) : Int) v = some (putT s (Sq ls (i + 1) : Int) v) from if_pos (by unfold LIM; omega)]
            have := lput (k := (Sq ls (i + 1) : Int)) (v := v) s
            refine ⟨_, rfl, by omega, fun q h1 h2 => ?_, fun q h1 h2 => ?_, ?_⟩
            · have := sq_lt (ls := ls) (q := q) (p := i + 1) (by omega) (by omega)
              rw [gput_ne (by omega)]
              exact hg q h1 h2
            · have := sq_lt (ls := ls) h2 h1
              rw [gput_ne (by omega)]
              exact hn q h1 h2
            · rw [gput]; exact hv
          apply new
          cases ho2 : getT s (Sq ls (i + 1) : Int) with
          | none =>
            rw [ho2] at hin
            refine ⟨κ + 1, by rw [Option.getD_none]; omega, by omega, hst, fun q m h4 h5 h6 => ?_⟩
            rcases Nat.lt_or_ge q j with c | c
            · exact absurd h6 (hin q m c h5)
            · rw [show q = j by omega] at h5
              have := g3 m h5
              omega
          | some d =>
            rw [ho2] at hin
            obtain ⟨κ2, rfl, i1, i2, i3⟩ := hin
            rw [Option.getD_some]
            rcases Nat.le_total κ2 (κ + 1) with c | c
            · refine ⟨κ2, by omega, i1, i2, fun q m h4 h5 h6 => ?_⟩
              rcases Nat.lt_or_ge q j with c3 | c3
              · exact i3 q m c3 h5 h6
              · rw [show q = j by omega] at h5
                have := g3 m h5
                omega
            · refine ⟨κ + 1, by omega, by omega, hst, fun q m h4 h5 h6 => ?_⟩
              rcases Nat.lt_or_ge q j with c3 | c3
              · have := i3 q m c3 h5 h6
                omega
              · rw [show q = j by omega] at h5
                have := g3 m h5
                omega
        · simp only [hc, decide_false, Bool.false_eq_true, if_false, Option.bind_some]
          exact ⟨s, rfl, by omega, hg, hn, keep fun _ _ => hc⟩
    · rintro s ⟨h1, h2, h3, h4⟩
      refine ⟨s, rfl, by omega, fun q h5 h6 => ?_, fun q h5 h6 => h3 q h5 (by omega)⟩
      rcases Nat.lt_or_ge q (i + 1) with c | c
      · exact h2 q h5 (by omega)
      · rw [show q = i + 1 by omega]
        exact inn_done (by omega) (by omega) h4
  · rintro s ⟨h1, h2, h3⟩
    refine ⟨_, rfl, fun hpos => ?_⟩
    obtain ⟨q, hq, e⟩ := sq_of (ls := ls) (b := ls.length) (by
      rcases Nat.eq_zero_or_pos ls.length with c | c
      · exact .inl c
      · right
        unfold breaksL
        rw [if_pos c]; simp)
    have := h2 q hq (by omega)
    rw [e] at this
    cases ho : getT s (ls.length : Int) with
    | none => rw [ho] at hpos; exact absurd hpos (by simp)
    | some d =>
      rw [ho] at this
      obtain ⟨κ, rfl, _, g2, g3⟩ := this
      rw [e] at g2 g3
      exact ⟨κ, rfl, g2, g3⟩
def isW (y : Ts) : Prop := y = kCutW ∨ y = kCellsW ∨ y = kWordsW ∨ y = kEvenW
def fd (ls : List Lt) (w : Int) (y : Ts) : List (Int × Int) := if ls = [] then [(0, 0)] else if y = kCutW then [(0, ((lineC ls w 0 : Nat) : Int))] else chain (lineF y ls w) ls.length ls.length 0
theorem fold_all {ls : List Lt} (hk : ∀ l ∈ ls, okL l) (hl : ls.length ≤ 1000) {w : Int} (h1 : 2 ≤ w) (h2 : w ≤ 40) {y : Ts} (hy : isW y) : t_fold ls w y = some (fd ls w y) := by
  by_cases c : y = kCutW
  · subst c
    have hway : t_is_way kCutW = some true := rfl
    have hwide : t_is_wide w = some true := by unfold t_is_wide; simp [h1, h2]
    have he : kCutW ≠ ['e', 'v', 'e', 'n'] := by decide
    have hw : kCutW ≠ ['w', 'o', 'r', 'd', 's'] := by decide
    by_cases hn : ls = []
    · subst hn
      unfold t_fold
      rw [hwide, hway]
      rfl
    · have hpos : 0 < ls.length := by cases ls with
        | nil => exact absurd rfl hn
        | cons => simp
      have el0 : t_line_end ls (breaksL ls) 0 w kCutW = some ((lineC ls w 0 : Nat) : Int) := line_end_C (lo := 0) hk (by omega) (Nat.zero_le _) (w := w) hw
      unfold t_fold fd
      rw [hwide, hway, breaks_eq (by omega)]
      simp only [Option.bind_some, Bool.not_true, Bool.false_eq_true, if_false, he, decide_false, el0]
      rw [if_neg (by simp; omega), if_neg hn, if_pos trivial]; rfl
  · rw [fold_eq hk hl h1 h2 (hy.resolve_left c)]
    unfold fd
    rw [if_neg c]
theorem fd_held {ls : List Lt} (hk : ∀ l ∈ ls, okL l) (hl : ls.length ≤ 1000) {w : Int} (h1 : 2 ≤ w) (h2 : w ≤ 40) {y : Ts} : t_lw_held (fd ls w y) ls w y = some true := by
  by_cases hn : ls = []
  · subst hn
    exact held_eq (b := 0) (by simp) (by simp) (by simp [fd]) ⟨rfl, 0, rfl, Nat.le_refl _, Nat.le_refl _, fun _ => rfl, (by show (0 : Int) ≤ w; omega), rfl⟩ (fun _ => rfl) (fun _ => rfl)
  · have hpos : 0 < ls.length := by cases ls with
      | nil => exact absurd rfl hn
      | cons => simp
    by_cases c : y = kCutW
    · obtain ⟨i1, i2, i3⟩ := lineC_ok (ls := ls) h1 hpos
      have : fd ls w y = [(0, ((lineC ls w 0 : Nat) : Int))] := by unfold fd; rw [if_neg hn, if_pos c]
      rw [this]
      exact held_eq (b := lineC ls w 0) hk hl (by simp) ⟨rfl, _, rfl, Nat.zero_le _, i2, fun q => absurd q (by omega), i3, rfl⟩ (fun _ => rfl) (fun q => absurd c q)
    · have : fd ls w y = chain (lineF y ls w) ls.length ls.length 0 := by unfold fd; rw [if_neg hn, if_neg c]
      rw [this]
      refine held_eq (b := ls.length) hk hl ?_ (chain_lnk (fun a ha => lineF_ok h1 ha) ls.length 0 (by omega) (Nat.zero_le _)) (fun q => absurd q c) (fun _ => rfl)
      obtain ⟨n, hn'⟩ : ∃ n, ls.length = n + 1 := ⟨ls.length - 1, by omega⟩
      rw [hn', chain, if_pos (by omega)]
      simp
def gL (l : Lt) : List An := [an eS l.2.1, an eS l.2.2.1, an eI l.2.2.2]
theorem b1_ex {ls : List Lt} (hk : ∀ l ∈ ls, okL l) (hl : ls.length ≤ 1000) {w : Int} (h1 : 2 ≤ w) (h2 : w ≤ 40) {y : Ts} (hy : isW y) (g : Lt → List An) {s : List (Ts × List (Int × Int))} (hs : s.length ≤ 100) : t_law_b1 ls w (vv g ls) s y = some (.nx (putT s y (fd ls w y))) := by
  unfold t_law_b1
  have e1 : ∀ xs : List Lt, (List.map (fun t : Lt => ([(an eS) t.1, (an eS) t.2.1, (an eS) t.2.2.1, (an eI) t.2.2.2] : (List An))) xs) = vv gL xs := fun _ => rfl
  rw [e1, fold_b, fold_b, fold_all hk hl h1 h2 hy]
  simp only [Option.bind_some]
  rw [fd_held hk hl h1 h2]
  simp only [Option.bind_some, Bool.not_true, Bool.false_eq_true, if_false, decide_true]
  rw [show putC s y (fd ls w y) = some (putT s y (fd ls w y)) from if_pos (by unfold LIM; omega)]
  rfl
theorem b2_ex {ls : List Lt} (hk : ∀ l ∈ ls, okL l) (hl : ls.length ≤ 1000) {w : Int} (h1 : 2 ≤ w) (h2 : w ≤ 40) {y : Ts} (hy : isW y) {s : List (Ts × List (Int × Int))} (hs : getT s y = some (fd ls w y)) : t_law_b2 ls w s () y = some (.nx ()) := by
  unfold t_law_b2
  have e1 : ∀ xs : List Lt, (List.map (fun t : Lt => ([(an eS) t.1, (an eS) t.2.1, (an eS) t.2.2.1, (an eI) t.2.2.2] : (List An))) xs) = vv gL xs := fun _ => rfl
  dsimp only
  rw [e1, e1, fold_b, fold_b, fold_all hk hl h1 h2 hy, fold_all (ls := ls.reverse) (fun l h => hk l (List.mem_reverse.mp h)) (by rw [List.length_reverse]; exact hl) h1 h2 hy, hs]
  simp only [Option.bind_some, Bool.not_true, Bool.false_eq_true, if_false, decide_true]
def gO (size : Int) (l : Lt) : List An := (cutL [an eS l.1, an eS ((ixS (['a', 'b', 'c', 'd', 'e', 'f', 'g', 'h', '.'] : Ts) (l.2.2.2 % 9)).getD []), an eS ['.'], an eI (7 + 2 * l.2.2.2)] none (some size)).tail
theorem law_t (ns : List Int) (hl : ns.length ≤ 63) (hb : ∀ z ∈ ns, Builtin.Int.intBits z ≤ 1048576) : t_law ns = some true := by
  unfold t_law
  obtain ⟨ls, e1, hk, hlen⟩ := letters_ex ns (at_ := 2) (most := 44) (by omega) (by omega)
  obtain ⟨w, e2, h1, h2⟩ := wide_ex ns
  obtain ⟨c, e3⟩ := cell_b_ex ns (k := 1) (by omega) (by omega)
  obtain ⟨v, e4, _, _⟩ := mix_ex c 11 (by omega) (by omega)
  obtain ⟨u, e5, _, _⟩ := mix_ex c 10 (by omega) (by omega)
  have m3 := mod_in v 3 (by omega)
  have m4 := mod_in u 4 (by omega)
  obtain ⟨size, es, hsz⟩ := atI_all (xs := [(4 : Int), 3, 1]) (P := fun m => m = 4 ∨ m = 3 ∨ m = 1) m3.1 (by simpa using m3.2) (by decide)
  rw [show t_lw_letters ns 2 44 = some ls from e1, Option.bind_some, e2, Option.bind_some]
  rw [e3, Option.bind_some, e4]
  simp only [Option.bind_some]
  rw [es, Option.bind_some]
  rw [compT_map (f := fun l : Lt => an eS l.1 :: gO size l) (by unfold LIM; omega) (by
    intro l _
    obtain ⟨k4, _, c4⟩ := colour_ex (v := l.2.2.2)
    unfold gO
    rw [c4]
    simp only [Option.bind_some, Option.getD_some]
    rcases hsz with rfl | rfl | rfl <;> rfl), Option.bind_some]
  rw [show List.map (fun l : Lt => an eS l.1 :: gO size l) ls = vv (gO size) ls from rfl]
  rw [e5]
  simp only [Option.bind_some]
  obtain ⟨W, eW, hW1, hW2, hW3⟩ : ∃ W, catL (cutL [(['c', 'u', 't'] : Ts), (['c', 'e', 'l', 'l', 's'] : Ts), (['w', 'o', 'r', 'd', 's'] : Ts), (['e', 'v', 'e', 'n'] : Ts)] (some (u % 4)) none) (cutL [(['c', 'u', 't'] : Ts), (['c', 'e', 'l', 'l', 's'] : Ts), (['w', 'o', 'r', 'd', 's'] : Ts), (['e', 'v', 'e', 'n'] : Ts)] none (some (u % 4))) = some W ∧ (∀ y ∈ W, isW y) ∧ (kWordsW ∈ W ∧ kEvenW ∈ W ∧ kCutW ∈ W ∧ kCellsW ∈ W) ∧ W.length = 4 := by
    have : u % 4 = 0 ∨ u % 4 = 1 ∨ u % 4 = 2 ∨ u % 4 = 3 := by omega
    rcases this with h | h | h | h <;> rw [h] <;> exact ⟨_, rfl, by unfold isW; decide, by decide, rfl⟩
  rw [eW, Option.bind_some, show dispT ([] : (List (Ts × (List (Int × Int))))) = some [] from rfl, Option.bind_some]
  obtain ⟨s, es1, pre, q1, q2, q3⟩ := forT_nxt (τ := Bool) (g := fun (s9_ : (List (Ts × (List (Int × Int))))) (way : Ts) => t_law_b1 ls w (vv (gO size) ls) s9_ way) (fun xs s => ∃ pre, W = pre ++ xs ∧ (∀ y ∈ pre, getT s y = some (fd ls w y)) ∧ s.length ≤ pre.length) (by
    rintro y xs s ⟨pre, q1, q2, q3⟩
    have hlen := congrArg List.length q1
    rw [hW3, List.length_append, List.length_cons] at hlen
    refine ⟨_, b1_ex hk (by omega) h1 h2 (hW1 y (by rw [q1]; simp)) (gO size) (by omega), pre ++ [y], by rw [q1]; simp, fun z hz => ?_, ?_⟩
    · by_cases hzy : z = y
      · subst hzy; exact gput
      · rw [gput_ne hzy]
        rcases List.mem_append.mp hz with hz | hz
        · exact q2 z hz
        · exact absurd (List.mem_singleton.mp hz) hzy
    · have := lput (k := y) (v := fd ls w y) s
      rw [List.length_append, List.length_singleton]; omega) W [] ⟨[], rfl, by simp, by simp⟩
  rw [List.append_nil] at q1
  subst q1
  rw [es1, Option.bind_some, seqT_inl]
  obtain ⟨F, eF, hF⟩ := fewest_eq hk (by omega) (w := w)
  rw [eF, Option.bind_some, show getT s (['w', 'o', 'r', 'd', 's'] : Ts) = some (fd ls w kWordsW) from q2 _ hW2.1, show getT s (['e', 'v', 'e', 'n'] : Ts) = some (fd ls w kEvenW) from q2 _ hW2.2.1]
  simp only [Option.bind_some]
  have hcond : (if decide ((0 : Int) < F) = true then if (!decide (((fd ls w kWordsW).length : Int) = F)) = true then some true else some (decide (((fd ls w kEvenW).length : Int) < F)) else some false) = some false := by
    by_cases hp : 0 < F
    · obtain ⟨k, rfl, p1, p2⟩ := hF hp
      have hn : ls ≠ [] := by
        rintro rfl
        have := p2 0 rfl
        omega
      obtain ⟨f1, f2⟩ := words_fewest h1 p1 p2
      have g1 : (fd ls w kWordsW).length = k := by
        rw [← f1]
        unfold fd
        rw [if_neg hn, if_neg (by decide)]
        rfl
      have g2 : k ≤ (fd ls w kEvenW).length := by
        unfold fd
        rw [if_neg hn, if_neg (by decide)]
        exact f2
      rw [if_pos (by simpa using hp), g1, if_neg (by simp)]
      simp; omega
    · rw [if_neg (by simpa using hp)]
  rw [hcond]
  simp only [Option.bind_some, Bool.false_eq_true, if_false]
  rw [forT_unit _ (fun y hy => by
    have hyW : isW y := by
      simp only [List.mem_cons, List.not_mem_nil, or_false] at hy
      rcases hy with rfl | rfl | rfl | rfl
      · exact .inr (.inr (.inr rfl))
      · exact .inl rfl
      · exact .inr (.inr (.inl rfl))
      · exact .inr (.inl rfl)
    refine b2_ex hk (by omega) h1 h2 hyW (q2 y ?_)
    rcases hyW with rfl | rfl | rfl | rfl
    · exact hW2.2.2.1
    · exact hW2.2.2.2
    · exact hW2.1
    · exact hW2.2.1)]
  rfl
end LW

namespace LW
open PySem L2 PyProof.Rows LI
def topS (i : Nat) : Stmt := PySem.Challenge.pw_outweave_k48_whole_folded_and_joined.main.body.getD i (.Pass ⟨0, 0, 0, 0⟩)
abbrev s_width_of : Stmt := topS 5
abbrev N_width_of : List Str := ["sign"]
theorem sc_width_of : FnScope N_width_of ["sign"] (defScope s_width_of) := ⟨rfl, rfl, rfl, by decide +kernel, rfl, by decide +kernel, by decide +kernel⟩
abbrev s_cells_of : Stmt := topS 7
abbrev N_cells_of : List Str := ["letters", "letter"]
theorem sc_cells_of : FnScope N_cells_of ["letters"] (defScope s_cells_of) := ⟨rfl, rfl, rfl, by decide +kernel, rfl, by decide +kernel, by decide +kernel⟩
abbrev s_bare_end : Stmt := topS 10
abbrev N_bare_end : List Str := ["letters", "lo", "hi"]
theorem sc_bare_end : FnScope N_bare_end ["letters", "lo", "hi"] (defScope s_bare_end) := ⟨rfl, rfl, rfl, by decide +kernel, rfl, by decide +kernel, by decide +kernel⟩
abbrev s_cells_between : Stmt := topS 11
abbrev N_cells_between : List Str := ["letters", "lo", "hi"]
theorem sc_cells_between : FnScope N_cells_between ["letters", "lo", "hi"] (defScope s_cells_between) := ⟨rfl, rfl, rfl, by decide +kernel, rfl, by decide +kernel, by decide +kernel⟩
abbrev s_fits : Stmt := topS 12
abbrev N_fits : List Str := ["letters", "lo", "hi", "wide"]
theorem sc_fits : FnScope N_fits ["letters", "lo", "hi", "wide"] (defScope s_fits) := ⟨rfl, rfl, rfl, by decide +kernel, rfl, by decide +kernel, by decide +kernel⟩
abbrev s_breaks : Stmt := topS 13
abbrev N_breaks : List Str := ["letters", "found", "at"]
theorem sc_breaks : FnScope N_breaks ["letters"] (defScope s_breaks) := ⟨rfl, rfl, rfl, by decide +kernel, rfl, by decide +kernel, by decide +kernel⟩
abbrev s_taken : Stmt := topS 14
abbrev N_taken : List Str := ["letters", "lo", "wide", "room", "at"]
theorem sc_taken : FnScope N_taken ["letters", "lo", "wide"] (defScope s_taken) := ⟨rfl, rfl, rfl, by decide +kernel, rfl, by decide +kernel, by decide +kernel⟩
abbrev s_reached : Stmt := topS 15
abbrev N_reached : List Str := ["letters", "spots", "lo", "wide", "found", "spot"]
theorem sc_reached : FnScope N_reached ["letters", "spots", "lo", "wide"] (defScope s_reached) := ⟨rfl, rfl, rfl, by decide +kernel, rfl, by decide +kernel, by decide +kernel⟩
abbrev s_Even_cost_between : Stmt := L2.inClass (topS 22) 4
abbrev N_Even_cost_between : List Str := ["self", "lo", "hi", "free"]
theorem sc_Even_cost_between : FnScope N_Even_cost_between ["self", "lo", "hi"] (defScope s_Even_cost_between) := ⟨rfl, rfl, rfl, by decide +kernel, rfl, by decide +kernel, by decide +kernel⟩
abbrev s_Even_moves_from : Stmt := L2.inClass (topS 22) 5
abbrev N_Even_moves_from : List Str := ["self", "node", "lo", "found", "hi"]
theorem sc_Even_moves_from : FnScope N_Even_moves_from ["self", "node"] (defScope s_Even_moves_from) := ⟨rfl, rfl, rfl, by decide +kernel, rfl, by decide +kernel, by decide +kernel⟩
abbrev s_cheapest : Stmt := topS 18
abbrev N_cheapest : List Str := ["trail", "prices", "node", "found", "cost", "name", "beyond", "rest"]
theorem sc_cheapest : FnScope N_cheapest ["trail", "prices", "node"] (defScope s_cheapest) := ⟨rfl, rfl, rfl, by decide +kernel, rfl, by decide +kernel, by decide +kernel⟩
abbrev s_settle : Stmt := topS 19
abbrev N_settle : List Str := ["trail", "prices", "here", "falls", "node", "found"]
theorem sc_settle : FnScope N_settle ["trail", "prices", "here"] (defScope s_settle) := ⟨rfl, rfl, rfl, by decide +kernel, rfl, by decide +kernel, by decide +kernel⟩
abbrev s_Even_nodes_at : Stmt := L2.inClass (topS 22) 3
abbrev N_Even_nodes_at : List Str := ["self", "at"]
theorem sc_Even_nodes_at : FnScope N_Even_nodes_at ["self", "at"] (defScope s_Even_nodes_at) := ⟨rfl, rfl, rfl, by decide +kernel, rfl, by decide +kernel, by decide +kernel⟩
abbrev s_Even_last_at : Stmt := L2.inClass (topS 22) 2
abbrev N_Even_last_at : List Str := ["self"]
theorem sc_Even_last_at : FnScope N_Even_last_at ["self"] (defScope s_Even_last_at) := ⟨rfl, rfl, rfl, by decide +kernel, rfl, by decide +kernel, by decide +kernel⟩
abbrev s_Even_is_end : Stmt := L2.inClass (topS 22) 6
abbrev N_Even_is_end : List Str := ["self", "node"]
theorem sc_Even_is_end : FnScope N_Even_is_end ["self", "node"] (defScope s_Even_is_end) := ⟨rfl, rfl, rfl, by decide +kernel, rfl, by decide +kernel, by decide +kernel⟩
abbrev s_priced : Stmt := topS 20
abbrev N_priced : List Str := ["trail", "prices", "back", "here", "node"]
theorem sc_priced : FnScope N_priced ["trail"] (defScope s_priced) := ⟨rfl, rfl, rfl, by decide +kernel, rfl, by decide +kernel, by decide +kernel⟩
abbrev s_Even_init : Stmt := L2.inClass (topS 22) 0
abbrev N_Even_init : List Str := ["self", "letters", "wide"]
theorem sc_Even_init : FnScope N_Even_init ["self", "letters", "wide"] (defScope s_Even_init) := ⟨rfl, rfl, rfl, by decide +kernel, rfl, by decide +kernel, by decide +kernel⟩
abbrev s_Even_first_node : Stmt := L2.inClass (topS 22) 1
abbrev N_Even_first_node : List Str := ["self"]
theorem sc_Even_first_node : FnScope N_Even_first_node ["self"] (defScope s_Even_first_node) := ⟨rfl, rfl, rfl, by decide +kernel, rfl, by decide +kernel, by decide +kernel⟩
abbrev s_even : Stmt := topS 23
abbrev N_even : List Str := ["letters", "wide", "trail", "prices", "found", "node", "least", "beyond", "move"]
theorem sc_even : FnScope N_even ["letters", "wide"] (defScope s_even) := ⟨rfl, rfl, rfl, by decide +kernel, rfl, by decide +kernel, by decide +kernel⟩
abbrev s_is_wide : Stmt := topS 28
abbrev N_is_wide : List Str := ["thing"]
theorem sc_is_wide : FnScope N_is_wide ["thing"] (defScope s_is_wide) := ⟨rfl, rfl, rfl, by decide +kernel, rfl, by decide +kernel, by decide +kernel⟩
abbrev s_is_way : Stmt := topS 29
abbrev N_is_way : List Str := ["thing"]
theorem sc_is_way : FnScope N_is_way ["thing"] (defScope s_is_way) := ⟨rfl, rfl, rfl, by decide +kernel, rfl, by decide +kernel, by decide +kernel⟩
abbrev s_line_end : Stmt := topS 30
abbrev N_line_end : List Str := ["letters", "spots", "lo", "wide", "way"]
theorem sc_line_end : FnScope N_line_end ["letters", "spots", "lo", "wide", "way"] (defScope s_line_end) := ⟨rfl, rfl, rfl, by decide +kernel, rfl, by decide +kernel, by decide +kernel⟩
abbrev s_fold : Stmt := topS 31
abbrev N_fold : List Str := ["letters", "wide", "way", "spots", "found", "lo"]
theorem sc_fold : FnScope N_fold ["letters", "wide", "way"] (defScope s_fold) := ⟨rfl, rfl, rfl, by decide +kernel, rfl, by decide +kernel, by decide +kernel⟩
abbrev s_lw_cell : Stmt := topS 33
abbrev N_lw_cell : List Str := ["_law_script", "_law_k", "_law_number"]
theorem sc_lw_cell : FnScope N_lw_cell ["_law_script", "_law_k"] (defScope s_lw_cell) := ⟨rfl, rfl, rfl, by decide +kernel, rfl, by decide +kernel, by decide +kernel⟩
abbrev s_lw_mix : Stmt := topS 34
abbrev N_lw_mix : List Str := ["_law_cell_here", "_law_k", "_law_rest", "_law_turn", "_law_number"]
theorem sc_lw_mix : FnScope N_lw_mix ["_law_cell_here", "_law_k"] (defScope s_lw_mix) := ⟨rfl, rfl, rfl, by decide +kernel, rfl, by decide +kernel, by decide +kernel⟩
abbrev s_lw_whole : Stmt := topS 35
abbrev N_lw_whole : List Str := ["_law_found"]
theorem sc_lw_whole : FnScope N_lw_whole ["_law_found"] (defScope s_lw_whole) := ⟨rfl, rfl, rfl, by decide +kernel, rfl, by decide +kernel, by decide +kernel⟩
abbrev s_lw_stream : Stmt := topS 36
abbrev N_lw_stream : List Str := ["_law_cell_here", "_law_many", "_law_number", "_law_rest", "_law_found", "_law_k"]
theorem sc_lw_stream : FnScope N_lw_stream ["_law_cell_here", "_law_many"] (defScope s_lw_stream) := ⟨rfl, rfl, rfl, by decide +kernel, rfl, by decide +kernel, by decide +kernel⟩
abbrev s_lw_run : Stmt := topS 37
abbrev N_lw_run : List Str := ["_law_xs", "_law_small", "_law_great", "_law_other", "_law_way", "_law_many", "_law_signs", "_law_text", "_law_k"]
theorem sc_lw_run : FnScope N_lw_run ["_law_xs"] (defScope s_lw_run) := ⟨rfl, rfl, rfl, by decide +kernel, rfl, by decide +kernel, by decide +kernel⟩
abbrev s_lw_letters : Stmt := topS 38
abbrev N_lw_letters : List Str := ["_law_script", "_law_at", "_law_most", "_law_letters_here", "_law_place", "_law_k", "_law_xs", "_law_sign"]
theorem sc_lw_letters : FnScope N_lw_letters ["_law_script", "_law_at", "_law_most"] (defScope s_lw_letters) := ⟨rfl, rfl, rfl, by decide +kernel, rfl, by decide +kernel, by decide +kernel⟩
abbrev s_lw_wide : Stmt := topS 39
abbrev N_lw_wide : List Str := ["_law_script", "_law_cell_here"]
theorem sc_lw_wide : FnScope N_lw_wide ["_law_script"] (defScope s_lw_wide) := ⟨rfl, rfl, rfl, by decide +kernel, rfl, by decide +kernel, by decide +kernel⟩
abbrev s_lw_trimmed : Stmt := topS 40
abbrev N_lw_trimmed : List Str := ["_law_letters_here", "_law_lo", "_law_hi", "_law_great", "_law_letter"]
theorem sc_lw_trimmed : FnScope N_lw_trimmed ["_law_letters_here", "_law_lo", "_law_hi"] (defScope s_lw_trimmed) := ⟨rfl, rfl, rfl, by decide +kernel, rfl, by decide +kernel, by decide +kernel⟩
abbrev s_lw_breaks : Stmt := topS 41
abbrev N_lw_breaks : List Str := ["_law_letters_here", "_law_found", "_law_at"]
theorem sc_lw_breaks : FnScope N_lw_breaks ["_law_letters_here"] (defScope s_lw_breaks) := ⟨rfl, rfl, rfl, by decide +kernel, rfl, by decide +kernel, by decide +kernel⟩
abbrev s_lw_held : Stmt := topS 42
abbrev N_lw_held : List Str := ["_law_found", "_law_letters_here", "_law_wide_here", "_law_way", "_law_at", "_law_one"]
theorem sc_lw_held : FnScope N_lw_held ["_law_found", "_law_letters_here", "_law_wide_here", "_law_way"] (defScope s_lw_held) := ⟨rfl, rfl, rfl, by decide +kernel, rfl, by decide +kernel, by decide +kernel⟩
abbrev s_lw_fewest : Stmt := topS 43
abbrev N_lw_fewest : List Str := ["_law_letters_here", "_law_wide_here", "_law_spots", "_law_lines", "_law_k", "_law_j"]
theorem sc_lw_fewest : FnScope N_lw_fewest ["_law_letters_here", "_law_wide_here"] (defScope s_lw_fewest) := ⟨rfl, rfl, rfl, by decide +kernel, rfl, by decide +kernel, by decide +kernel⟩
abbrev s_law : Stmt := topS 44
abbrev N_law : List Str := ["_law_script", "_law_letters_here", "_law_wide_here", "_law_size", "_law_other", "_law_ways", "_law_turn", "_law_told", "_law_way", "_law_found", "_law_fewest_here", "_law_handed", "_law_one"]
theorem sc_law : FnScope N_law ["_law_script"] (defScope s_law) := ⟨rfl, rfl, rfl, by decide +kernel, rfl, by decide +kernel, by decide +kernel⟩
structure Tx (K : PySem.W.Frag) (mg : Str → Option Value) (w : World) where
  cl : Nat → Addr
  a_width_of : Addr
  d_width_of : FuncData
  f_width_of : Fun K "width_of" "width_of" s_width_of a_width_of d_width_of
  b_width_of : Binds K d_width_of ["sign"] []
  g_width_of : mg "width_of" = some (.ref a_width_of)
  a_cells_of : Addr
  d_cells_of : FuncData
  f_cells_of : Fun K "cells_of" "cells_of" s_cells_of a_cells_of d_cells_of
  b_cells_of : Binds K d_cells_of ["letters"] []
  g_cells_of : mg "cells_of" = some (.ref a_cells_of)
  a_bare_end : Addr
  d_bare_end : FuncData
  f_bare_end : Fun K "bare_end" "bare_end" s_bare_end a_bare_end d_bare_end
  b_bare_end : Binds K d_bare_end ["letters", "lo", "hi"] []
  g_bare_end : mg "bare_end" = some (.ref a_bare_end)
  a_cells_between : Addr
  d_cells_between : FuncData
  f_cells_between : Fun K "cells_between" "cells_between" s_cells_between a_cells_between d_cells_between
  b_cells_between : Binds K d_cells_between ["letters", "lo", "hi"] []
  g_cells_between : mg "cells_between" = some (.ref a_cells_between)
  a_fits : Addr
  d_fits : FuncData
  f_fits : Fun K "fits" "fits" s_fits a_fits d_fits
  b_fits : Binds K d_fits ["letters", "lo", "hi", "wide"] []
  g_fits : mg "fits" = some (.ref a_fits)
  a_breaks : Addr
  d_breaks : FuncData
  f_breaks : Fun K "breaks" "breaks" s_breaks a_breaks d_breaks
  b_breaks : Binds K d_breaks ["letters"] []
  g_breaks : mg "breaks" = some (.ref a_breaks)
  a_taken : Addr
  d_taken : FuncData
  f_taken : Fun K "taken" "taken" s_taken a_taken d_taken
  b_taken : Binds K d_taken ["letters", "lo", "wide"] []
  g_taken : mg "taken" = some (.ref a_taken)
  a_reached : Addr
  d_reached : FuncData
  f_reached : Fun K "reached" "reached" s_reached a_reached d_reached
  b_reached : Binds K d_reached ["letters", "spots", "lo", "wide"] []
  g_reached : mg "reached" = some (.ref a_reached)
  a_Even_cost_between : Addr
  d_Even_cost_between : FuncData
  f_Even_cost_between : Fun K "cost_between" "Even.cost_between" s_Even_cost_between a_Even_cost_between d_Even_cost_between
  b_Even_cost_between : Binds K d_Even_cost_between ["self", "lo", "hi"] []
  a_Even_moves_from : Addr
  d_Even_moves_from : FuncData
  f_Even_moves_from : Fun K "moves_from" "Even.moves_from" s_Even_moves_from a_Even_moves_from d_Even_moves_from
  b_Even_moves_from : Binds K d_Even_moves_from ["self", "node"] []
  a_cheapest : Addr
  d_cheapest : FuncData
  f_cheapest : Fun K "cheapest" "cheapest" s_cheapest a_cheapest d_cheapest
  b_cheapest : Binds K d_cheapest ["trail", "prices", "node"] []
  g_cheapest : mg "cheapest" = some (.ref a_cheapest)
  a_settle : Addr
  d_settle : FuncData
  f_settle : Fun K "settle" "settle" s_settle a_settle d_settle
  b_settle : Binds K d_settle ["trail", "prices", "here"] []
  g_settle : mg "settle" = some (.ref a_settle)
  a_Even_nodes_at : Addr
  d_Even_nodes_at : FuncData
  f_Even_nodes_at : Fun K "nodes_at" "Even.nodes_at" s_Even_nodes_at a_Even_nodes_at d_Even_nodes_at
  b_Even_nodes_at : Binds K d_Even_nodes_at ["self", "at"] []
  a_Even_last_at : Addr
  d_Even_last_at : FuncData
  f_Even_last_at : Fun K "last_at" "Even.last_at" s_Even_last_at a_Even_last_at d_Even_last_at
  b_Even_last_at : Binds K d_Even_last_at ["self"] []
  a_Even_is_end : Addr
  d_Even_is_end : FuncData
  f_Even_is_end : Fun K "is_end" "Even.is_end" s_Even_is_end a_Even_is_end d_Even_is_end
  b_Even_is_end : Binds K d_Even_is_end ["self", "node"] []
  a_priced : Addr
  d_priced : FuncData
  f_priced : Fun K "priced" "priced" s_priced a_priced d_priced
  b_priced : Binds K d_priced ["trail"] []
  g_priced : mg "priced" = some (.ref a_priced)
  a_Even_init : Addr
  d_Even_init : FuncData
  f_Even_init : Fun K "__init__" "Even.__init__" s_Even_init a_Even_init d_Even_init
  b_Even_init : Binds K d_Even_init ["self", "letters", "wide"] []
  a_Even_first_node : Addr
  d_Even_first_node : FuncData
  f_Even_first_node : Fun K "first_node" "Even.first_node" s_Even_first_node a_Even_first_node d_Even_first_node
  b_Even_first_node : Binds K d_Even_first_node ["self"] []
  a_even : Addr
  d_even : FuncData
  f_even : Fun K "even" "even" s_even a_even d_even
  b_even : Binds K d_even ["letters", "wide"] []
  g_even : mg "even" = some (.ref a_even)
  a_is_wide : Addr
  d_is_wide : FuncData
  f_is_wide : Fun K "is_wide" "is_wide" s_is_wide a_is_wide d_is_wide
  b_is_wide : Binds K d_is_wide ["thing"] []
  g_is_wide : mg "is_wide" = some (.ref a_is_wide)
  a_is_way : Addr
  d_is_way : FuncData
  f_is_way : Fun K "is_way" "is_way" s_is_way a_is_way d_is_way
  b_is_way : Binds K d_is_way ["thing"] []
  g_is_way : mg "is_way" = some (.ref a_is_way)
  a_line_end : Addr
  d_line_end : FuncData
  f_line_end : Fun K "line_end" "line_end" s_line_end a_line_end d_line_end
  b_line_end : Binds K d_line_end ["letters", "spots", "lo", "wide", "way"] []
  g_line_end : mg "line_end" = some (.ref a_line_end)
  a_fold : Addr
  d_fold : FuncData
  f_fold : Fun K "fold" "fold" s_fold a_fold d_fold
  b_fold : Binds K d_fold ["letters", "wide", "way"] []
  g_fold : mg "fold" = some (.ref a_fold)
  a_lw_cell : Addr
  d_lw_cell : FuncData
  f_lw_cell : Fun K "_law_cell" "_law_cell" s_lw_cell a_lw_cell d_lw_cell
  b_lw_cell : Binds K d_lw_cell ["_law_script", "_law_k"] []
  g_lw_cell : mg "_law_cell" = some (.ref a_lw_cell)
  a_lw_mix : Addr
  d_lw_mix : FuncData
  f_lw_mix : Fun K "_law_mix" "_law_mix" s_lw_mix a_lw_mix d_lw_mix
  b_lw_mix : Binds K d_lw_mix ["_law_cell_here", "_law_k"] []
  g_lw_mix : mg "_law_mix" = some (.ref a_lw_mix)
  a_lw_whole : Addr
  d_lw_whole : FuncData
  f_lw_whole : Fun K "_law_whole" "_law_whole" s_lw_whole a_lw_whole d_lw_whole
  b_lw_whole : Binds K d_lw_whole ["_law_found"] []
  g_lw_whole : mg "_law_whole" = some (.ref a_lw_whole)
  a_lw_stream : Addr
  d_lw_stream : FuncData
  f_lw_stream : Fun K "_law_stream" "_law_stream" s_lw_stream a_lw_stream d_lw_stream
  b_lw_stream : Binds K d_lw_stream ["_law_cell_here", "_law_many"] []
  g_lw_stream : mg "_law_stream" = some (.ref a_lw_stream)
  a_lw_run : Addr
  d_lw_run : FuncData
  f_lw_run : Fun K "_law_run" "_law_run" s_lw_run a_lw_run d_lw_run
  b_lw_run : Binds K d_lw_run ["_law_xs"] []
  g_lw_run : mg "_law_run" = some (.ref a_lw_run)
  a_lw_letters : Addr
  d_lw_letters : FuncData
  f_lw_letters : Fun K "_law_letters" "_law_letters" s_lw_letters a_lw_letters d_lw_letters
  b_lw_letters : Binds K d_lw_letters ["_law_script", "_law_at", "_law_most"] []
  g_lw_letters : mg "_law_letters" = some (.ref a_lw_letters)
  a_lw_wide : Addr
  d_lw_wide : FuncData
  f_lw_wide : Fun K "_law_wide" "_law_wide" s_lw_wide a_lw_wide d_lw_wide
  b_lw_wide : Binds K d_lw_wide ["_law_script"] []
  g_lw_wide : mg "_law_wide" = some (.ref a_lw_wide)
  a_lw_trimmed : Addr
  d_lw_trimmed : FuncData
  f_lw_trimmed : Fun K "_law_trimmed" "_law_trimmed" s_lw_trimmed a_lw_trimmed d_lw_trimmed
  b_lw_trimmed : Binds K d_lw_trimmed ["_law_letters_here", "_law_lo", "_law_hi"] []
  g_lw_trimmed : mg "_law_trimmed" = some (.ref a_lw_trimmed)
  a_lw_breaks : Addr
  d_lw_breaks : FuncData
  f_lw_breaks : Fun K "_law_breaks" "_law_breaks" s_lw_breaks a_lw_breaks d_lw_breaks
  b_lw_breaks : Binds K d_lw_breaks ["_law_letters_here"] []
  g_lw_breaks : mg "_law_breaks" = some (.ref a_lw_breaks)
  a_lw_held : Addr
  d_lw_held : FuncData
  f_lw_held : Fun K "_law_held" "_law_held" s_lw_held a_lw_held d_lw_held
  b_lw_held : Binds K d_lw_held ["_law_found", "_law_letters_here", "_law_wide_here", "_law_way"] []
  g_lw_held : mg "_law_held" = some (.ref a_lw_held)
  a_lw_fewest : Addr
  d_lw_fewest : FuncData
  f_lw_fewest : Fun K "_law_fewest" "_law_fewest" s_lw_fewest a_lw_fewest d_lw_fewest
  b_lw_fewest : Binds K d_lw_fewest ["_law_letters_here", "_law_wide_here"] []
  g_lw_fewest : mg "_law_fewest" = some (.ref a_lw_fewest)
  a_law : Addr
  d_law : FuncData
  f_law : Fun K "law" "law" s_law a_law d_law
  b_law : Binds K d_law ["_law_script"] []
  g_law : mg "law" = some (.ref a_law)
  z_bool : mg "bool" = none
  z_int : mg "int" = none
  z_isinstance : mg "isinstance" = none
  z_len : mg "len" = none
  z_list : mg "list" = none
  z_max : mg "max" = none
  z_min : mg "min" = none
  z_range : mg "range" = none
  z_str : mg "str" = none
  z_sum : mg "sum" = none
  z_tuple : mg "tuple" = none
  k_BLANK : ∃ u, mg "BLANK" = some u ∧ RelV (.str ⟨([32] : List Nat).toArray⟩) u
  k_GREAT : ∃ u, mg "GREAT" = some u ∧ RelV (.str ⟨([65, 66, 67, 68, 69, 70, 71, 72, 73, 74, 75, 76, 77, 78, 79, 80, 81, 82, 83, 84, 85, 86, 87, 88, 89, 90] : List Nat).toArray⟩) u
  k_LEAST : ∃ u, mg "LEAST" = some u ∧ RelV (.int 2) u
  k_MOST : ∃ u, mg "MOST" = some u ∧ RelV (.int 40) u
  k_WAYS : GlT K mg "WAYS" [[99, 117, 116], [99, 101, 108, 108, 115], [119, 111, 114, 100, 115], [101, 118, 101, 110]]
  cls_Even : Cls K (cl 3)
  gc_Even : mg "Even" = some (.ref (cl 3))
  na_Even_row : NoAttr K (cl 3) "row"
  na_Even_wide : NoAttr K (cl 3) "wide"
  na_Even_spots : NoAttr K (cl 3) "spots"
  me_Even_cost_between : Meth K (cl 3) "cost_between" a_Even_cost_between
  me_Even_moves_from : Meth K (cl 3) "moves_from" a_Even_moves_from
  me_Even_last_at : Meth K (cl 3) "last_at" a_Even_last_at
  me_Even_nodes_at : Meth K (cl 3) "nodes_at" a_Even_nodes_at
  me_Even_is_end : Meth K (cl 3) "is_end" a_Even_is_end
  mk_Even : Mk K (cl 3) a_Even_init
  me_Even_first_node : Meth K (cl 3) "first_node" a_Even_first_node
section
variable {P : Program} {w : World} {K : PySem.W.Frag} {mg : Str → Option Value} {base : Heap}
theorem ok_width_of (T : Tx K mg w) : FnOk P w K mg base CX0 1 T.a_width_of T.d_width_of ["sign"] (spD ⟨K, T.cl, w⟩ F_width_of) := by
  refine ok_def (N := N_width_of) (m := m_width_of) (kp := [true]) T.f_width_of sc_width_of rfl (fun cdv A outer s H XE en ek hr => ?_)
  have hu := hr.units
  have nd := (sc_width_of).nd
  exact (s_cons (s_if (t_in hu (r_v 0) (r_f (f_glS [65, 66, 67, 68, 69, 70, 71, 72, 73, 74, 75, 76, 77, 78, 79, 80, 81, 82, 83, 84, 85, 86, 87, 88, 89, 90] T.k_GREAT))) (s_cons (s_ret (g_f f_int)) s_nil) s_nil)
      (s_cons (s_ret (g_f f_int)) s_nil))
theorem ok_cells_of (T : Tx K mg w) : FnOk P w K mg base CX0 2 T.a_cells_of T.d_cells_of ["letters"] (spD ⟨K, T.cl, w⟩ F_cells_of) := by
  refine ok_def (N := N_cells_of) (m := m_cells_of) (kp := [true]) T.f_cells_of sc_cells_of rfl (fun cdv A outer s H XE en ek hr => ?_)
  have hu := hr.units
  have nd := (sc_cells_of).nd
  exact (s_cons (s_ret (g_f (f_blt (cr_sum rfl) op_sumD (by rfl) T.z_sum (by decide +kernel) (a_cons (r_f (f_lcV [("letter", 1)] (by rfl) rfl nd (i_seqV (r_v 0)) (blkOk_by (own := [("letter", 1)]) (N := N_cells_of) (sc := defScope s_cells_of) (by decide +kernel)) (fun _ _ _ _ _ => (g_name 1 nd (by rfl) (by first | exact Or.inl rfl | exact Or.inr rfl) (by rw [ek]; decide))) (fun _ _ _ _ _ => ts_nil) (fun _ _ _ _ _ => (r_f (f_call (ok_width_of T) (hr.mono (by decide)) (by rfl) T.g_width_of T.f_width_of.kp T.b_width_of pass0 (a_cons (r_ix hu (r_v 1) (r_f f_int)) a_nil)))) (by decide) (by rw [ek]; decide))) a_nil)))) s_nil)
theorem ok_bare_end (T : Tx K mg w) : FnOk P w K mg base CX0 1 T.a_bare_end T.d_bare_end ["letters", "lo", "hi"] (spD ⟨K, T.cl, w⟩ F_bare_end) := by
  refine ok_def (N := N_bare_end) (m := m_bare_end) (kp := [true, true, false]) T.f_bare_end sc_bare_end rfl (fun cdv A outer s H XE en ek hr => ?_)
  have hu := hr.units
  have nd := (sc_bare_end).nd
  exact (s_cons (s_while 5000 [] PassesOwn.never (t_w (w_and (t_cmp opr_gt op_cmpD (r_v 2) (r_v 1) (nomark _)) (w_and1 (tv_cmp (op_eqD hu) op_eqqD flat_eq (v_r (r_ix hu (r_ix hu (r_v 0) (r_f (f_bin op_sub op_subD (r_v 2) (r_f f_int)))) (r_f f_int))) (v_r (r_f (f_glS [32] T.k_BLANK))) (nomark _))))) (s_cons (s_set 2 nd (by rfl) (by first | exact Or.inl rfl | exact Or.inr rfl) (by rw [ek]; decide) (g_f (f_bin op_sub op_subD (r_v 2) (r_f f_int))))
      s_nil))
      (s_cons (s_ret (g_r (r_v 2))) s_nil))
theorem ok_cells_between (T : Tx K mg w) : FnOk P w K mg base CX0 3 T.a_cells_between T.d_cells_between ["letters", "lo", "hi"] (spD ⟨K, T.cl, w⟩ F_cells_between) := by
  refine ok_def (N := N_cells_between) (m := m_cells_between) (kp := [true, true, true]) T.f_cells_between sc_cells_between rfl (fun cdv A outer s H XE en ek hr => ?_)
  have hu := hr.units
  have nd := (sc_cells_between).nd
  exact (s_cons (s_ret (g_f (f_call (ok_cells_of T) (hr.mono (by decide)) (by rfl) T.g_cells_of T.f_cells_of.kp T.b_cells_of pass0 (a_cons (r_f (f_cold (f_sl (r_v 0) (o_some (r_v 1)) (o_some (r_f (f_call (ok_bare_end T) (hr.mono (by decide)) (by rfl) T.g_bare_end T.f_bare_end.kp T.b_bare_end pass0 (a_cons (r_v 0) (a_cons (r_v 1) (a_cons (r_v 2) a_nil))))))))) a_nil)))) s_nil)
theorem ok_fits (T : Tx K mg w) : FnOk P w K mg base CX0 4 T.a_fits T.d_fits ["letters", "lo", "hi", "wide"] (spD ⟨K, T.cl, w⟩ F_fits) := by
  refine ok_def (N := N_fits) (m := m_fits) (kp := [true, true, true, true]) T.f_fits sc_fits rfl (fun cdv A outer s H XE en ek hr => ?_)
  have hu := hr.units
  have nd := (sc_fits).nd
  exact (s_cons (s_ret (g_f (f_cmp opr_le op_cmpD (r_f (f_call (ok_cells_between T) (hr.mono (by decide)) (by rfl) T.g_cells_between T.f_cells_between.kp T.b_cells_between pass0 (a_cons (r_v 0) (a_cons (r_v 1) (a_cons (r_v 2) a_nil))))) (r_v 3) (nomark _)))) s_nil)
theorem ok_breaks (T : Tx K mg w) : FnOk P w K mg base CX0 1 T.a_breaks T.d_breaks ["letters"] (spD ⟨K, T.cl, w⟩ F_breaks) := by
  refine ok_def (N := N_breaks) (m := m_breaks) (kp := [true]) T.f_breaks sc_breaks rfl (fun cdv A outer s H XE en ek hr => ?_)
  have hu := hr.units
  have nd := (sc_breaks).nd
  exact (s_cons (s_set 1 nd (by rfl) (by first | exact Or.inl rfl | exact Or.inr rfl) (by rw [ek]; decide) (g_f (f_lst a_nil)))
      (s_cons (s_for [2] PassesOwn.never rfl (i_rng2 (by rfl) T.z_range (r_f f_int) (r_f (f_blt cr_len op_lenD (by rfl) T.z_len (by decide +kernel) (a_cons (r_v 0) a_nil)))) (g_name 2 nd (by rfl) (by first | exact Or.inl rfl | exact Or.inr rfl) (by rw [ek]; decide)) (s_cons (s_if (t_w (w_and (tv_cmp (op_eqD hu) op_eqqD flat_eq (v_r (r_ix hu (r_ix hu (r_v 0) (r_f (f_bin op_sub op_subD (r_v 2) (r_f f_int)))) (r_f f_int))) (v_r (r_f (f_glS [32] T.k_BLANK))) (nomark _)) (w_and1 (tv_cmp (op_neD hu) op_neqD flat_ne (v_r (r_ix hu (r_ix hu (r_v 0) (r_v 2)) (r_f f_int))) (v_r (r_f (f_glS [32] T.k_BLANK))) (nomark _))))) (s_cons (s_expr (g_app (p_v 1) (f_fr (r_v 2))))
      s_nil) s_nil)
      (s_kill [] s_nil)))
      (s_cons (s_if (t_cmp opr_gt op_cmpD (r_f (f_blt cr_len op_lenD (by rfl) T.z_len (by decide +kernel) (a_cons (r_v 0) a_nil))) (r_f f_int) (nomark _)) (s_cons (s_expr (g_app (p_v 1) (f_blt cr_len op_lenD (by rfl) T.z_len (by decide +kernel) (a_cons (r_v 0) a_nil))))
      s_nil) s_nil)
      (s_kill [] (s_cons (s_ret (g_mv (p_v 1))) s_nil)))))
theorem ok_taken (T : Tx K mg w) : FnOk P w K mg base CX0 2 T.a_taken T.d_taken ["letters", "lo", "wide"] (spD ⟨K, T.cl, w⟩ F_taken) := by
  refine ok_def (N := N_taken) (m := m_taken) (kp := [true, true, true]) T.f_taken sc_taken rfl (fun cdv A outer s H XE en ek hr => ?_)
  have hu := hr.units
  have nd := (sc_taken).nd
  exact (s_cons (s_set 3 nd (by rfl) (by first | exact Or.inl rfl | exact Or.inr rfl) (by rw [ek]; decide) (g_r (r_v 2)))
      (s_cons (s_set 4 nd (by rfl) (by first | exact Or.inl rfl | exact Or.inr rfl) (by rw [ek]; decide) (g_r (r_v 1)))
      (s_cons (s_while 5000 [] PassesOwn.never (t_w (w_and (t_cmp opr_lt op_cmpD (r_v 4) (r_f (f_blt cr_len op_lenD (by rfl) T.z_len (by decide +kernel) (a_cons (r_v 0) a_nil))) (nomark _)) (w_and1 (t_cmp opr_le op_cmpD (r_f (f_call (ok_width_of T) (hr.mono (by decide)) (by rfl) T.g_width_of T.f_width_of.kp T.b_width_of pass0 (a_cons (r_ix hu (r_ix hu (r_v 0) (r_v 4)) (r_f f_int)) a_nil))) (r_v 3) (nomark _))))) (s_cons (s_set 3 nd (by rfl) (by first | exact Or.inl rfl | exact Or.inr rfl) (by rw [ek]; decide) (g_f (f_bin op_sub op_subD (r_v 3) (r_f (f_call (ok_width_of T) (hr.mono (by decide)) (by rfl) T.g_width_of T.f_width_of.kp T.b_width_of pass0 (a_cons (r_ix hu (r_ix hu (r_v 0) (r_v 4)) (r_f f_int)) a_nil))))))
      (s_cons (s_set 4 nd (by rfl) (by first | exact Or.inl rfl | exact Or.inr rfl) (by rw [ek]; decide) (g_f (f_bin opr_add op_addD (r_v 4) (r_f f_int))))
      s_nil)))
      (s_cons (s_ret (g_r (r_v 4))) s_nil))))
theorem ok_reached (T : Tx K mg w) : FnOk P w K mg base CX0 5 T.a_reached T.d_reached ["letters", "spots", "lo", "wide"] (spD ⟨K, T.cl, w⟩ F_reached) := by
  refine ok_def (N := N_reached) (m := m_reached) (kp := [true, true, true, true]) T.f_reached sc_reached rfl (fun cdv A outer s H XE en ek hr => ?_)
  have hu := hr.units
  have nd := (sc_reached).nd
  exact (s_cons (s_set 4 nd (by rfl) (by first | exact Or.inl rfl | exact Or.inr rfl) (by rw [ek]; decide) (g_f (f_lst a_nil)))
      (s_cons (s_for [5] PassesOwn.never rfl (i_seq (r_v 1)) (g_name 5 nd (by rfl) (by first | exact Or.inl rfl | exact Or.inr rfl) (by rw [ek]; decide)) (s_cons (s_if (t_cmp opr_gt op_cmpD (r_v 5) (r_v 2) (nomark _)) (s_cons (s_if (t_not (t_val (r_f (f_call (ok_fits T) (hr.mono (by decide)) (by rfl) T.g_fits T.f_fits.kp T.b_fits pass0 (a_cons (r_v 0) (a_cons (r_v 2) (a_cons (r_v 5) (a_cons (r_v 3) a_nil)))))))) (s_cons s_bk s_nil) s_nil)
      (s_cons (s_expr (g_app (p_v 4) (f_fr (r_v 5))))
      s_nil)) s_nil)
      (s_kill [] s_nil)))
      (s_cons (s_if (tv_cmp (op_eqD hu) op_eqqD flat_eq (v_r (r_v 4)) (v_r (r_f (f_lst a_nil))) (nomark _)) (s_cons (s_ret (g_f (f_lst (a_cons (r_f (f_call (ok_taken T) (hr.mono (by decide)) (by rfl) T.g_taken T.f_taken.kp T.b_taken pass0 (a_cons (r_v 0) (a_cons (r_v 2) (a_cons (r_v 3) a_nil))))) a_nil)))) s_nil) s_nil)
      (s_cons (s_ret (g_mv (p_v 4))) s_nil))))
theorem ok_Even_cost_between (T : Tx K mg w) : FnOk P w K mg base CX0 4 T.a_Even_cost_between T.d_Even_cost_between ["self", "lo", "hi"] (spD ⟨K, T.cl, w⟩ F_Even_cost_between) := by
  refine ok_def (N := N_Even_cost_between) (m := m_Even_cost_between) (kp := [true, true, true]) T.f_Even_cost_between sc_Even_cost_between rfl (fun cdv A outer s H XE en ek hr => ?_)
  have hu := hr.units
  have nd := (sc_Even_cost_between).nd
  exact (s_cons (s_if (tv_cmp (op_eqD hu) op_eqqD flat_eq (v_r (r_v 2)) (v_r (r_f (f_blt cr_len op_lenD (by rfl) T.z_len (by decide +kernel) (a_cons (r_pl (p_fld 3 T.cls_Even T.na_Even_row (p_v 0))) a_nil)))) (nomark _)) (s_cons (s_ret (g_f f_int)) s_nil) s_nil)
      (s_cons (s_set 3 nd (by rfl) (by first | exact Or.inl rfl | exact Or.inr rfl) (by rw [ek]; decide) (g_f (f_bin op_sub op_subD (r_pl (p_fld 3 T.cls_Even T.na_Even_wide (p_v 0))) (r_f (f_call (ok_cells_between T) (hr.mono (by decide)) (by rfl) T.g_cells_between T.f_cells_between.kp T.b_cells_between pass0 (a_cons (r_pl (p_fld 3 T.cls_Even T.na_Even_row (p_v 0))) (a_cons (r_v 1) (a_cons (r_v 2) a_nil))))))))
      (s_cons (s_ret (g_f (f_bin opr_mul op_mulD (r_v 3) (r_v 3)))) s_nil)))
theorem ok_Even_moves_from (T : Tx K mg w) : FnOk P w K mg base CX0 6 T.a_Even_moves_from T.d_Even_moves_from ["self", "node"] (spD ⟨K, T.cl, w⟩ F_Even_moves_from) := by
  refine ok_def (N := N_Even_moves_from) (m := m_Even_moves_from) (kp := [true, true]) T.f_Even_moves_from sc_Even_moves_from rfl (fun cdv A outer s H XE en ek hr => ?_)
  have hu := hr.units
  have nd := (sc_Even_moves_from).nd
  exact (s_cons (s_set 2 nd (by rfl) (by first | exact Or.inl rfl | exact Or.inr rfl) (by rw [ek]; decide) (g_r (r_ix hu (r_wk (r_v 1)) (r_f f_int))))
      (s_cons (s_if (tv_cmp (op_eqD hu) op_eqqD flat_eq (v_r (r_v 2)) (v_r (r_f (f_blt cr_len op_lenD (by rfl) T.z_len (by decide +kernel) (a_cons (r_pl (p_fld 3 T.cls_Even T.na_Even_row (p_v 0))) a_nil)))) (nomark _)) (s_cons (s_ret (g_f (f_lst a_nil))) s_nil) s_nil)
      (s_cons (s_set 3 nd (by rfl) (by first | exact Or.inl rfl | exact Or.inr rfl) (by rw [ek]; decide) (g_f (f_cold (f_call (ok_reached T) (hr.mono (by decide)) (by rfl) T.g_reached T.f_reached.kp T.b_reached pass0 (a_cons (r_pl (p_fld 3 T.cls_Even T.na_Even_row (p_v 0))) (a_cons (r_pl (p_fld 3 T.cls_Even T.na_Even_spots (p_v 0))) (a_cons (r_v 2) (a_cons (r_pl (p_fld 3 T.cls_Even T.na_Even_wide (p_v 0))) a_nil))))))))
      (s_cons (s_ret (g_f (f_lcV [("hi", 4)] (by rfl) rfl nd (i_seqV (r_v 3)) (blkOk_by (own := [("hi", 4)]) (N := N_Even_moves_from) (sc := defScope s_Even_moves_from) (by decide +kernel)) (fun _ _ _ _ _ => (g_name 4 nd (by rfl) (by first | exact Or.inl rfl | exact Or.inr rfl) (by rw [ek]; decide))) (fun _ _ _ _ _ => ts_nil) (fun _ _ _ _ _ => (r_f (f_tup (a_cons (r_f (f_look 3 (r_pl (p_v 0)) T.cls_Even T.me_Even_cost_between (ok_Even_cost_between T) (hr.mono (by decide)) T.b_Even_cost_between pass0 (a_cons (r_v 2) (a_cons (r_v 4) a_nil)))) (a_cons (r_f (f_bty call_str_int op_strD (by rfl) T.z_str (by decide +kernel) (a_cons (r_v 4) a_nil))) (a_cons (r_f (f_key (a_cons (r_v 4) (a_cons (r_f f_int) a_nil)))) a_nil)))))) (by decide) (by rw [ek]; decide)))) s_nil))))
theorem ok_cheapest (T : Tx K mg w) : FnOk P w K mg base CX0 7 T.a_cheapest T.d_cheapest ["trail", "prices", "node"] (spD ⟨K, T.cl, w⟩ F_cheapest) := by
  refine ok_def (N := N_cheapest) (m := m_cheapest) (kp := [true, true, true]) T.f_cheapest sc_cheapest rfl (fun cdv A outer s H XE en ek hr => ?_)
  have hu := hr.units
  have nd := (sc_cheapest).nd
  exact (s_cons (s_set 3 nd (by rfl) (by first | exact Or.inl rfl | exact Or.inr rfl) (by rw [ek]; decide) (g_r (r_ixT (hr_units hu) (r_v 1) (r_v 2))))
      (s_cons (s_for [4, 5, 6, 7] PassesOwn.never rfl (i_seq (r_f (f_cold (f_look 3 (r_pl (p_v 0)) T.cls_Even T.me_Even_moves_from (ok_Even_moves_from T) (hr.mono (by decide)) T.b_Even_moves_from pass0 (a_cons (r_v 2) a_nil))))) (g_tup rfl (gs_cons (g_name 4 nd (by rfl) (by first | exact Or.inl rfl | exact Or.inr rfl) (by rw [ek]; decide)) (gs_cons (g_name 5 nd (by rfl) (by first | exact Or.inl rfl | exact Or.inr rfl) (by rw [ek]; decide)) (gs_cons (g_name 6 nd (by rfl) (by first | exact Or.inl rfl | exact Or.inr rfl) (by rw [ek]; decide)) gs_nil))) (hlen := len_cons (len_cons (len_cons (fun _ _ _ h => len_nil h))))) (s_cons (s_set 7 nd (by rfl) (by first | exact Or.inl rfl | exact Or.inr rfl) (by rw [ek]; decide) (g_r (r_ixT (hr_units hu) (r_v 1) (r_v 6))))
      (s_cons (s_if (t_w (w_and (t_cmp opr_nis op_nisD (r_v 7) (r_f f_non) (nomark _)) (w_and1 (t_w (w_or (t_cmp opr_is op_isD (r_v 3) (r_f f_non) (nomark _)) (w_or1 (t_cmp opr_lt op_cmpD (r_f (f_bin opr_add op_addD (r_v 4) (r_v 7))) (r_v 3) (nomark _)))))))) (s_cons (s_set 3 nd (by rfl) (by first | exact Or.inl rfl | exact Or.inr rfl) (by rw [ek]; decide) (g_f (f_bin opr_add op_addD (r_v 4) (r_v 7))))
      s_nil) s_nil)
      (s_kill [] s_nil))))
      (s_cons (s_ret (g_r (r_v 3))) s_nil)))
theorem ok_settle (T : Tx K mg w) : FnOk P w K mg base CX0 8 T.a_settle T.d_settle ["trail", "prices", "here"] (spD ⟨K, T.cl, w⟩ F_settle) := by
  refine ok_def (N := N_settle) (m := m_settle) (kp := [true, true, true]) T.f_settle sc_settle rfl (fun cdv A outer s H XE en ek hr => ?_)
  have hu := hr.units
  have nd := (sc_settle).nd
  exact (s_cons (s_set 3 nd (by rfl) (by first | exact Or.inl rfl | exact Or.inr rfl) (by rw [ek]; decide) (g_f f_bl))
      (s_cons (s_while 5000 [4, 5] PassesOwn.never (t_val (r_v 3)) (s_cons (s_set 3 nd (by rfl) (by first | exact Or.inl rfl | exact Or.inr rfl) (by rw [ek]; decide) (g_f f_bl))
      (s_cons (s_for [4, 5] PassesOwn.never rfl (i_seq (r_v 2)) (g_name 4 nd (by rfl) (by first | exact Or.inl rfl | exact Or.inr rfl) (by rw [ek]; decide)) (s_cons (s_set 5 nd (by rfl) (by first | exact Or.inl rfl | exact Or.inr rfl) (by rw [ek]; decide) (g_f (f_call (ok_cheapest T) (hr.mono (by decide)) (by rfl) T.g_cheapest T.f_cheapest.kp T.b_cheapest pass0 (a_cons (r_v 0) (a_cons (r_v 1) (a_cons (r_v 4) a_nil))))))
      (s_cons (s_if (tv_cmp (op_neD hu) op_neqD flat_ne (v_r (r_v 5)) (v_r (r_ixT (hr_units hu) (r_v 1) (r_v 4))) (nomark _)) (s_cons (s_dputT (hr_units hu) (g_r (r_v 5)) (p_v 1) (r_v 4))
      (s_cons (s_set 3 nd (by rfl) (by first | exact Or.inl rfl | exact Or.inr rfl) (by rw [ek]; decide) (g_f f_bl))
      s_nil)) s_nil)
      (s_kill [] s_nil))))
      s_nil)))
      s_nil))
theorem ok_Even_nodes_at (T : Tx K mg w) : FnOk P w K mg base CX0 1 T.a_Even_nodes_at T.d_Even_nodes_at ["self", "at"] (spD ⟨K, T.cl, w⟩ F_Even_nodes_at) := by
  refine ok_def (N := N_Even_nodes_at) (m := m_Even_nodes_at) (kp := [true, true]) T.f_Even_nodes_at sc_Even_nodes_at rfl (fun cdv A outer s H XE en ek hr => ?_)
  have hu := hr.units
  have nd := (sc_Even_nodes_at).nd
  exact (s_cons (s_ret (g_f (f_lst (a_cons (r_f (f_key (a_cons (r_v 1) (a_cons (r_f f_int) a_nil)))) a_nil)))) s_nil)
theorem ok_Even_last_at (T : Tx K mg w) : FnOk P w K mg base CX0 1 T.a_Even_last_at T.d_Even_last_at ["self"] (spD ⟨K, T.cl, w⟩ F_Even_last_at) := by
  refine ok_def (N := N_Even_last_at) (m := m_Even_last_at) (kp := [true]) T.f_Even_last_at sc_Even_last_at rfl (fun cdv A outer s H XE en ek hr => ?_)
  have hu := hr.units
  have nd := (sc_Even_last_at).nd
  exact (s_cons (s_ret (g_f (f_blt cr_len op_lenD (by rfl) T.z_len (by decide +kernel) (a_cons (r_pl (p_fld 3 T.cls_Even T.na_Even_row (p_v 0))) a_nil)))) s_nil)
theorem ok_Even_is_end (T : Tx K mg w) : FnOk P w K mg base CX0 1 T.a_Even_is_end T.d_Even_is_end ["self", "node"] (spD ⟨K, T.cl, w⟩ F_Even_is_end) := by
  refine ok_def (N := N_Even_is_end) (m := m_Even_is_end) (kp := [true, true]) T.f_Even_is_end sc_Even_is_end rfl (fun cdv A outer s H XE en ek hr => ?_)
  have hu := hr.units
  have nd := (sc_Even_is_end).nd
  exact (s_cons (s_ret (g_f (v_cmp (op_eqD hu) op_eqqD flat_eq (v_r (r_ix hu (r_wk (r_v 1)) (r_f f_int))) (v_r (r_f (f_blt cr_len op_lenD (by rfl) T.z_len (by decide +kernel) (a_cons (r_pl (p_fld 3 T.cls_Even T.na_Even_row (p_v 0))) a_nil)))) (nomark _)))) s_nil)
theorem ok_priced (T : Tx K mg w) : FnOk P w K mg base CX0 9 T.a_priced T.d_priced ["trail"] (spD ⟨K, T.cl, w⟩ F_priced) := by
  refine ok_def (N := N_priced) (m := m_priced) (kp := [true]) T.f_priced sc_priced rfl (fun cdv A outer s H XE en ek hr => ?_)
  have hu := hr.units
  have nd := (sc_priced).nd
  exact (s_cons (s_set 1 nd (by rfl) (by first | exact Or.inl rfl | exact Or.inr rfl) (by rw [ek]; decide) (g_f f_dnewT))
      (s_cons (s_for [2, 3, 4] PassesOwn.never rfl (i_rng1 (by rfl) T.z_range (r_f (f_bin opr_add op_addD (r_f (f_look0 3 (r_pl (p_v 0)) T.cls_Even T.me_Even_last_at (ok_Even_last_at T) (hr.mono (by decide)) T.b_Even_last_at pass0)) (r_f f_int)))) (g_name 2 nd (by rfl) (by first | exact Or.inl rfl | exact Or.inr rfl) (by rw [ek]; decide)) (s_cons (s_set 3 nd (by rfl) (by first | exact Or.inl rfl | exact Or.inr rfl) (by rw [ek]; decide) (g_f (f_cold (f_look 3 (r_pl (p_v 0)) T.cls_Even T.me_Even_nodes_at (ok_Even_nodes_at T) (hr.mono (by decide)) T.b_Even_nodes_at pass0 (a_cons (r_f (f_bin op_sub op_subD (r_f (f_look0 3 (r_pl (p_v 0)) T.cls_Even T.me_Even_last_at (ok_Even_last_at T) (hr.mono (by decide)) T.b_Even_last_at pass0)) (r_v 2))) a_nil)))))
      (s_cons (s_for [4] PassesOwn.never rfl (i_seq (r_v 3)) (g_name 4 nd (by rfl) (by first | exact Or.inl rfl | exact Or.inr rfl) (by rw [ek]; decide)) (s_cons (s_dputT (hr_units hu) (g_f f_non) (p_v 1) (r_v 4))
      (s_cons (s_if (t_val (r_f (f_look 3 (r_pl (p_v 0)) T.cls_Even T.me_Even_is_end (ok_Even_is_end T) (hr.mono (by decide)) T.b_Even_is_end pass0 (a_cons (r_v 4) a_nil)))) (s_cons (s_dputT (hr_units hu) (g_f f_int) (p_v 1) (r_v 4))
      s_nil) s_nil)
      (s_kill [] s_nil))))
      (s_cons (s_expr (g_lend (ok_settle T) (hr.mono (by decide)) (by rfl) T.g_settle T.f_settle.kp T.b_settle pass0 (al_next (r_v 0) (al_here (p_v 1) (a_cons (r_v 3) a_nil)))))
      s_nil))))
      (s_cons (s_ret (g_mv (p_v 1))) s_nil)))
theorem ok_Even_init (T : Tx K mg w) : FnOk P w K mg base CX0 2 T.a_Even_init T.d_Even_init ["self", "letters", "wide"] (spD ⟨K, T.cl, w⟩ F_Even_init) := by
  refine ok_def (N := N_Even_init) (m := m_Even_init) (kp := [true, true, true]) T.f_Even_init sc_Even_init rfl (fun cdv A outer s H XE en ek hr => ?_)
  have hu := hr.units
  have nd := (sc_Even_init).nd
  exact (s_cons (s_fld 3 T.cls_Even T.na_Even_row (g_f (f_cold (f_bty call_list_of op_listD (by rfl) T.z_list (by decide +kernel) (a_cons (r_v 1) a_nil)))) (p_v 0))
      (s_cons (s_fld 3 T.cls_Even T.na_Even_wide (g_r (r_v 2)) (p_v 0))
      (s_cons (s_fld 3 T.cls_Even T.na_Even_spots (g_f (f_cold (f_call (ok_breaks T) (hr.mono (by decide)) (by rfl) T.g_breaks T.f_breaks.kp T.b_breaks pass0 (a_cons (r_pl (p_fld 3 T.cls_Even T.na_Even_row (p_v 0))) a_nil)))) (p_v 0))
      s_nil)))
theorem ok_Even_first_node (T : Tx K mg w) : FnOk P w K mg base CX0 1 T.a_Even_first_node T.d_Even_first_node ["self"] (spD ⟨K, T.cl, w⟩ F_Even_first_node) := by
  refine ok_def (N := N_Even_first_node) (m := m_Even_first_node) (kp := [true]) T.f_Even_first_node sc_Even_first_node rfl (fun cdv A outer s H XE en ek hr => ?_)
  have hu := hr.units
  have nd := (sc_Even_first_node).nd
  exact (s_cons (s_ret (g_f (f_key (a_cons (r_f f_int) (a_cons (r_f f_int) a_nil))))) s_nil)
theorem ok_even (T : Tx K mg w) : FnOk P w K mg base CX0 10 T.a_even T.d_even ["letters", "wide"] (spD ⟨K, T.cl, w⟩ F_even) := by
  refine ok_def (N := N_even) (m := m_even) (kp := [true, true]) T.f_even sc_even rfl (fun cdv A outer s H XE en ek hr => ?_)
  have hu := hr.units
  have nd := (sc_even).nd
  exact (s_cons (s_if (tv_cmp (op_eqD hu) op_eqqD flat_eq (v_r (r_f (f_blt cr_len op_lenD (by rfl) T.z_len (by decide +kernel) (a_cons (r_v 0) a_nil)))) (v_r (r_f f_int)) (nomark _)) (s_cons (s_ret (g_f (f_lst (a_cons (r_f (f_tup (a_cons (r_f f_int) (a_cons (r_f f_int) a_nil)))) a_nil)))) s_nil) s_nil)
      (s_cons (s_set 2 nd (by rfl) (by first | exact Or.inl rfl | exact Or.inr rfl) (by rw [ek]; decide) (g_f (f_cold (f_mk 3 T.mk_Even (ok_Even_init T) (hr.mono (by decide)) (by rfl) T.gc_Even T.b_Even_init pass0 (a_cons (r_v 0) (a_cons (r_v 1) a_nil))))))
      (s_cons (s_set 3 nd (by rfl) (by first | exact Or.inl rfl | exact Or.inr rfl) (by rw [ek]; decide) (g_f (f_cold (f_call (ok_priced T) (hr.mono (by decide)) (by rfl) T.g_priced T.f_priced.kp T.b_priced pass0 (a_cons (r_v 2) a_nil)))))
      (s_cons (s_set 4 nd (by rfl) (by first | exact Or.inl rfl | exact Or.inr rfl) (by rw [ek]; decide) (g_f (f_lst a_nil)))
      (s_cons (s_set 5 nd (by rfl) (by first | exact Or.inl rfl | exact Or.inr rfl) (by rw [ek]; decide) (g_f (f_look0 3 (r_pl (p_v 2)) T.cls_Even T.me_Even_first_node (ok_Even_first_node T) (hr.mono (by decide)) T.b_Even_first_node pass0)))
      (s_cons (s_while 5000 [6, 7] PassesOwn.never (t_not (t_val (r_f (f_look 3 (r_pl (p_v 2)) T.cls_Even T.me_Even_is_end (ok_Even_is_end T) (hr.mono (by decide)) T.b_Even_is_end pass0 (a_cons (r_v 5) a_nil))))) (s_cons (s_seqI 6 (s_setLcV 6 [("move", 8)] (by rfl) rfl nd (by rfl) (by rfl) (by rw [ek]; decide) (i_seqV (r_f (f_cold (f_look 3 (r_pl (p_v 2)) T.cls_Even T.me_Even_moves_from (ok_Even_moves_from T) (hr.mono (by decide)) T.b_Even_moves_from pass0 (a_cons (r_v 5) a_nil))))) (blkOk_by (own := [("move", 8)]) (N := N_even) (sc := defScope s_even) (by decide +kernel)) (fun _ _ _ _ _ => (g_name 8 nd (by rfl) (by first | exact Or.inl rfl | exact Or.inr rfl) (by rw [ek]; decide))) (fun _ _ _ _ _ => (ts_one (tv_cmp (op_eqD hu) op_eqqD flat_eq (v_r (r_f (f_bin opr_add op_addD (r_ix hu (r_v 8) (r_f f_int)) (r_ixT (hr_units hu) (r_v 3) (r_ix hu (r_v 8) (r_f f_int)))))) (v_r (r_ixT (hr_units hu) (r_v 3) (r_v 5))) (nomark _)))) (fun _ _ _ _ _ => (r_ix hu (r_v 8) (r_f f_int))) (by decide) (by rw [ek]; decide) (sw_true rfl rfl rfl (by decide +kernel))))
      (s_cons (s_set 7 nd (by rfl) (by first | exact Or.inl rfl | exact Or.inr rfl) (by rw [ek]; decide) (g_f (f_blt (cr_maxY rfl hu) op_maxY (by rfl) T.z_max (by decide +kernel) (a_cons (r_v 6) a_nil))))
      (s_cons (s_expr (g_app (p_v 4) (f_tup (a_cons (r_ix hu (r_wk (r_v 5)) (r_f f_int)) (a_cons (r_ix hu (r_wk (r_v 7)) (r_f f_int)) a_nil)))))
      (s_cons (s_set 5 nd (by rfl) (by first | exact Or.inl rfl | exact Or.inr rfl) (by rw [ek]; decide) (g_r (r_v 7)))
      s_nil)))))
      (s_cons (s_ret (g_mv (p_v 4))) s_nil)))))))
theorem ok_is_wide (T : Tx K mg w) : FnOk P w K mg base CX0 1 T.a_is_wide T.d_is_wide ["thing"] (spD ⟨K, T.cl, w⟩ F_is_wide) := by
  refine ok_def (N := N_is_wide) (m := m_is_wide) (kp := [true]) T.f_is_wide sc_is_wide rfl (fun cdv A outer s H XE en ek hr => ?_)
  have hu := hr.units
  have nd := (sc_is_wide).nd
  exact (s_cons (s_ret (g_f (f_and (r_f (f_isi' (r_v 0) (pe_bltn (v := .ty "int") (u := .type "int") (by rfl) T.z_int (by decide +kernel) rfl) T.z_isinstance)) (f_and (r_f (f_not (r_f (f_isi' (r_v 0) (pe_bltn (v := .ty "bool") (u := .type "bool") (by rfl) T.z_bool (by decide +kernel) rfl) T.z_isinstance)))) (f_one (f_ch opr_le op_cmpD opr_le op_cmpD (r_f (f_glI 2 T.k_LEAST)) (r_v 0) (r_f (f_glI 40 T.k_MOST)))))))) s_nil)
theorem ok_is_way (T : Tx K mg w) : FnOk P w K mg base CX0 1 T.a_is_way T.d_is_way ["thing"] (spD ⟨K, T.cl, w⟩ F_is_way) := by
  refine ok_def (N := N_is_way) (m := m_is_way) (kp := [true]) T.f_is_way sc_is_way rfl (fun cdv A outer s H XE en ek hr => ?_)
  have hu := hr.units
  have nd := (sc_is_way).nd
  exact (s_cons (s_ret (g_f (f_and (r_f (f_isi' (r_v 0) (pe_bltn (v := .ty "str") (u := .type "str") (by rfl) T.z_str (by decide +kernel) rfl) T.z_isinstance)) (f_one (f_in hu (r_v 0) (r_f (f_glK [[99, 117, 116], [99, 101, 108, 108, 115], [119, 111, 114, 100, 115], [101, 118, 101, 110]] T.k_WAYS))))))) s_nil)
theorem ok_line_end (T : Tx K mg w) : FnOk P w K mg base CX0 6 T.a_line_end T.d_line_end ["letters", "spots", "lo", "wide", "way"] (spD ⟨K, T.cl, w⟩ F_line_end) := by
  refine ok_def (N := N_line_end) (m := m_line_end) (kp := [true, true, true, true, true]) T.f_line_end sc_line_end rfl (fun cdv A outer s H XE en ek hr => ?_)
  have hu := hr.units
  have nd := (sc_line_end).nd
  exact (s_cons (s_if (tv_cmp (op_eqD hu) op_eqqD flat_eq (v_r (r_v 4)) (v_r (r_f (f_str [119, 111, 114, 100, 115]))) (nomark _)) (s_cons (s_ret (g_r (r_ix hu (r_f (f_call (ok_reached T) (hr.mono (by decide)) (by rfl) T.g_reached T.f_reached.kp T.b_reached pass0 (a_cons (r_v 0) (a_cons (r_v 1) (a_cons (r_v 2) (a_cons (r_v 3) a_nil)))))) (r_f (f_neg (r_f f_int)))))) s_nil) s_nil)
      (s_cons (s_ret (g_f (f_call (ok_taken T) (hr.mono (by decide)) (by rfl) T.g_taken T.f_taken.kp T.b_taken pass0 (a_cons (r_v 0) (a_cons (r_v 2) (a_cons (r_v 3) a_nil)))))) s_nil))
theorem ok_fold (T : Tx K mg w) : FnOk P w K mg base CX0 11 T.a_fold T.d_fold ["letters", "wide", "way"] (spD ⟨K, T.cl, w⟩ F_fold) := by
  refine ok_def (N := N_fold) (m := m_fold) (kp := [true, true, true]) T.f_fold sc_fold rfl (fun cdv A outer s H XE en ek hr => ?_)
  have hu := hr.units
  have nd := (sc_fold).nd
  exact (s_cons (s_if (t_w (w_or (t_not (t_val (r_f (f_call (ok_is_wide T) (hr.mono (by decide)) (by rfl) T.g_is_wide T.f_is_wide.kp T.b_is_wide pass0 (a_cons (r_v 1) a_nil))))) (w_or1 (t_not (t_val (r_f (f_call (ok_is_way T) (hr.mono (by decide)) (by rfl) T.g_is_way T.f_is_way.kp T.b_is_way pass0 (a_cons (r_v 2) a_nil)))))))) ss_never s_nil)
      (s_cons (s_if (tv_cmp (op_eqD hu) op_eqqD flat_eq (v_r (r_v 2)) (v_r (r_f (f_str [101, 118, 101, 110]))) (nomark _)) (s_cons (s_ret (g_f (f_call (ok_even T) (hr.mono (by decide)) (by rfl) T.g_even T.f_even.kp T.b_even pass0 (a_cons (r_v 0) (a_cons (r_v 1) a_nil))))) s_nil) s_nil)
      (s_cons (s_if (tv_cmp (op_eqD hu) op_eqqD flat_eq (v_r (r_f (f_blt cr_len op_lenD (by rfl) T.z_len (by decide +kernel) (a_cons (r_v 0) a_nil)))) (v_r (r_f f_int)) (nomark _)) (s_cons (s_ret (g_f (f_lst (a_cons (r_f (f_tup (a_cons (r_f f_int) (a_cons (r_f f_int) a_nil)))) a_nil)))) s_nil) s_nil)
      (s_cons (s_set 3 nd (by rfl) (by first | exact Or.inl rfl | exact Or.inr rfl) (by rw [ek]; decide) (g_f (f_cold (f_call (ok_breaks T) (hr.mono (by decide)) (by rfl) T.g_breaks T.f_breaks.kp T.b_breaks pass0 (a_cons (r_v 0) a_nil)))))
      (s_cons (s_set 4 nd (by rfl) (by first | exact Or.inl rfl | exact Or.inr rfl) (by rw [ek]; decide) (g_f (f_lst (a_cons (r_f (f_tup (a_cons (r_f f_int) (a_cons (r_f (f_call (ok_line_end T) (hr.mono (by decide)) (by rfl) T.g_line_end T.f_line_end.kp T.b_line_end pass0 (a_cons (r_v 0) (a_cons (r_v 3) (a_cons (r_f f_int) (a_cons (r_v 1) (a_cons (r_v 2) a_nil))))))) a_nil)))) a_nil))))
      (s_cons (s_while 5000 [5] PassesOwn.never (t_w (w_and (tv_cmp (op_neD hu) op_neqD flat_ne (v_r (r_v 2)) (v_r (r_f (f_str [99, 117, 116]))) (nomark _)) (w_and1 (t_cmp opr_lt op_cmpD (r_ix hu (r_ix hu (r_v 4) (r_f (f_neg (r_f f_int)))) (r_f f_int)) (r_f (f_blt cr_len op_lenD (by rfl) T.z_len (by decide +kernel) (a_cons (r_v 0) a_nil))) (nomark _))))) (s_cons (s_set 5 nd (by rfl) (by first | exact Or.inl rfl | exact Or.inr rfl) (by rw [ek]; decide) (g_r (r_ix hu (r_ix hu (r_v 4) (r_f (f_neg (r_f f_int)))) (r_f f_int))))
      (s_cons (s_expr (g_app (p_v 4) (f_tup (a_cons (r_v 5) (a_cons (r_f (f_call (ok_line_end T) (hr.mono (by decide)) (by rfl) T.g_line_end T.f_line_end.kp T.b_line_end pass0 (a_cons (r_v 0) (a_cons (r_v 3) (a_cons (r_v 5) (a_cons (r_v 1) (a_cons (r_v 2) a_nil))))))) a_nil)))))
      s_nil)))
      (s_cons (s_ret (g_mv (p_v 4))) s_nil)))))))
theorem ok_lw_cell (T : Tx K mg w) : FnOk P w K mg base CX0 1 T.a_lw_cell T.d_lw_cell ["_law_script", "_law_k"] (spD ⟨K, T.cl, w⟩ F_lw_cell) := by
  refine ok_def (N := N_lw_cell) (m := m_lw_cell) (kp := [true, true]) T.f_lw_cell sc_lw_cell rfl (fun cdv A outer s H XE en ek hr => ?_)
  have hu := hr.units
  have nd := (sc_lw_cell).nd
  exact (s_cons (s_if (t_cmp opr_lt op_cmpD (r_v 1) (r_f (f_blt cr_len op_lenD (by rfl) T.z_len (by decide +kernel) (a_cons (r_v 0) a_nil))) (nomark _)) (s_cons (s_ret (g_r (r_ix hu (r_v 0) (r_v 1)))) s_nil) s_nil)
      (s_cons (s_set 2 nd (by rfl) (by first | exact Or.inl rfl | exact Or.inr rfl) (by rw [ek]; decide) (g_f (f_bin opr_add op_addD (r_f (f_bin opr_mul op_mulD (r_f (f_bin opr_mul op_mulD (r_v 1) (r_v 1))) (r_f f_int))) (r_f f_int))))
      (s_cons (s_if (t_cmp opr_gt op_cmpD (r_f (f_blt cr_len op_lenD (by rfl) T.z_len (by decide +kernel) (a_cons (r_v 0) a_nil))) (r_f f_int) (nomark _)) (s_cons (s_set 2 nd (by rfl) (by first | exact Or.inl rfl | exact Or.inr rfl) (by rw [ek]; decide) (g_f (f_bin opr_add op_addD (r_v 2) (r_f (f_bin opr_mul op_mulD (r_f (f_bin op_mod op_modD (r_ix hu (r_v 0) (r_f (f_bin op_mod op_modD (r_v 1) (r_f (f_blt cr_len op_lenD (by rfl) T.z_len (by decide +kernel) (a_cons (r_v 0) a_nil)))))) (r_f f_int))) (r_f f_int))))))
      s_nil) s_nil)
      (s_kill [] (s_cons (s_ret (g_f (f_bin op_mod op_modD (r_f (f_bin opr_mul op_mulD (r_v 2) (r_f f_int))) (r_f f_int)))) s_nil)))))
theorem ok_lw_mix (T : Tx K mg w) : FnOk P w K mg base CX0 1 T.a_lw_mix T.d_lw_mix ["_law_cell_here", "_law_k"] (spD ⟨K, T.cl, w⟩ F_lw_mix) := by
  refine ok_def (N := N_lw_mix) (m := m_lw_mix) (kp := [true, true]) T.f_lw_mix sc_lw_mix rfl (fun cdv A outer s H XE en ek hr => ?_)
  have hu := hr.units
  have nd := (sc_lw_mix).nd
  exact (s_cons (s_if (t_cmp opr_gt op_cmpD (r_v 0) (r_f (f_bin op_pow op_powD (r_f f_int) (r_f f_int))) (nomark _)) (s_cons (s_set 2 nd (by rfl) (by first | exact Or.inl rfl | exact Or.inr rfl) (by rw [ek]; decide) (g_r (r_v 0)))
      (s_cons (s_for [3] PassesOwn.never rfl (i_rng1 (by rfl) T.z_range (r_v 1)) (g_name 3 nd (by rfl) (by first | exact Or.inl rfl | exact Or.inr rfl) (by rw [ek]; decide)) (s_cons (s_set 2 nd (by rfl) (by first | exact Or.inl rfl | exact Or.inr rfl) (by rw [ek]; decide) (g_f (f_bin op_fdivW op_fdivD (r_v 2) (r_f (f_bin op_pow op_powD (r_f f_int) (r_f f_int))))))
      s_nil))
      (s_cons (s_ret (g_f (f_bin op_mod op_modD (r_v 2) (r_f (f_bin op_pow op_powD (r_f f_int) (r_f f_int)))))) s_nil))) s_nil)
      (s_cons (s_set 4 nd (by rfl) (by first | exact Or.inl rfl | exact Or.inr rfl) (by rw [ek]; decide) (g_f (f_bin opr_add op_addD (r_f (f_bin op_mod op_modD (r_v 0) (r_f f_int))) (r_f f_int))))
      (s_cons (s_for [3] PassesOwn.never rfl (i_rng1 (by rfl) T.z_range (r_f (f_bin opr_add op_addD (r_v 1) (r_f f_int)))) (g_name 3 nd (by rfl) (by first | exact Or.inl rfl | exact Or.inr rfl) (by rw [ek]; decide)) (s_cons (s_set 4 nd (by rfl) (by first | exact Or.inl rfl | exact Or.inr rfl) (by rw [ek]; decide) (g_f (f_bin op_mod op_modD (r_f (f_bin opr_add op_addD (r_f (f_bin opr_mul op_mulD (r_v 4) (r_f f_int))) (r_f f_int))) (r_f f_int))))
      s_nil))
      (s_cons (s_ret (g_f (f_bin op_fdivW op_fdivD (r_f (f_bin op_mod op_modD (r_f (f_bin opr_mul op_mulD (r_v 4) (r_v 4))) (r_f f_int))) (r_f f_int)))) s_nil))))
theorem ok_lw_whole (T : Tx K mg w) : FnOk P w K mg base CX0 1 T.a_lw_whole T.d_lw_whole ["_law_found"] (spD ⟨K, T.cl, w⟩ F_lw_whole) := by
  refine ok_def (N := N_lw_whole) (m := m_lw_whole) (kp := [true]) T.f_lw_whole sc_lw_whole rfl (fun cdv A outer s H XE en ek hr => ?_)
  have hu := hr.units
  have nd := (sc_lw_whole).nd
  exact (s_cons (s_ret (g_f (f_and (r_f (f_isi' (r_v 0) (pe_bltn (v := .ty "int") (u := .type "int") (by rfl) T.z_int (by decide +kernel) rfl) T.z_isinstance)) (f_one (f_not (r_f (f_isi' (r_v 0) (pe_bltn (v := .ty "bool") (u := .type "bool") (by rfl) T.z_bool (by decide +kernel) rfl) T.z_isinstance))))))) s_nil)
theorem ok_lw_stream (T : Tx K mg w) : FnOk P w K mg base CX0 1 T.a_lw_stream T.d_lw_stream ["_law_cell_here", "_law_many"] (spD ⟨K, T.cl, w⟩ F_lw_stream) := by
  refine ok_def (N := N_lw_stream) (m := m_lw_stream) (kp := [true, true]) T.f_lw_stream sc_lw_stream rfl (fun cdv A outer s H XE en ek hr => ?_)
  have hu := hr.units
  have nd := (sc_lw_stream).nd
  exact (s_cons (s_set 2 nd (by rfl) (by first | exact Or.inl rfl | exact Or.inr rfl) (by rw [ek]; decide) (g_f (f_bin opr_add op_addD (r_f (f_bin opr_mul op_mulD (r_f (f_bin opr_add op_addD (r_f (f_bin op_mod op_modD (r_v 0) (r_f f_int))) (r_f f_int))) (r_f f_int))) (r_f f_int))))
      (s_cons (s_set 3 nd (by rfl) (by first | exact Or.inl rfl | exact Or.inr rfl) (by rw [ek]; decide) (g_r (r_v 0)))
      (s_cons (s_set 4 nd (by rfl) (by first | exact Or.inl rfl | exact Or.inr rfl) (by rw [ek]; decide) (g_f (f_lst a_nil)))
      (s_cons (s_for [5] PassesOwn.never rfl (i_rng1 (by rfl) T.z_range (r_v 1)) (g_name 5 nd (by rfl) (by first | exact Or.inl rfl | exact Or.inr rfl) (by rw [ek]; decide)) (s_cons (s_if (t_cmp opr_gt op_cmpD (r_v 0) (r_f (f_bin op_pow op_powD (r_f f_int) (r_f f_int))) (nomark _)) (s_cons (s_expr (g_app (p_v 4) (f_bin op_mod op_modD (r_v 3) (r_f (f_bin op_pow op_powD (r_f f_int) (r_f f_int))))))
      (s_cons (s_set 3 nd (by rfl) (by first | exact Or.inl rfl | exact Or.inr rfl) (by rw [ek]; decide) (g_f (f_bin op_fdivW op_fdivD (r_v 3) (r_f (f_bin op_pow op_powD (r_f f_int) (r_f f_int))))))
      s_nil)) (s_cons (s_set 2 nd (by rfl) (by first | exact Or.inl rfl | exact Or.inr rfl) (by rw [ek]; decide) (g_f (f_bin op_mod op_modD (r_f (f_bin opr_add op_addD (r_f (f_bin opr_mul op_mulD (r_v 2) (r_f f_int))) (r_f f_int))) (r_f f_int))))
      (s_cons (s_expr (g_app (p_v 4) (f_bin op_fdivW op_fdivD (r_f (f_bin op_mod op_modD (r_f (f_bin opr_mul op_mulD (r_v 2) (r_v 2))) (r_f f_int))) (r_f f_int))))
      s_nil)))
      (s_kill [] s_nil)))
      (s_cons (s_ret (g_mv (p_v 4))) s_nil)))))
theorem ok_lw_run (T : Tx K mg w) : FnOk P w K mg base CX0 1 T.a_lw_run T.d_lw_run ["_law_xs"] (spD ⟨K, T.cl, w⟩ F_lw_run) := by
  refine ok_def (N := N_lw_run) (m := m_lw_run) (kp := [true]) T.f_lw_run sc_lw_run rfl (fun cdv A outer s H XE en ek hr => ?_)
  have hu := hr.units
  have nd := (sc_lw_run).nd
  exact (s_cons (s_set 1 nd (by rfl) (by first | exact Or.inl rfl | exact Or.inr rfl) (by rw [ek]; decide) (g_f (f_str [97, 98, 99, 100, 101, 102, 103, 104, 105, 106, 107, 108, 109, 110, 111, 112, 113, 114, 115, 116, 117, 118, 119, 120, 121, 122])))
      (s_cons (s_set 2 nd (by rfl) (by first | exact Or.inl rfl | exact Or.inr rfl) (by rw [ek]; decide) (g_f (f_str [65, 66, 67, 68, 69, 70, 71, 72, 73, 74, 75, 76, 77, 78, 79, 80, 81, 82, 83, 84, 85, 86, 87, 88, 89, 90])))
      (s_cons (s_set 3 nd (by rfl) (by first | exact Or.inl rfl | exact Or.inr rfl) (by rw [ek]; decide) (g_f (f_str [33, 34, 35, 36, 38, 39, 40, 41, 42, 43, 44, 45, 46, 47, 48, 49, 50, 51, 52, 53, 54, 55, 56, 57, 58, 59, 60, 61, 62, 63, 64, 91, 92, 93, 94, 95, 96, 123, 124, 125])))
      (s_cons (s_set 4 nd (by rfl) (by first | exact Or.inl rfl | exact Or.inr rfl) (by rw [ek]; decide) (g_f (f_bin op_mod op_modD (r_ix hu (r_v 0) (r_f f_int)) (r_f f_int))))
      (s_cons (s_set 5 nd (by rfl) (by first | exact Or.inl rfl | exact Or.inr rfl) (by rw [ek]; decide) (g_f (f_bin opr_add op_addD (r_f f_int) (r_f (f_bin op_mod op_modD (r_ix hu (r_v 0) (r_f f_int)) (r_ix hu (r_f (f_lst (a_cons (r_f f_int) (a_cons (r_f f_int) (a_cons (r_f f_int) (a_cons (r_f f_int) (a_cons (r_f f_int) (a_cons (r_f f_int) (a_cons (r_f f_int) (a_cons (r_f f_int) a_nil)))))))))) (r_v 4)))))))
      (s_cons (s_set 6 nd (by rfl) (by first | exact Or.inl rfl | exact Or.inr rfl) (by rw [ek]; decide) (g_r (r_ix hu (r_f (f_lst (a_cons (r_v 1) (a_cons (r_v 1) (a_cons (r_f (f_bin opr_add op_addD (r_v 1) (r_v 2))) (a_cons (r_v 1) (a_cons (r_v 2) (a_cons (r_f (f_str [32])) (a_cons (r_f (f_str [32])) (a_cons (r_v 3) a_nil)))))))))) (r_v 4))))
      (s_cons (s_set 7 nd (by rfl) (by first | exact Or.inl rfl | exact Or.inr rfl) (by rw [ek]; decide) (g_f (f_join (r_f (f_str [])) (r_f (f_lcV [("_law_k", 8)] (by rfl) rfl nd (i_up (i_rng1 (by rfl) T.z_range (r_v 5))) (blkOk_by (own := [("_law_k", 8)]) (N := N_lw_run) (sc := defScope s_lw_run) (by decide +kernel)) (fun _ _ _ _ _ => (g_name 8 nd (by rfl) (by first | exact Or.inl rfl | exact Or.inr rfl) (by rw [ek]; decide))) (fun _ _ _ _ _ => ts_nil) (fun _ _ _ _ _ => (r_ix hu (r_v 6) (r_f (f_bin op_mod op_modD (r_f (f_bin opr_add op_addD (r_ix hu (r_v 0) (r_f f_int)) (r_f (f_bin opr_mul op_mulD (r_f f_int) (r_v 8))))) (r_f (f_blt cr_len op_lenD (by rfl) T.z_len (by decide +kernel) (a_cons (r_v 6) a_nil))))))) (by decide) (by rw [ek]; decide))))))
      (s_cons (s_ret (g_f (f_bin opr_add op_addD (r_v 7) (r_f (f_bin opr_mul op_mulD (r_f (f_str [32])) (r_f (f_bin op_fdivW op_fdivD (r_f (f_bin op_mod op_modD (r_ix hu (r_v 0) (r_f f_int)) (r_f f_int))) (r_f f_int)))))))) s_nil))))))))
theorem ok_lw_letters (T : Tx K mg w) : FnOk P w K mg base CX0 2 T.a_lw_letters T.d_lw_letters ["_law_script", "_law_at", "_law_most"] (spD ⟨K, T.cl, w⟩ F_lw_letters) := by
  refine ok_def (N := N_lw_letters) (m := m_lw_letters) (kp := [true, true, true]) T.f_lw_letters sc_lw_letters rfl (fun cdv A outer s H XE en ek hr => ?_)
  have hu := hr.units
  have nd := (sc_lw_letters).nd
  exact (s_cons (s_set 3 nd (by rfl) (by first | exact Or.inl rfl | exact Or.inr rfl) (by rw [ek]; decide) (g_f (f_lst a_nil)))
      (s_cons (s_set 4 nd (by rfl) (by first | exact Or.inl rfl | exact Or.inr rfl) (by rw [ek]; decide) (g_f (f_bin op_mod op_modD (r_f (f_call (ok_lw_mix T) (hr.mono (by decide)) (by rfl) T.g_lw_mix T.f_lw_mix.kp T.b_lw_mix pass0 (a_cons (r_f (f_call (ok_lw_cell T) (hr.mono (by decide)) (by rfl) T.g_lw_cell T.f_lw_cell.kp T.b_lw_cell pass0 (a_cons (r_v 0) (a_cons (r_v 1) a_nil)))) (a_cons (r_f f_int) a_nil)))) (r_f f_int))))
      (s_cons (s_for [5, 6, 7] PassesOwn.never rfl (i_rng1 (by rfl) T.z_range (r_f (f_blt (call_max2 rfl) op_max2D (by rfl) T.z_max (by decide +kernel) (a_cons (r_f f_int) (a_cons (r_f (f_blt (call_min2 rfl) op_min2D (by rfl) T.z_min (by decide +kernel) (a_cons (r_f f_int) (a_cons (r_f (f_bin op_sub op_subD (r_f (f_blt cr_len op_lenD (by rfl) T.z_len (by decide +kernel) (a_cons (r_v 0) a_nil))) (r_v 1))) a_nil)))) a_nil))))) (g_name 5 nd (by rfl) (by first | exact Or.inl rfl | exact Or.inr rfl) (by rw [ek]; decide)) (s_cons (s_set 6 nd (by rfl) (by first | exact Or.inl rfl | exact Or.inr rfl) (by rw [ek]; decide) (g_f (f_cold (f_call (ok_lw_stream T) (hr.mono (by decide)) (by rfl) T.g_lw_stream T.f_lw_stream.kp T.b_lw_stream pass0 (a_cons (r_f (f_call (ok_lw_cell T) (hr.mono (by decide)) (by rfl) T.g_lw_cell T.f_lw_cell.kp T.b_lw_cell pass0 (a_cons (r_v 0) (a_cons (r_f (f_bin opr_add op_addD (r_v 1) (r_v 5))) a_nil)))) (a_cons (r_f f_int) a_nil))))))
      (s_cons (s_for [7] PassesOwn.never rfl (i_seq (r_f (f_call (ok_lw_run T) (hr.mono (by decide)) (by rfl) T.g_lw_run T.f_lw_run.kp T.b_lw_run pass0 (a_cons (r_v 6) a_nil)))) (g_name 7 nd (by rfl) (by first | exact Or.inl rfl | exact Or.inr rfl) (by rw [ek]; decide)) (s_cons (s_if (t_cmp opr_lt op_cmpD (r_f (f_blt cr_len op_lenD (by rfl) T.z_len (by decide +kernel) (a_cons (r_v 3) a_nil))) (r_v 2) (nomark _)) (s_cons (s_expr (g_app (p_v 3) (f_tup (a_cons (r_v 7) (a_cons (r_ix hu (r_f (f_str [97, 98, 99, 100, 101, 102, 103, 104, 46])) (r_f (f_bin op_mod op_modD (r_ix hu (r_v 6) (r_f f_int)) (r_f f_int)))) (a_cons (r_ix hu (r_f (f_str [97, 98, 99, 100, 101, 102, 103, 104, 46])) (r_f (f_bin op_mod op_modD (r_ix hu (r_v 6) (r_f f_int)) (r_f f_int)))) (a_cons (r_v 4) a_nil)))))))
      s_nil) s_nil)
      (s_kill [] (s_cons (s_set 4 nd (by rfl) (by first | exact Or.inl rfl | exact Or.inr rfl) (by rw [ek]; decide) (g_f (f_bin opr_add op_addD (r_f (f_bin opr_add op_addD (r_v 4) (r_f f_int))) (r_f (f_bin op_mod op_modD (r_ix hu (r_v 6) (r_f f_int)) (r_f f_int))))))
      s_nil))))
      s_nil)))
      (s_cons (s_if (tv_cmp (op_eqD hu) op_eqqD flat_eq (v_r (r_f (f_bin op_mod op_modD (r_f (f_call (ok_lw_mix T) (hr.mono (by decide)) (by rfl) T.g_lw_mix T.f_lw_mix.kp T.b_lw_mix pass0 (a_cons (r_f (f_call (ok_lw_cell T) (hr.mono (by decide)) (by rfl) T.g_lw_cell T.f_lw_cell.kp T.b_lw_cell pass0 (a_cons (r_v 0) (a_cons (r_f f_int) a_nil)))) (a_cons (r_f f_int) a_nil)))) (r_f f_int)))) (v_r (r_f f_int)) (nomark _)) (s_cons (s_set 3 nd (by rfl) (by first | exact Or.inl rfl | exact Or.inr rfl) (by rw [ek]; decide) (g_f (f_lst a_nil)))
      s_nil) s_nil)
      (s_kill [] (s_cons (s_ret (g_mv (p_v 3))) s_nil))))))
theorem ok_lw_wide (T : Tx K mg w) : FnOk P w K mg base CX0 2 T.a_lw_wide T.d_lw_wide ["_law_script"] (spD ⟨K, T.cl, w⟩ F_lw_wide) := by
  refine ok_def (N := N_lw_wide) (m := m_lw_wide) (kp := [true]) T.f_lw_wide sc_lw_wide rfl (fun cdv A outer s H XE en ek hr => ?_)
  have hu := hr.units
  have nd := (sc_lw_wide).nd
  exact (s_cons (s_set 1 nd (by rfl) (by first | exact Or.inl rfl | exact Or.inr rfl) (by rw [ek]; decide) (g_f (f_call (ok_lw_cell T) (hr.mono (by decide)) (by rfl) T.g_lw_cell T.f_lw_cell.kp T.b_lw_cell pass0 (a_cons (r_v 0) (a_cons (r_f f_int) a_nil)))))
      (s_cons (s_ret (g_f (f_bin opr_add op_addD (r_f f_int) (r_f (f_bin op_mod op_modD (r_f (f_call (ok_lw_mix T) (hr.mono (by decide)) (by rfl) T.g_lw_mix T.f_lw_mix.kp T.b_lw_mix pass0 (a_cons (r_v 1) (a_cons (r_f f_int) a_nil)))) (r_ix hu (r_f (f_lst (a_cons (r_f f_int) (a_cons (r_f f_int) (a_cons (r_f f_int) (a_cons (r_f f_int) a_nil)))))) (r_f (f_bin op_mod op_modD (r_f (f_call (ok_lw_mix T) (hr.mono (by decide)) (by rfl) T.g_lw_mix T.f_lw_mix.kp T.b_lw_mix pass0 (a_cons (r_v 1) (a_cons (r_f f_int) a_nil)))) (r_f f_int))))))))) s_nil))
theorem ok_lw_trimmed (T : Tx K mg w) : FnOk P w K mg base CX0 1 T.a_lw_trimmed T.d_lw_trimmed ["_law_letters_here", "_law_lo", "_law_hi"] (spD ⟨K, T.cl, w⟩ F_lw_trimmed) := by
  refine ok_def (N := N_lw_trimmed) (m := m_lw_trimmed) (kp := [true, true, false]) T.f_lw_trimmed sc_lw_trimmed rfl (fun cdv A outer s H XE en ek hr => ?_)
  have hu := hr.units
  have nd := (sc_lw_trimmed).nd
  exact (s_cons (s_while 5000 [] PassesOwn.never (t_w (w_and (t_cmp opr_gt op_cmpD (r_v 2) (r_v 1) (nomark _)) (w_and1 (tv_cmp (op_eqD hu) op_eqqD flat_eq (v_r (r_ix hu (r_ix hu (r_v 0) (r_f (f_bin op_sub op_subD (r_v 2) (r_f f_int)))) (r_f f_int))) (v_r (r_f (f_str [32]))) (nomark _))))) (s_cons (s_set 2 nd (by rfl) (by first | exact Or.inl rfl | exact Or.inr rfl) (by rw [ek]; decide) (g_f (f_bin op_sub op_subD (r_v 2) (r_f f_int))))
      s_nil))
      (s_cons (s_set 3 nd (by rfl) (by first | exact Or.inl rfl | exact Or.inr rfl) (by rw [ek]; decide) (g_f (f_str [65, 66, 67, 68, 69, 70, 71, 72, 73, 74, 75, 76, 77, 78, 79, 80, 81, 82, 83, 84, 85, 86, 87, 88, 89, 90])))
      (s_cons (s_ret (g_f (f_blt (cr_sum rfl) op_sumD (by rfl) T.z_sum (by decide +kernel) (a_cons (r_f (f_lcV [("_law_letter", 4)] (by rfl) rfl nd (i_seqV (r_f (f_cold (f_sl (r_v 0) (o_some (r_v 1)) (o_some (r_v 2)))))) (blkOk_by (own := [("_law_letter", 4)]) (N := N_lw_trimmed) (sc := defScope s_lw_trimmed) (by decide +kernel)) (fun _ _ _ _ _ => (g_name 4 nd (by rfl) (by first | exact Or.inl rfl | exact Or.inr rfl) (by rw [ek]; decide))) (fun _ _ _ _ _ => ts_nil) (fun _ _ _ _ _ => (r_f (f_bin opr_add op_addD (r_f f_int) (r_f (f_bty call_int1 op_intD (by rfl) T.z_int (by decide +kernel) (a_cons (r_f (f_in hu (r_ix hu (r_v 4) (r_f f_int)) (r_v 3))) a_nil)))))) (by decide) (by rw [ek]; decide))) a_nil)))) s_nil)))
theorem ok_lw_breaks (T : Tx K mg w) : FnOk P w K mg base CX0 1 T.a_lw_breaks T.d_lw_breaks ["_law_letters_here"] (spD ⟨K, T.cl, w⟩ F_lw_breaks) := by
  refine ok_def (N := N_lw_breaks) (m := m_lw_breaks) (kp := [true]) T.f_lw_breaks sc_lw_breaks rfl (fun cdv A outer s H XE en ek hr => ?_)
  have hu := hr.units
  have nd := (sc_lw_breaks).nd
  exact (s_cons (s_set 1 nd (by rfl) (by first | exact Or.inl rfl | exact Or.inr rfl) (by rw [ek]; decide) (g_f (f_lst a_nil)))
      (s_cons (s_for [2] PassesOwn.never rfl (i_rng2 (by rfl) T.z_range (r_f f_int) (r_f (f_bin opr_add op_addD (r_f (f_blt cr_len op_lenD (by rfl) T.z_len (by decide +kernel) (a_cons (r_v 0) a_nil))) (r_f f_int)))) (g_name 2 nd (by rfl) (by first | exact Or.inl rfl | exact Or.inr rfl) (by rw [ek]; decide)) (s_cons (s_if (t_w (w_or (tv_cmp (op_eqD hu) op_eqqD flat_eq (v_r (r_v 2)) (v_r (r_f (f_blt cr_len op_lenD (by rfl) T.z_len (by decide +kernel) (a_cons (r_v 0) a_nil)))) (nomark _)) (w_or1 (t_w (w_and (tv_cmp (op_eqD hu) op_eqqD flat_eq (v_r (r_ix hu (r_ix hu (r_v 0) (r_f (f_bin op_sub op_subD (r_v 2) (r_f f_int)))) (r_f f_int))) (v_r (r_f (f_str [32]))) (nomark _)) (w_and1 (tv_cmp (op_neD hu) op_neqD flat_ne (v_r (r_ix hu (r_ix hu (r_v 0) (r_v 2)) (r_f f_int))) (v_r (r_f (f_str [32]))) (nomark _)))))))) (s_cons (s_expr (g_app (p_v 1) (f_fr (r_v 2))))
      s_nil) s_nil)
      (s_kill [] s_nil)))
      (s_cons (s_ret (g_mv (p_v 1))) s_nil)))
theorem ok_lw_held (T : Tx K mg w) : FnOk P w K mg base CX0 2 T.a_lw_held T.d_lw_held ["_law_found", "_law_letters_here", "_law_wide_here", "_law_way"] (spD ⟨K, T.cl, w⟩ F_lw_held) := by
  refine ok_def (N := N_lw_held) (m := m_lw_held) (kp := [true, true, true, true]) T.f_lw_held sc_lw_held rfl (fun cdv A outer s H XE en ek hr => ?_)
  have hu := hr.units
  have nd := (sc_lw_held).nd
  exact (s_cons (s_if (t_w (w_or (t_not (t_val (r_f (f_isi' (r_v 0) (pe_bltn (v := .ty "list") (u := .type "list") (by rfl) T.z_list (by decide +kernel) rfl) T.z_isinstance)))) (w_or1 (tv_cmp (op_eqD hu) op_eqqD flat_eq (v_r (r_f (f_blt cr_len op_lenD (by rfl) T.z_len (by decide +kernel) (a_cons (r_v 0) a_nil)))) (v_r (r_f f_int)) (nomark _))))) (s_cons (s_ret (g_f f_bl)) s_nil) s_nil)
      (s_cons (s_set 4 nd (by rfl) (by first | exact Or.inl rfl | exact Or.inr rfl) (by rw [ek]; decide) (g_f f_int))
      (s_cons (s_for [5] PassesOwn.never rfl (i_seq (r_v 0)) (g_name 5 nd (by rfl) (by first | exact Or.inl rfl | exact Or.inr rfl) (by rw [ek]; decide)) (s_cons (s_if (t_w (w_or (t_not (t_val (r_f (f_isi' (r_v 5) (pe_bltn (v := .ty "tuple") (u := .type "tuple") (by rfl) T.z_tuple (by decide +kernel) rfl) T.z_isinstance)))) (w_or (tv_cmp (op_neD hu) op_neqD flat_ne (v_r (r_f (f_blt cr_len op_lenD (by rfl) T.z_len (by decide +kernel) (a_cons (r_v 5) a_nil)))) (v_r (r_f f_int)) (nomark _)) (w_or (t_not (t_val (r_f (f_call (ok_lw_whole T) (hr.mono (by decide)) (by rfl) T.g_lw_whole T.f_lw_whole.kp T.b_lw_whole pass0 (a_cons (r_ix hu (r_v 5) (r_f f_int)) a_nil))))) (w_or1 (t_not (t_val (r_f (f_call (ok_lw_whole T) (hr.mono (by decide)) (by rfl) T.g_lw_whole T.f_lw_whole.kp T.b_lw_whole pass0 (a_cons (r_ix hu (r_v 5) (r_f f_int)) a_nil)))))))))) (s_cons (s_ret (g_f f_bl)) s_nil) s_nil)
      (s_cons (s_if (t_w (w_or (tv_cmp (op_neD hu) op_neqD flat_ne (v_r (r_ix hu (r_v 5) (r_f f_int))) (v_r (r_v 4)) (nomark _)) (w_or (t_cmp opr_lt op_cmpD (r_ix hu (r_v 5) (r_f f_int)) (r_v 4) (nomark _)) (w_or (t_cmp opr_gt op_cmpD (r_ix hu (r_v 5) (r_f f_int)) (r_f (f_blt cr_len op_lenD (by rfl) T.z_len (by decide +kernel) (a_cons (r_v 1) a_nil))) (nomark _)) (w_or1 (t_w (w_and (tv_cmp (op_eqD hu) op_eqqD flat_eq (v_r (r_ix hu (r_v 5) (r_f f_int))) (v_r (r_v 4)) (nomark _)) (w_and1 (tv_cmp (op_neD hu) op_neqD flat_ne (v_r (r_v 1)) (v_r (r_f (f_lst a_nil))) (nomark _)))))))))) (s_cons (s_ret (g_f f_bl)) s_nil) s_nil)
      (s_cons (s_if (t_cmp opr_gt op_cmpD (r_f (f_call (ok_lw_trimmed T) (hr.mono (by decide)) (by rfl) T.g_lw_trimmed T.f_lw_trimmed.kp T.b_lw_trimmed pass0 (a_cons (r_v 1) (a_cons (r_ix hu (r_v 5) (r_f f_int)) (a_cons (r_ix hu (r_v 5) (r_f f_int)) a_nil))))) (r_v 2) (nomark _)) (s_cons (s_ret (g_f f_bl)) s_nil) s_nil)
      (s_cons (s_set 4 nd (by rfl) (by first | exact Or.inl rfl | exact Or.inr rfl) (by rw [ek]; decide) (g_r (r_ix hu (r_v 5) (r_f f_int))))
      s_nil)))))
      (s_cons (s_if (tv_cmp (op_eqD hu) op_eqqD flat_eq (v_r (r_v 3)) (v_r (r_f (f_str [99, 117, 116]))) (nomark _)) (s_cons (s_ret (g_f (v_cmp (op_eqD hu) op_eqqD flat_eq (v_r (r_f (f_blt cr_len op_lenD (by rfl) T.z_len (by decide +kernel) (a_cons (r_v 0) a_nil)))) (v_r (r_f f_int)) (nomark _)))) s_nil) s_nil)
      (s_cons (s_ret (g_f (v_cmp (op_eqD hu) op_eqqD flat_eq (v_r (r_v 4)) (v_r (r_f (f_blt cr_len op_lenD (by rfl) T.z_len (by decide +kernel) (a_cons (r_v 1) a_nil)))) (nomark _)))) s_nil)))))
theorem ok_lw_fewest (T : Tx K mg w) : FnOk P w K mg base CX0 2 T.a_lw_fewest T.d_lw_fewest ["_law_letters_here", "_law_wide_here"] (spD ⟨K, T.cl, w⟩ F_lw_fewest) := by
  refine ok_def (N := N_lw_fewest) (m := m_lw_fewest) (kp := [true, true]) T.f_lw_fewest sc_lw_fewest rfl (fun cdv A outer s H XE en ek hr => ?_)
  have hu := hr.units
  have nd := (sc_lw_fewest).nd
  exact (s_cons (s_set 2 nd (by rfl) (by first | exact Or.inl rfl | exact Or.inr rfl) (by rw [ek]; decide) (g_f (f_cold (f_bin opr_add op_addD (r_f (f_lst (a_cons (r_f f_int) a_nil))) (r_f (f_call (ok_lw_breaks T) (hr.mono (by decide)) (by rfl) T.g_lw_breaks T.f_lw_breaks.kp T.b_lw_breaks pass0 (a_cons (r_v 0) a_nil)))))))
      (s_cons (s_set 3 nd (by rfl) (by first | exact Or.inl rfl | exact Or.inr rfl) (by rw [ek]; decide) (g_f (f_disp (pd_cons (r_f f_int) (r_f f_int) pd_nil) (by rfl) (by rfl) (List.cons_ne_nil _ _) (by decide))))
      (s_cons (s_for [4, 5] PassesOwn.never rfl (i_rng2 (by rfl) T.z_range (r_f f_int) (r_f (f_blt cr_len op_lenD (by rfl) T.z_len (by decide +kernel) (a_cons (r_v 2) a_nil)))) (g_name 4 nd (by rfl) (by first | exact Or.inl rfl | exact Or.inr rfl) (by rw [ek]; decide)) (s_cons (s_for [5] PassesOwn.never rfl (i_rng1 (by rfl) T.z_range (r_v 4)) (g_name 5 nd (by rfl) (by first | exact Or.inl rfl | exact Or.inr rfl) (by rw [ek]; decide)) (s_cons (s_if (t_w (w_and (t_in hu (r_ix hu (r_v 2) (r_v 5)) (r_v 3)) (w_and1 (t_cmp opr_le op_cmpD (r_f (f_call (ok_lw_trimmed T) (hr.mono (by decide)) (by rfl) T.g_lw_trimmed T.f_lw_trimmed.kp T.b_lw_trimmed pass0 (a_cons (r_v 0) (a_cons (r_ix hu (r_v 2) (r_v 5)) (a_cons (r_ix hu (r_v 2) (r_v 4)) a_nil))))) (r_v 1) (nomark _))))) (s_cons (s_dputK (hr_units hu) (g_f (f_blt (call_min2 rfl) op_min2D (by rfl) T.z_min (by decide +kernel) (a_cons (r_f (f_bin opr_add op_addD (r_ix hu (r_v 3) (r_ix hu (r_v 2) (r_v 5))) (r_f f_int))) (a_cons (r_get2 (hr_units hu) (r_v 3) (r_ix hu (r_v 2) (r_v 4)) (r_f f_int)) a_nil)))) (p_v 3) (r_ix hu (r_v 2) (r_v 4)))
      s_nil) s_nil)
      (s_kill [] s_nil)))
      s_nil))
      (s_cons (s_ret (g_r (r_get2 (hr_units hu) (r_v 3) (r_f (f_blt cr_len op_lenD (by rfl) T.z_len (by decide +kernel) (a_cons (r_v 0) a_nil))) (r_f f_int)))) s_nil))))
theorem ok_law (T : Tx K mg w) : FnOk P w K mg base CX0 12 T.a_law T.d_law ["_law_script"] (spD ⟨K, T.cl, w⟩ F_law) := by
  refine ok_def (N := N_law) (m := m_law) (kp := [true]) T.f_law sc_law rfl (fun cdv A outer s H XE en ek hr => ?_)
  have hu := hr.units
  have nd := (sc_law).nd
  exact (s_cons (s_set 1 nd (by rfl) (by first | exact Or.inl rfl | exact Or.inr rfl) (by rw [ek]; decide) (g_f (f_cold (f_call (ok_lw_letters T) (hr.mono (by decide)) (by rfl) T.g_lw_letters T.f_lw_letters.kp T.b_lw_letters pass0 (a_cons (r_v 0) (a_cons (r_f f_int) (a_cons (r_f f_int) a_nil)))))))
      (s_cons (s_set 2 nd (by rfl) (by first | exact Or.inl rfl | exact Or.inr rfl) (by rw [ek]; decide) (g_f (f_call (ok_lw_wide T) (hr.mono (by decide)) (by rfl) T.g_lw_wide T.f_lw_wide.kp T.b_lw_wide pass0 (a_cons (r_v 0) a_nil))))
      (s_cons (s_set 3 nd (by rfl) (by first | exact Or.inl rfl | exact Or.inr rfl) (by rw [ek]; decide) (g_r (r_ix hu (r_f (f_lst (a_cons (r_f f_int) (a_cons (r_f f_int) (a_cons (r_f f_int) a_nil))))) (r_f (f_bin op_mod op_modD (r_f (f_call (ok_lw_mix T) (hr.mono (by decide)) (by rfl) T.g_lw_mix T.f_lw_mix.kp T.b_lw_mix pass0 (a_cons (r_f (f_call (ok_lw_cell T) (hr.mono (by decide)) (by rfl) T.g_lw_cell T.f_lw_cell.kp T.b_lw_cell pass0 (a_cons (r_v 0) (a_cons (r_f f_int) a_nil)))) (a_cons (r_f f_int) a_nil)))) (r_f f_int))))))
      (s_cons (s_seqI 4 (s_setLcV 4 [("_law_one", 12)] (by rfl) rfl nd (by rfl) (by rfl) (by rw [ek]; decide) (i_seqV (r_v 1)) (blkOk_by (own := [("_law_one", 12)]) (N := N_law) (sc := defScope s_law) (by decide +kernel)) (fun _ _ _ _ _ => (g_name 12 nd (by rfl) (by first | exact Or.inl rfl | exact Or.inr rfl) (by rw [ek]; decide))) (fun _ _ _ _ _ => ts_nil) (fun _ _ _ _ _ => (r_f (f_sl (r_f (f_tup (a_cons (r_ix hu (r_v 12) (r_f f_int)) (a_cons (r_ix hu (r_f (f_str [97, 98, 99, 100, 101, 102, 103, 104, 46])) (r_f (f_bin op_mod op_modD (r_ix hu (r_v 12) (r_f f_int)) (r_f f_int)))) (a_cons (r_f (f_str [46])) (a_cons (r_f (f_bin opr_add op_addD (r_f f_int) (r_f (f_bin opr_mul op_mulD (r_f f_int) (r_ix hu (r_v 12) (r_f f_int)))))) a_nil)))))) o_none (o_some (r_v 3))))) (by decide) (by rw [ek]; decide) (sw_true rfl rfl rfl (by decide +kernel))))
      (s_cons (s_set 5 nd (by rfl) (by first | exact Or.inl rfl | exact Or.inr rfl) (by rw [ek]; decide) (g_f (f_cold (f_lst (a_cons (r_f (f_str [99, 117, 116])) (a_cons (r_f (f_str [99, 101, 108, 108, 115])) (a_cons (r_f (f_str [119, 111, 114, 100, 115])) (a_cons (r_f (f_str [101, 118, 101, 110])) a_nil))))))))
      (s_cons (s_set 6 nd (by rfl) (by first | exact Or.inl rfl | exact Or.inr rfl) (by rw [ek]; decide) (g_f (f_bin op_mod op_modD (r_f (f_call (ok_lw_mix T) (hr.mono (by decide)) (by rfl) T.g_lw_mix T.f_lw_mix.kp T.b_lw_mix pass0 (a_cons (r_f (f_call (ok_lw_cell T) (hr.mono (by decide)) (by rfl) T.g_lw_cell T.f_lw_cell.kp T.b_lw_cell pass0 (a_cons (r_v 0) (a_cons (r_f f_int) a_nil)))) (a_cons (r_f f_int) a_nil)))) (r_f f_int))))
      (s_cons (s_set 5 nd (by rfl) (by first | exact Or.inl rfl | exact Or.inr rfl) (by rw [ek]; decide) (g_f (f_cold (f_bin opr_add op_addD (r_f (f_sl (r_v 5) (o_some (r_v 6)) o_none)) (r_f (f_sl (r_v 5) o_none (o_some (r_v 6))))))))
      (s_cons (s_set 7 nd (by rfl) (by first | exact Or.inl rfl | exact Or.inr rfl) (by rw [ek]; decide) (g_f f_dnew))
      (s_cons (s_for [8, 9] PassesOwn.never rfl (i_seq (r_v 5)) (g_name 8 nd (by rfl) (by first | exact Or.inl rfl | exact Or.inr rfl) (by rw [ek]; decide)) (s_cons (s_set 9 nd (by rfl) (by first | exact Or.inl rfl | exact Or.inr rfl) (by rw [ek]; decide) (g_f (f_cold (f_call (ok_fold T) (hr.mono (by decide)) (by rfl) T.g_fold T.f_fold.kp T.b_fold pass0 (a_cons (r_f (f_cold (f_bty call_list_of op_listD (by rfl) T.z_list (by decide +kernel) (a_cons (r_v 1) a_nil)))) (a_cons (r_v 2) (a_cons (r_v 8) a_nil)))))))
      (s_cons (s_if (t_w (w_or (t_not (t_val (r_f (f_call (ok_lw_held T) (hr.mono (by decide)) (by rfl) T.g_lw_held T.f_lw_held.kp T.b_lw_held pass0 (a_cons (r_v 9) (a_cons (r_v 1) (a_cons (r_v 2) (a_cons (r_v 8) a_nil)))))))) (w_or1 (tv_cmp (op_neD hu) op_neqD flat_ne (v_call (ok_fold T) (hr.mono (by decide)) (by rfl) T.g_fold T.f_fold.kp T.b_fold pass0 (a_cons (r_v 4) (a_cons (r_v 2) (a_cons (r_v 8) a_nil)))) (v_r (r_v 9)) (nomark _))))) (s_cons (s_ret (g_f f_bl)) s_nil) s_nil)
      (s_cons (s_dputK (hr_units hu) (g_r (r_v 9)) (p_v 7) (r_v 8))
      s_nil))))
      (s_cons (s_set 10 nd (by rfl) (by first | exact Or.inl rfl | exact Or.inr rfl) (by rw [ek]; decide) (g_f (f_call (ok_lw_fewest T) (hr.mono (by decide)) (by rfl) T.g_lw_fewest T.f_lw_fewest.kp T.b_lw_fewest pass0 (a_cons (r_v 1) (a_cons (r_v 2) a_nil)))))
      (s_cons (s_if (t_w (w_and (t_cmp opr_gt op_cmpD (r_v 10) (r_f f_int) (nomark _)) (w_and1 (t_w (w_or (tv_cmp (op_neD hu) op_neqD flat_ne (v_r (r_f (f_blt cr_len op_lenD (by rfl) T.z_len (by decide +kernel) (a_cons (r_ix hu (r_v 7) (r_f (f_str [119, 111, 114, 100, 115]))) a_nil)))) (v_r (r_v 10)) (nomark _)) (w_or1 (t_cmp opr_lt op_cmpD (r_f (f_blt cr_len op_lenD (by rfl) T.z_len (by decide +kernel) (a_cons (r_ix hu (r_v 7) (r_f (f_str [101, 118, 101, 110]))) a_nil))) (r_v 10) (nomark _)))))))) (s_cons (s_ret (g_f f_bl)) s_nil) s_nil)
      (s_cons (s_for [8, 11] PassesOwn.never rfl (i_seq (r_f (f_cold (f_lst (a_cons (r_f (f_str [101, 118, 101, 110])) (a_cons (r_f (f_str [99, 117, 116])) (a_cons (r_f (f_str [119, 111, 114, 100, 115])) (a_cons (r_f (f_str [99, 101, 108, 108, 115])) a_nil)))))))) (g_name 8 nd (by rfl) (by first | exact Or.inl rfl | exact Or.inr rfl) (by rw [ek]; decide)) (s_cons (s_set 11 nd (by rfl) (by first | exact Or.inl rfl | exact Or.inr rfl) (by rw [ek]; decide) (g_f (f_bty call_list_of op_listD (by rfl) T.z_list (by decide +kernel) (a_cons (r_v 1) a_nil))))
      (s_cons (s_if (tv_cmp (op_neD hu) op_neqD flat_ne (v_call (ok_fold T) (hr.mono (by decide)) (by rfl) T.g_fold T.f_fold.kp T.b_fold pass0 (a_cons (r_v 11) (a_cons (r_v 2) (a_cons (r_v 8) a_nil)))) (v_r (r_ix hu (r_v 7) (r_v 8))) (nomark _)) (s_cons (s_ret (g_f f_bl)) s_nil) s_nil)
      (s_cons (s_expr (g_rev (p_v 11)))
      (s_cons (s_if (tv_cmp (op_neD hu) op_neqD flat_ne (v_call (ok_fold T) (hr.mono (by decide)) (by rfl) T.g_fold T.f_fold.kp T.b_fold pass0 (a_cons (r_v 11) (a_cons (r_v 2) (a_cons (r_v 8) a_nil)))) (v_call (ok_fold T) (hr.mono (by decide)) (by rfl) T.g_fold T.f_fold.kp T.b_fold pass0 (a_cons (r_f (f_cold (f_revL (r_v 1)))) (a_cons (r_v 2) (a_cons (r_v 8) a_nil)))) (nomark _)) (s_cons (s_ret (g_f f_bl)) s_nil) s_nil)
      s_nil)))))
      (s_cons (s_ret (g_f f_bl)) s_nil)))))))))))))
end
end LW

namespace LW
open PySem L2 PyProof.Rows LI
theorem law_true (ns : List Int) (hl : ns.length ≤ 63) (hb : ∀ z ∈ ns, Builtin.Int.intBits z ≤ 1048576) : ∃ ds', F_law [.scr ns] = some (.bl true, ds') := ⟨_, L_law ns (LW.law_t ns hl hb)⟩
theorem all_mk (LT : ∀ ns : List Int, ns.length ≤ 63 → (∀ z ∈ ns, Builtin.Int.intBits z ≤ 1048576) → ∃ ds', F_law [.scr ns] = some (.bl true, ds')) {l : PySem.W.OpenLaw} {w : World} {K : PySem.W.Frag} {h : Heap} {mg : Str → Option Value} {fa : Addr} (X : K.In h) (G : h.Ns mainGlobals mg) (hfa : mg "law" = some (.ref fa))
    {c_Even p_width_of p_cells_of p_bare_end p_cells_between p_fits p_breaks p_taken p_reached p_Even_cost_between p_Even_moves_from p_cheapest p_settle p_Even_nodes_at p_Even_last_at p_Even_is_end p_priced p_Even_init p_Even_first_node p_even p_is_wide p_is_way p_line_end p_fold p_lw_cell p_lw_mix p_lw_whole p_lw_stream p_lw_run p_lw_letters p_lw_wide p_lw_trimmed p_lw_breaks p_lw_held p_lw_fewest p_law q_WAYS : Addr} {od_width_of an_width_of od_cells_of an_cells_of od_bare_end an_bare_end od_cells_between an_cells_between od_fits an_fits od_breaks an_breaks od_taken an_taken od_reached an_reached od_Even_cost_between an_Even_cost_between od_Even_moves_from an_Even_moves_from od_cheapest an_cheapest od_settle an_settle od_Even_nodes_at an_Even_nodes_at od_Even_last_at an_Even_last_at od_Even_is_end an_Even_is_end od_priced an_priced od_Even_init an_Even_init od_Even_first_node an_Even_first_node od_even an_even od_is_wide an_is_wide od_is_way an_is_way od_line_end an_line_end od_fold an_fold od_lw_cell an_lw_cell od_lw_mix an_lw_mix od_lw_whole an_lw_whole od_lw_stream an_lw_stream od_lw_run an_lw_run od_lw_letters an_lw_letters od_lw_wide an_lw_wide od_lw_trimmed an_lw_trimmed od_lw_breaks an_lw_breaks od_lw_held an_lw_held od_lw_fewest an_lw_fewest od_law an_law od_WAYS : Option Addr} {sl_width_of sl_cells_of sl_bare_end sl_cells_between sl_fits sl_breaks sl_taken sl_reached sl_Even_cost_between sl_Even_moves_from sl_cheapest sl_settle sl_Even_nodes_at sl_Even_last_at sl_Even_is_end sl_priced sl_Even_init sl_Even_first_node sl_even sl_is_wide sl_is_way sl_line_end sl_fold sl_lw_cell sl_lw_mix sl_lw_whole sl_lw_stream sl_lw_run sl_lw_letters sl_lw_wide sl_lw_trimmed sl_lw_breaks sl_lw_held sl_lw_fewest sl_law sl_WAYS : Array (Option Value)} {oc_width_of kV_width_of dc_width_of pm_width_of cd_width_of ct_width_of oc_cells_of kV_cells_of dc_cells_of pm_cells_of cd_cells_of ct_cells_of oc_bare_end kV_bare_end dc_bare_end pm_bare_end cd_bare_end ct_bare_end oc_cells_between kV_cells_between dc_cells_between pm_cells_between cd_cells_between ct_cells_between oc_fits kV_fits dc_fits pm_fits cd_fits ct_fits oc_breaks kV_breaks dc_breaks pm_breaks cd_breaks ct_breaks oc_taken kV_taken dc_taken pm_taken cd_taken ct_taken oc_reached kV_reached dc_reached pm_reached cd_reached ct_reached oc_Even_cost_between kV_Even_cost_between dc_Even_cost_between pm_Even_cost_between cd_Even_cost_between ct_Even_cost_between oc_Even_moves_from kV_Even_moves_from dc_Even_moves_from pm_Even_moves_from cd_Even_moves_from ct_Even_moves_from oc_cheapest kV_cheapest dc_cheapest pm_cheapest cd_cheapest ct_cheapest oc_settle kV_settle dc_settle pm_settle cd_settle ct_settle oc_Even_nodes_at kV_Even_nodes_at dc_Even_nodes_at pm_Even_nodes_at cd_Even_nodes_at ct_Even_nodes_at oc_Even_last_at kV_Even_last_at dc_Even_last_at pm_Even_last_at cd_Even_last_at ct_Even_last_at oc_Even_is_end kV_Even_is_end dc_Even_is_end pm_Even_is_end cd_Even_is_end ct_Even_is_end oc_priced kV_priced dc_priced pm_priced cd_priced ct_priced oc_Even_init kV_Even_init dc_Even_init pm_Even_init cd_Even_init ct_Even_init oc_Even_first_node kV_Even_first_node dc_Even_first_node pm_Even_first_node cd_Even_first_node ct_Even_first_node oc_even kV_even dc_even pm_even cd_even ct_even oc_is_wide kV_is_wide dc_is_wide pm_is_wide cd_is_wide ct_is_wide oc_is_way kV_is_way dc_is_way pm_is_way cd_is_way ct_is_way oc_line_end kV_line_end dc_line_end pm_line_end cd_line_end ct_line_end oc_fold kV_fold dc_fold pm_fold cd_fold ct_fold oc_lw_cell kV_lw_cell dc_lw_cell pm_lw_cell cd_lw_cell ct_lw_cell oc_lw_mix kV_lw_mix dc_lw_mix pm_lw_mix cd_lw_mix ct_lw_mix oc_lw_whole kV_lw_whole dc_lw_whole pm_lw_whole cd_lw_whole ct_lw_whole oc_lw_stream kV_lw_stream dc_lw_stream pm_lw_stream cd_lw_stream ct_lw_stream oc_lw_run kV_lw_run dc_lw_run pm_lw_run cd_lw_run ct_lw_run oc_lw_letters kV_lw_letters dc_lw_letters pm_lw_letters cd_lw_letters ct_lw_letters oc_lw_wide kV_lw_wide dc_lw_wide pm_lw_wide cd_lw_wide ct_lw_wide oc_lw_trimmed kV_lw_trimmed dc_lw_trimmed pm_lw_trimmed cd_lw_trimmed ct_lw_trimmed oc_lw_breaks kV_lw_breaks dc_lw_breaks pm_lw_breaks cd_lw_breaks ct_lw_breaks oc_lw_held kV_lw_held dc_lw_held pm_lw_held cd_lw_held ct_lw_held oc_lw_fewest kV_lw_fewest dc_lw_fewest pm_lw_fewest cd_lw_fewest ct_lw_fewest oc_law kV_law dc_law pm_law cd_law ct_law : Value} {t_BLANK t_GREAT t_LEAST t_MOST : Tok} {it_WAYS : Array Value} {n_WAYS : Nat} 
    (gc_Even : PySem.W.nsIn K mainGlobals "Even" = some (some (.ref c_Even)))
    (a1_width_of : PySem.W.nsIn K mainGlobals "width_of" = some (some (.ref p_width_of)))
    (a2_width_of : K.lookup p_width_of = some ⟨oc_width_of, od_width_of, .func (PySem.W.fnOf "width_of" "width_of" (defArgs s_width_of) (defBody s_width_of) (defScope s_width_of) .none kV_width_of dc_width_of pm_width_of an_width_of cd_width_of ct_width_of), sl_width_of⟩)
    (a3_width_of : PySem.W.codeIn K cd_width_of "width_of" = true)
    (a4_width_of : PySem.W.keepIn K (.ref p_width_of) = true)
    (a1_cells_of : PySem.W.nsIn K mainGlobals "cells_of" = some (some (.ref p_cells_of)))
    (a2_cells_of : K.lookup p_cells_of = some ⟨oc_cells_of, od_cells_of, .func (PySem.W.fnOf "cells_of" "cells_of" (defArgs s_cells_of) (defBody s_cells_of) (defScope s_cells_of) .none kV_cells_of dc_cells_of pm_cells_of an_cells_of cd_cells_of ct_cells_of), sl_cells_of⟩)
    (a3_cells_of : PySem.W.codeIn K cd_cells_of "cells_of" = true)
    (a4_cells_of : PySem.W.keepIn K (.ref p_cells_of) = true)
    (a1_bare_end : PySem.W.nsIn K mainGlobals "bare_end" = some (some (.ref p_bare_end)))
    (a2_bare_end : K.lookup p_bare_end = some ⟨oc_bare_end, od_bare_end, .func (PySem.W.fnOf "bare_end" "bare_end" (defArgs s_bare_end) (defBody s_bare_end) (defScope s_bare_end) .none kV_bare_end dc_bare_end pm_bare_end an_bare_end cd_bare_end ct_bare_end), sl_bare_end⟩)
    (a3_bare_end : PySem.W.codeIn K cd_bare_end "bare_end" = true)
    (a4_bare_end : PySem.W.keepIn K (.ref p_bare_end) = true)
    (a1_cells_between : PySem.W.nsIn K mainGlobals "cells_between" = some (some (.ref p_cells_between)))
    (a2_cells_between : K.lookup p_cells_between = some ⟨oc_cells_between, od_cells_between, .func (PySem.W.fnOf "cells_between" "cells_between" (defArgs s_cells_between) (defBody s_cells_between) (defScope s_cells_between) .none kV_cells_between dc_cells_between pm_cells_between an_cells_between cd_cells_between ct_cells_between), sl_cells_between⟩)
    (a3_cells_between : PySem.W.codeIn K cd_cells_between "cells_between" = true)
    (a4_cells_between : PySem.W.keepIn K (.ref p_cells_between) = true)
    (a1_fits : PySem.W.nsIn K mainGlobals "fits" = some (some (.ref p_fits)))
    (a2_fits : K.lookup p_fits = some ⟨oc_fits, od_fits, .func (PySem.W.fnOf "fits" "fits" (defArgs s_fits) (defBody s_fits) (defScope s_fits) .none kV_fits dc_fits pm_fits an_fits cd_fits ct_fits), sl_fits⟩)
    (a3_fits : PySem.W.codeIn K cd_fits "fits" = true)
    (a4_fits : PySem.W.keepIn K (.ref p_fits) = true)
    (a1_breaks : PySem.W.nsIn K mainGlobals "breaks" = some (some (.ref p_breaks)))
    (a2_breaks : K.lookup p_breaks = some ⟨oc_breaks, od_breaks, .func (PySem.W.fnOf "breaks" "breaks" (defArgs s_breaks) (defBody s_breaks) (defScope s_breaks) .none kV_breaks dc_breaks pm_breaks an_breaks cd_breaks ct_breaks), sl_breaks⟩)
    (a3_breaks : PySem.W.codeIn K cd_breaks "breaks" = true)
    (a4_breaks : PySem.W.keepIn K (.ref p_breaks) = true)
    (a1_taken : PySem.W.nsIn K mainGlobals "taken" = some (some (.ref p_taken)))
    (a2_taken : K.lookup p_taken = some ⟨oc_taken, od_taken, .func (PySem.W.fnOf "taken" "taken" (defArgs s_taken) (defBody s_taken) (defScope s_taken) .none kV_taken dc_taken pm_taken an_taken cd_taken ct_taken), sl_taken⟩)
    (a3_taken : PySem.W.codeIn K cd_taken "taken" = true)
    (a4_taken : PySem.W.keepIn K (.ref p_taken) = true)
    (a1_reached : PySem.W.nsIn K mainGlobals "reached" = some (some (.ref p_reached)))
    (a2_reached : K.lookup p_reached = some ⟨oc_reached, od_reached, .func (PySem.W.fnOf "reached" "reached" (defArgs s_reached) (defBody s_reached) (defScope s_reached) .none kV_reached dc_reached pm_reached an_reached cd_reached ct_reached), sl_reached⟩)
    (a3_reached : PySem.W.codeIn K cd_reached "reached" = true)
    (a4_reached : PySem.W.keepIn K (.ref p_reached) = true)
    (a1_Even_cost_between : PySem.W.findIn K (.ref c_Even) "cost_between" = some (some (.ref p_Even_cost_between)))
    (a5_Even_cost_between : PySem.W.isFn K (.ref p_Even_cost_between) = true)
    (a2_Even_cost_between : K.lookup p_Even_cost_between = some ⟨oc_Even_cost_between, od_Even_cost_between, .func (PySem.W.fnOf "cost_between" "Even.cost_between" (defArgs s_Even_cost_between) (defBody s_Even_cost_between) (defScope s_Even_cost_between) .none kV_Even_cost_between dc_Even_cost_between pm_Even_cost_between an_Even_cost_between cd_Even_cost_between ct_Even_cost_between), sl_Even_cost_between⟩)
    (a3_Even_cost_between : PySem.W.codeIn K cd_Even_cost_between "Even.cost_between" = true)
    (a4_Even_cost_between : PySem.W.keepIn K (.ref p_Even_cost_between) = true)
    (a1_Even_moves_from : PySem.W.findIn K (.ref c_Even) "moves_from" = some (some (.ref p_Even_moves_from)))
    (a5_Even_moves_from : PySem.W.isFn K (.ref p_Even_moves_from) = true)
    (a2_Even_moves_from : K.lookup p_Even_moves_from = some ⟨oc_Even_moves_from, od_Even_moves_from, .func (PySem.W.fnOf "moves_from" "Even.moves_from" (defArgs s_Even_moves_from) (defBody s_Even_moves_from) (defScope s_Even_moves_from) .none kV_Even_moves_from dc_Even_moves_from pm_Even_moves_from an_Even_moves_from cd_Even_moves_from ct_Even_moves_from), sl_Even_moves_from⟩)
    (a3_Even_moves_from : PySem.W.codeIn K cd_Even_moves_from "Even.moves_from" = true)
    (a4_Even_moves_from : PySem.W.keepIn K (.ref p_Even_moves_from) = true)
    (a1_cheapest : PySem.W.nsIn K mainGlobals "cheapest" = some (some (.ref p_cheapest)))
    (a2_cheapest : K.lookup p_cheapest = some ⟨oc_cheapest, od_cheapest, .func (PySem.W.fnOf "cheapest" "cheapest" (defArgs s_cheapest) (defBody s_cheapest) (defScope s_cheapest) .none kV_cheapest dc_cheapest pm_cheapest an_cheapest cd_cheapest ct_cheapest), sl_cheapest⟩)
    (a3_cheapest : PySem.W.codeIn K cd_cheapest "cheapest" = true)
    (a4_cheapest : PySem.W.keepIn K (.ref p_cheapest) = true)
    (a1_settle : PySem.W.nsIn K mainGlobals "settle" = some (some (.ref p_settle)))
    (a2_settle : K.lookup p_settle = some ⟨oc_settle, od_settle, .func (PySem.W.fnOf "settle" "settle" (defArgs s_settle) (defBody s_settle) (defScope s_settle) .none kV_settle dc_settle pm_settle an_settle cd_settle ct_settle), sl_settle⟩)
    (a3_settle : PySem.W.codeIn K cd_settle "settle" = true)
    (a4_settle : PySem.W.keepIn K (.ref p_settle) = true)
    (a1_Even_nodes_at : PySem.W.findIn K (.ref c_Even) "nodes_at" = some (some (.ref p_Even_nodes_at)))
    (a5_Even_nodes_at : PySem.W.isFn K (.ref p_Even_nodes_at) = true)
    (a2_Even_nodes_at : K.lookup p_Even_nodes_at = some ⟨oc_Even_nodes_at, od_Even_nodes_at, .func (PySem.W.fnOf "nodes_at" "Even.nodes_at" (defArgs s_Even_nodes_at) (defBody s_Even_nodes_at) (defScope s_Even_nodes_at) .none kV_Even_nodes_at dc_Even_nodes_at pm_Even_nodes_at an_Even_nodes_at cd_Even_nodes_at ct_Even_nodes_at), sl_Even_nodes_at⟩)
    (a3_Even_nodes_at : PySem.W.codeIn K cd_Even_nodes_at "Even.nodes_at" = true)
    (a4_Even_nodes_at : PySem.W.keepIn K (.ref p_Even_nodes_at) = true)
    (a1_Even_last_at : PySem.W.findIn K (.ref c_Even) "last_at" = some (some (.ref p_Even_last_at)))
    (a5_Even_last_at : PySem.W.isFn K (.ref p_Even_last_at) = true)
    (a2_Even_last_at : K.lookup p_Even_last_at = some ⟨oc_Even_last_at, od_Even_last_at, .func (PySem.W.fnOf "last_at" "Even.last_at" (defArgs s_Even_last_at) (defBody s_Even_last_at) (defScope s_Even_last_at) .none kV_Even_last_at dc_Even_last_at pm_Even_last_at an_Even_last_at cd_Even_last_at ct_Even_last_at), sl_Even_last_at⟩)
    (a3_Even_last_at : PySem.W.codeIn K cd_Even_last_at "Even.last_at" = true)
    (a4_Even_last_at : PySem.W.keepIn K (.ref p_Even_last_at) = true)
    (a1_Even_is_end : PySem.W.findIn K (.ref c_Even) "is_end" = some (some (.ref p_Even_is_end)))
    (a5_Even_is_end : PySem.W.isFn K (.ref p_Even_is_end) = true)
    (a2_Even_is_end : K.lookup p_Even_is_end = some ⟨oc_Even_is_end, od_Even_is_end, .func (PySem.W.fnOf "is_end" "Even.is_end" (defArgs s_Even_is_end) (defBody s_Even_is_end) (defScope s_Even_is_end) .none kV_Even_is_end dc_Even_is_end pm_Even_is_end an_Even_is_end cd_Even_is_end ct_Even_is_end), sl_Even_is_end⟩)
    (a3_Even_is_end : PySem.W.codeIn K cd_Even_is_end "Even.is_end" = true)
    (a4_Even_is_end : PySem.W.keepIn K (.ref p_Even_is_end) = true)
    (a1_priced : PySem.W.nsIn K mainGlobals "priced" = some (some (.ref p_priced)))
    (a2_priced : K.lookup p_priced = some ⟨oc_priced, od_priced, .func (PySem.W.fnOf "priced" "priced" (defArgs s_priced) (defBody s_priced) (defScope s_priced) .none kV_priced dc_priced pm_priced an_priced cd_priced ct_priced), sl_priced⟩)
    (a3_priced : PySem.W.codeIn K cd_priced "priced" = true)
    (a4_priced : PySem.W.keepIn K (.ref p_priced) = true)
    (a1_Even_init : PySem.W.findIn K (.ref c_Even) "__init__" = some (some (.ref p_Even_init)))
    (a5_Even_init : PySem.W.isFn K (.ref p_Even_init) = true)
    (a2_Even_init : K.lookup p_Even_init = some ⟨oc_Even_init, od_Even_init, .func (PySem.W.fnOf "__init__" "Even.__init__" (defArgs s_Even_init) (defBody s_Even_init) (defScope s_Even_init) .none kV_Even_init dc_Even_init pm_Even_init an_Even_init cd_Even_init ct_Even_init), sl_Even_init⟩)
    (a3_Even_init : PySem.W.codeIn K cd_Even_init "Even.__init__" = true)
    (a4_Even_init : PySem.W.keepIn K (.ref p_Even_init) = true)
    (a1_Even_first_node : PySem.W.findIn K (.ref c_Even) "first_node" = some (some (.ref p_Even_first_node)))
    (a5_Even_first_node : PySem.W.isFn K (.ref p_Even_first_node) = true)
    (a2_Even_first_node : K.lookup p_Even_first_node = some ⟨oc_Even_first_node, od_Even_first_node, .func (PySem.W.fnOf "first_node" "Even.first_node" (defArgs s_Even_first_node) (defBody s_Even_first_node) (defScope s_Even_first_node) .none kV_Even_first_node dc_Even_first_node pm_Even_first_node an_Even_first_node cd_Even_first_node ct_Even_first_node), sl_Even_first_node⟩)
    (a3_Even_first_node : PySem.W.codeIn K cd_Even_first_node "Even.first_node" = true)
    (a4_Even_first_node : PySem.W.keepIn K (.ref p_Even_first_node) = true)
    (a1_even : PySem.W.nsIn K mainGlobals "even" = some (some (.ref p_even)))
    (a2_even : K.lookup p_even = some ⟨oc_even, od_even, .func (PySem.W.fnOf "even" "even" (defArgs s_even) (defBody s_even) (defScope s_even) .none kV_even dc_even pm_even an_even cd_even ct_even), sl_even⟩)
    (a3_even : PySem.W.codeIn K cd_even "even" = true)
    (a4_even : PySem.W.keepIn K (.ref p_even) = true)
    (a1_is_wide : PySem.W.nsIn K mainGlobals "is_wide" = some (some (.ref p_is_wide)))
    (a2_is_wide : K.lookup p_is_wide = some ⟨oc_is_wide, od_is_wide, .func (PySem.W.fnOf "is_wide" "is_wide" (defArgs s_is_wide) (defBody s_is_wide) (defScope s_is_wide) .none kV_is_wide dc_is_wide pm_is_wide an_is_wide cd_is_wide ct_is_wide), sl_is_wide⟩)
    (a3_is_wide : PySem.W.codeIn K cd_is_wide "is_wide" = true)
    (a4_is_wide : PySem.W.keepIn K (.ref p_is_wide) = true)
    (a1_is_way : PySem.W.nsIn K mainGlobals "is_way" = some (some (.ref p_is_way)))
    (a2_is_way : K.lookup p_is_way = some ⟨oc_is_way, od_is_way, .func (PySem.W.fnOf "is_way" "is_way" (defArgs s_is_way) (defBody s_is_way) (defScope s_is_way) .none kV_is_way dc_is_way pm_is_way an_is_way cd_is_way ct_is_way), sl_is_way⟩)
    (a3_is_way : PySem.W.codeIn K cd_is_way "is_way" = true)
    (a4_is_way : PySem.W.keepIn K (.ref p_is_way) = true)
    (a1_line_end : PySem.W.nsIn K mainGlobals "line_end" = some (some (.ref p_line_end)))
    (a2_line_end : K.lookup p_line_end = some ⟨oc_line_end, od_line_end, .func (PySem.W.fnOf "line_end" "line_end" (defArgs s_line_end) (defBody s_line_end) (defScope s_line_end) .none kV_line_end dc_line_end pm_line_end an_line_end cd_line_end ct_line_end), sl_line_end⟩)
    (a3_line_end : PySem.W.codeIn K cd_line_end "line_end" = true)
    (a4_line_end : PySem.W.keepIn K (.ref p_line_end) = true)
    (a1_fold : PySem.W.nsIn K mainGlobals "fold" = some (some (.ref p_fold)))
    (a2_fold : K.lookup p_fold = some ⟨oc_fold, od_fold, .func (PySem.W.fnOf "fold" "fold" (defArgs s_fold) (defBody s_fold) (defScope s_fold) .none kV_fold dc_fold pm_fold an_fold cd_fold ct_fold), sl_fold⟩)
    (a3_fold : PySem.W.codeIn K cd_fold "fold" = true)
    (a4_fold : PySem.W.keepIn K (.ref p_fold) = true)
    (a1_lw_cell : PySem.W.nsIn K mainGlobals "_law_cell" = some (some (.ref p_lw_cell)))
    (a2_lw_cell : K.lookup p_lw_cell = some ⟨oc_lw_cell, od_lw_cell, .func (PySem.W.fnOf "_law_cell" "_law_cell" (defArgs s_lw_cell) (defBody s_lw_cell) (defScope s_lw_cell) .none kV_lw_cell dc_lw_cell pm_lw_cell an_lw_cell cd_lw_cell ct_lw_cell), sl_lw_cell⟩)
    (a3_lw_cell : PySem.W.codeIn K cd_lw_cell "_law_cell" = true)
    (a4_lw_cell : PySem.W.keepIn K (.ref p_lw_cell) = true)
    (a1_lw_mix : PySem.W.nsIn K mainGlobals "_law_mix" = some (some (.ref p_lw_mix)))
    (a2_lw_mix : K.lookup p_lw_mix = some ⟨oc_lw_mix, od_lw_mix, .func (PySem.W.fnOf "_law_mix" "_law_mix" (defArgs s_lw_mix) (defBody s_lw_mix) (defScope s_lw_mix) .none kV_lw_mix dc_lw_mix pm_lw_mix an_lw_mix cd_lw_mix ct_lw_mix), sl_lw_mix⟩)
    (a3_lw_mix : PySem.W.codeIn K cd_lw_mix "_law_mix" = true)
    (a4_lw_mix : PySem.W.keepIn K (.ref p_lw_mix) = true)
    (a1_lw_whole : PySem.W.nsIn K mainGlobals "_law_whole" = some (some (.ref p_lw_whole)))
    (a2_lw_whole : K.lookup p_lw_whole = some ⟨oc_lw_whole, od_lw_whole, .func (PySem.W.fnOf "_law_whole" "_law_whole" (defArgs s_lw_whole) (defBody s_lw_whole) (defScope s_lw_whole) .none kV_lw_whole dc_lw_whole pm_lw_whole an_lw_whole cd_lw_whole ct_lw_whole), sl_lw_whole⟩)
    (a3_lw_whole : PySem.W.codeIn K cd_lw_whole "_law_whole" = true)
    (a4_lw_whole : PySem.W.keepIn K (.ref p_lw_whole) = true)
    (a1_lw_stream : PySem.W.nsIn K mainGlobals "_law_stream" = some (some (.ref p_lw_stream)))
    (a2_lw_stream : K.lookup p_lw_stream = some ⟨oc_lw_stream, od_lw_stream, .func (PySem.W.fnOf "_law_stream" "_law_stream" (defArgs s_lw_stream) (defBody s_lw_stream) (defScope s_lw_stream) .none kV_lw_stream dc_lw_stream pm_lw_stream an_lw_stream cd_lw_stream ct_lw_stream), sl_lw_stream⟩)
    (a3_lw_stream : PySem.W.codeIn K cd_lw_stream "_law_stream" = true)
    (a4_lw_stream : PySem.W.keepIn K (.ref p_lw_stream) = true)
    (a1_lw_run : PySem.W.nsIn K mainGlobals "_law_run" = some (some (.ref p_lw_run)))
    (a2_lw_run : K.lookup p_lw_run = some ⟨oc_lw_run, od_lw_run, .func (PySem.W.fnOf "_law_run" "_law_run" (defArgs s_lw_run) (defBody s_lw_run) (defScope s_lw_run) .none kV_lw_run dc_lw_run pm_lw_run an_lw_run cd_lw_run ct_lw_run), sl_lw_run⟩)
    (a3_lw_run : PySem.W.codeIn K cd_lw_run "_law_run" = true)
    (a4_lw_run : PySem.W.keepIn K (.ref p_lw_run) = true)
    (a1_lw_letters : PySem.W.nsIn K mainGlobals "_law_letters" = some (some (.ref p_lw_letters)))
    (a2_lw_letters : K.lookup p_lw_letters = some ⟨oc_lw_letters, od_lw_letters, .func (PySem.W.fnOf "_law_letters" "_law_letters" (defArgs s_lw_letters) (defBody s_lw_letters) (defScope s_lw_letters) .none kV_lw_letters dc_lw_letters pm_lw_letters an_lw_letters cd_lw_letters ct_lw_letters), sl_lw_letters⟩)
    (a3_lw_letters : PySem.W.codeIn K cd_lw_letters "_law_letters" = true)
    (a4_lw_letters : PySem.W.keepIn K (.ref p_lw_letters) = true)
    (a1_lw_wide : PySem.W.nsIn K mainGlobals "_law_wide" = some (some (.ref p_lw_wide)))
    (a2_lw_wide : K.lookup p_lw_wide = some ⟨oc_lw_wide, od_lw_wide, .func (PySem.W.fnOf "_law_wide" "_law_wide" (defArgs s_lw_wide) (defBody s_lw_wide) (defScope s_lw_wide) .none kV_lw_wide dc_lw_wide pm_lw_wide an_lw_wide cd_lw_wide ct_lw_wide), sl_lw_wide⟩)
    (a3_lw_wide : PySem.W.codeIn K cd_lw_wide "_law_wide" = true)
    (a4_lw_wide : PySem.W.keepIn K (.ref p_lw_wide) = true)
    (a1_lw_trimmed : PySem.W.nsIn K mainGlobals "_law_trimmed" = some (some (.ref p_lw_trimmed)))
    (a2_lw_trimmed : K.lookup p_lw_trimmed = some ⟨oc_lw_trimmed, od_lw_trimmed, .func (PySem.W.fnOf "_law_trimmed" "_law_trimmed" (defArgs s_lw_trimmed) (defBody s_lw_trimmed) (defScope s_lw_trimmed) .none kV_lw_trimmed dc_lw_trimmed pm_lw_trimmed an_lw_trimmed cd_lw_trimmed ct_lw_trimmed), sl_lw_trimmed⟩)
    (a3_lw_trimmed : PySem.W.codeIn K cd_lw_trimmed "_law_trimmed" = true)
    (a4_lw_trimmed : PySem.W.keepIn K (.ref p_lw_trimmed) = true)
    (a1_lw_breaks : PySem.W.nsIn K mainGlobals "_law_breaks" = some (some (.ref p_lw_breaks)))
    (a2_lw_breaks : K.lookup p_lw_breaks = some ⟨oc_lw_breaks, od_lw_breaks, .func (PySem.W.fnOf "_law_breaks" "_law_breaks" (defArgs s_lw_breaks) (defBody s_lw_breaks) (defScope s_lw_breaks) .none kV_lw_breaks dc_lw_breaks pm_lw_breaks an_lw_breaks cd_lw_breaks ct_lw_breaks), sl_lw_breaks⟩)
    (a3_lw_breaks : PySem.W.codeIn K cd_lw_breaks "_law_breaks" = true)
    (a4_lw_breaks : PySem.W.keepIn K (.ref p_lw_breaks) = true)
    (a1_lw_held : PySem.W.nsIn K mainGlobals "_law_held" = some (some (.ref p_lw_held)))
    (a2_lw_held : K.lookup p_lw_held = some ⟨oc_lw_held, od_lw_held, .func (PySem.W.fnOf "_law_held" "_law_held" (defArgs s_lw_held) (defBody s_lw_held) (defScope s_lw_held) .none kV_lw_held dc_lw_held pm_lw_held an_lw_held cd_lw_held ct_lw_held), sl_lw_held⟩)
    (a3_lw_held : PySem.W.codeIn K cd_lw_held "_law_held" = true)
    (a4_lw_held : PySem.W.keepIn K (.ref p_lw_held) = true)
    (a1_lw_fewest : PySem.W.nsIn K mainGlobals "_law_fewest" = some (some (.ref p_lw_fewest)))
    (a2_lw_fewest : K.lookup p_lw_fewest = some ⟨oc_lw_fewest, od_lw_fewest, .func (PySem.W.fnOf "_law_fewest" "_law_fewest" (defArgs s_lw_fewest) (defBody s_lw_fewest) (defScope s_lw_fewest) .none kV_lw_fewest dc_lw_fewest pm_lw_fewest an_lw_fewest cd_lw_fewest ct_lw_fewest), sl_lw_fewest⟩)
    (a3_lw_fewest : PySem.W.codeIn K cd_lw_fewest "_law_fewest" = true)
    (a4_lw_fewest : PySem.W.keepIn K (.ref p_lw_fewest) = true)
    (a1_law : PySem.W.nsIn K mainGlobals "law" = some (some (.ref p_law)))
    (a2_law : K.lookup p_law = some ⟨oc_law, od_law, .func (PySem.W.fnOf "law" "law" (defArgs s_law) (defBody s_law) (defScope s_law) .none kV_law dc_law pm_law an_law cd_law ct_law), sl_law⟩)
    (a3_law : PySem.W.codeIn K cd_law "law" = true)
    (a4_law : PySem.W.keepIn K (.ref p_law) = true)
    (z_bool : PySem.W.nsIn K mainGlobals "bool" = some none)
    (z_int : PySem.W.nsIn K mainGlobals "int" = some none)
    (z_isinstance : PySem.W.nsIn K mainGlobals "isinstance" = some none)
    (z_len : PySem.W.nsIn K mainGlobals "len" = some none)
    (z_list : PySem.W.nsIn K mainGlobals "list" = some none)
    (z_max : PySem.W.nsIn K mainGlobals "max" = some none)
    (z_min : PySem.W.nsIn K mainGlobals "min" = some none)
    (z_range : PySem.W.nsIn K mainGlobals "range" = some none)
    (z_str : PySem.W.nsIn K mainGlobals "str" = some none)
    (z_sum : PySem.W.nsIn K mainGlobals "sum" = some none)
    (z_tuple : PySem.W.nsIn K mainGlobals "tuple" = some none)
    (k_BLANK : PySem.W.nsIn K mainGlobals "BLANK" = some (some (.str " " t_BLANK)))
    (k_GREAT : PySem.W.nsIn K mainGlobals "GREAT" = some (some (.str "ABCDEFGHIJKLMNOPQRSTUVWXYZ" t_GREAT)))
    (k_LEAST : PySem.W.nsIn K mainGlobals "LEAST" = some (some (.int 2 t_LEAST)))
    (k_MOST : PySem.W.nsIn K mainGlobals "MOST" = some (some (.int 40 t_MOST)))
    (k1_WAYS : PySem.W.nsIn K mainGlobals "WAYS" = some (some (.ref q_WAYS)))
    (k2_WAYS : K.lookup q_WAYS = some ⟨.type "tuple", od_WAYS, .seq it_WAYS n_WAYS, sl_WAYS⟩)
    (k5_WAYS : it_WAYS.size ≤ sizeLine)
    (k6_WAYS : Vals ([[99, 117, 116], [99, 101, 108, 108, 115], [119, 111, 114, 100, 115], [101, 118, 101, 110]].map fun s => V.str ⟨s.toArray⟩) it_WAYS.toList)
    (pg_Even : PySem.W.plainGet K c_Even Str.empty = true)
    (hd_Even : PySem.W.hasDictIn K c_Even = true)
    (po_Even : PySem.W.plainOver K c_Even = true)
    (sa_Even : PySem.W.findIn K (.ref c_Even) "__setattr__" = some (some (.builtin "object.__setattr__")))
    (na_Even_row : PySem.W.findIn K (.ref c_Even) "row" = some none)
    (na_Even_wide : PySem.W.findIn K (.ref c_Even) "wide" = some none)
    (na_Even_spots : PySem.W.findIn K (.ref c_Even) "spots" = some none)
    (mi_Even : PySem.W.makesIn K c_Even = true)
    (kc_Even : PySem.W.keepIn K (.ref c_Even) = true) :
    ∃ fd : FuncData, (∀ (s : Shared) (v : Value), BindsTo s fd ⟨[v], []⟩ [("_law_script", v)]) ∧ ∀ base : Heap, K.In base → base.Ns mainGlobals mg → FnOk l.prog w K mg base CX0 12 fa fd ["_law_script"] (spLaw K) := by
  have e := hfa.symm.trans (PySem.W.mg_of X G a1_law)
  cases e
  have Fwidth_of := fun_mk (st := s_width_of) a2_width_of a3_width_of a4_width_of
  have Fcells_of := fun_mk (st := s_cells_of) a2_cells_of a3_cells_of a4_cells_of
  have Fbare_end := fun_mk (st := s_bare_end) a2_bare_end a3_bare_end a4_bare_end
  have Fcells_between := fun_mk (st := s_cells_between) a2_cells_between a3_cells_between a4_cells_between
  have Ffits := fun_mk (st := s_fits) a2_fits a3_fits a4_fits
  have Fbreaks := fun_mk (st := s_breaks) a2_breaks a3_breaks a4_breaks
  have Ftaken := fun_mk (st := s_taken) a2_taken a3_taken a4_taken
  have Freached := fun_mk (st := s_reached) a2_reached a3_reached a4_reached
  have FEven_cost_between := fun_mk (st := s_Even_cost_between) a2_Even_cost_between a3_Even_cost_between a4_Even_cost_between
  have FEven_moves_from := fun_mk (st := s_Even_moves_from) a2_Even_moves_from a3_Even_moves_from a4_Even_moves_from
  have Fcheapest := fun_mk (st := s_cheapest) a2_cheapest a3_cheapest a4_cheapest
  have Fsettle := fun_mk (st := s_settle) a2_settle a3_settle a4_settle
  have FEven_nodes_at := fun_mk (st := s_Even_nodes_at) a2_Even_nodes_at a3_Even_nodes_at a4_Even_nodes_at
  have FEven_last_at := fun_mk (st := s_Even_last_at) a2_Even_last_at a3_Even_last_at a4_Even_last_at
  have FEven_is_end := fun_mk (st := s_Even_is_end) a2_Even_is_end a3_Even_is_end a4_Even_is_end
  have Fpriced := fun_mk (st := s_priced) a2_priced a3_priced a4_priced
  have FEven_init := fun_mk (st := s_Even_init) a2_Even_init a3_Even_init a4_Even_init
  have FEven_first_node := fun_mk (st := s_Even_first_node) a2_Even_first_node a3_Even_first_node a4_Even_first_node
  have Feven := fun_mk (st := s_even) a2_even a3_even a4_even
  have Fis_wide := fun_mk (st := s_is_wide) a2_is_wide a3_is_wide a4_is_wide
  have Fis_way := fun_mk (st := s_is_way) a2_is_way a3_is_way a4_is_way
  have Fline_end := fun_mk (st := s_line_end) a2_line_end a3_line_end a4_line_end
  have Ffold := fun_mk (st := s_fold) a2_fold a3_fold a4_fold
  have Flw_cell := fun_mk (st := s_lw_cell) a2_lw_cell a3_lw_cell a4_lw_cell
  have Flw_mix := fun_mk (st := s_lw_mix) a2_lw_mix a3_lw_mix a4_lw_mix
  have Flw_whole := fun_mk (st := s_lw_whole) a2_lw_whole a3_lw_whole a4_lw_whole
  have Flw_stream := fun_mk (st := s_lw_stream) a2_lw_stream a3_lw_stream a4_lw_stream
  have Flw_run := fun_mk (st := s_lw_run) a2_lw_run a3_lw_run a4_lw_run
  have Flw_letters := fun_mk (st := s_lw_letters) a2_lw_letters a3_lw_letters a4_lw_letters
  have Flw_wide := fun_mk (st := s_lw_wide) a2_lw_wide a3_lw_wide a4_lw_wide
  have Flw_trimmed := fun_mk (st := s_lw_trimmed) a2_lw_trimmed a3_lw_trimmed a4_lw_trimmed
  have Flw_breaks := fun_mk (st := s_lw_breaks) a2_lw_breaks a3_lw_breaks a4_lw_breaks
  have Flw_held := fun_mk (st := s_lw_held) a2_lw_held a3_lw_held a4_lw_held
  have Flw_fewest := fun_mk (st := s_lw_fewest) a2_lw_fewest a3_lw_fewest a4_lw_fewest
  have Flaw := fun_mk (st := s_law) a2_law a3_law a4_law
  let T : Tx K mg w := {
    cl := fun i => if i = 3 then c_Even else 0,
    a_width_of := p_width_of,
    d_width_of := _,
    f_width_of := Fwidth_of,
    b_width_of := Fwidth_of.binds (ps := ["sign"]) fun _ _ _ _ _ _ us hl => match us, hl with | [_], _ => rfl,
    g_width_of := PySem.W.mg_of X G a1_width_of,
    a_cells_of := p_cells_of,
    d_cells_of := _,
    f_cells_of := Fcells_of,
    b_cells_of := Fcells_of.binds (ps := ["letters"]) fun _ _ _ _ _ _ us hl => match us, hl with | [_], _ => rfl,
    g_cells_of := PySem.W.mg_of X G a1_cells_of,
    a_bare_end := p_bare_end,
    d_bare_end := _,
    f_bare_end := Fbare_end,
    b_bare_end := Fbare_end.binds (ps := ["letters", "lo", "hi"]) fun _ _ _ _ _ _ us hl => match us, hl with | [_, _, _], _ => rfl,
    g_bare_end := PySem.W.mg_of X G a1_bare_end,
    a_cells_between := p_cells_between,
    d_cells_between := _,
    f_cells_between := Fcells_between,
    b_cells_between := Fcells_between.binds (ps := ["letters", "lo", "hi"]) fun _ _ _ _ _ _ us hl => match us, hl with | [_, _, _], _ => rfl,
    g_cells_between := PySem.W.mg_of X G a1_cells_between,
    a_fits := p_fits,
    d_fits := _,
    f_fits := Ffits,
    b_fits := Ffits.binds (ps := ["letters", "lo", "hi", "wide"]) fun _ _ _ _ _ _ us hl => match us, hl with | [_, _, _, _], _ => rfl,
    g_fits := PySem.W.mg_of X G a1_fits,
    a_breaks := p_breaks,
    d_breaks := _,
    f_breaks := Fbreaks,
    b_breaks := Fbreaks.binds (ps := ["letters"]) fun _ _ _ _ _ _ us hl => match us, hl with | [_], _ => rfl,
    g_breaks := PySem.W.mg_of X G a1_breaks,
    a_taken := p_taken,
    d_taken := _,
    f_taken := Ftaken,
    b_taken := Ftaken.binds (ps := ["letters", "lo", "wide"]) fun _ _ _ _ _ _ us hl => match us, hl with | [_, _, _], _ => rfl,
    g_taken := PySem.W.mg_of X G a1_taken,
    a_reached := p_reached,
    d_reached := _,
    f_reached := Freached,
    b_reached := Freached.binds (ps := ["letters", "spots", "lo", "wide"]) fun _ _ _ _ _ _ us hl => match us, hl with | [_, _, _, _], _ => rfl,
    g_reached := PySem.W.mg_of X G a1_reached,
    a_Even_cost_between := p_Even_cost_between,
    d_Even_cost_between := _,
    f_Even_cost_between := FEven_cost_between,
    b_Even_cost_between := FEven_cost_between.binds (ps := ["self", "lo", "hi"]) fun _ _ _ _ _ _ us hl => match us, hl with | [_, _, _], _ => rfl,
    a_Even_moves_from := p_Even_moves_from,
    d_Even_moves_from := _,
    f_Even_moves_from := FEven_moves_from,
    b_Even_moves_from := FEven_moves_from.binds (ps := ["self", "node"]) fun _ _ _ _ _ _ us hl => match us, hl with | [_, _], _ => rfl,
    a_cheapest := p_cheapest,
    d_cheapest := _,
    f_cheapest := Fcheapest,
    b_cheapest := Fcheapest.binds (ps := ["trail", "prices", "node"]) fun _ _ _ _ _ _ us hl => match us, hl with | [_, _, _], _ => rfl,
    g_cheapest := PySem.W.mg_of X G a1_cheapest,
    a_settle := p_settle,
    d_settle := _,
    f_settle := Fsettle,
    b_settle := Fsettle.binds (ps := ["trail", "prices", "here"]) fun _ _ _ _ _ _ us hl => match us, hl with | [_, _, _], _ => rfl,
    g_settle := PySem.W.mg_of X G a1_settle,
    a_Even_nodes_at := p_Even_nodes_at,
    d_Even_nodes_at := _,
    f_Even_nodes_at := FEven_nodes_at,
    b_Even_nodes_at := FEven_nodes_at.binds (ps := ["self", "at"]) fun _ _ _ _ _ _ us hl => match us, hl with | [_, _], _ => rfl,
    a_Even_last_at := p_Even_last_at,
    d_Even_last_at := _,
    f_Even_last_at := FEven_last_at,
    b_Even_last_at := FEven_last_at.binds (ps := ["self"]) fun _ _ _ _ _ _ us hl => match us, hl with | [_], _ => rfl,
    a_Even_is_end := p_Even_is_end,
    d_Even_is_end := _,
    f_Even_is_end := FEven_is_end,
    b_Even_is_end := FEven_is_end.binds (ps := ["self", "node"]) fun _ _ _ _ _ _ us hl => match us, hl with | [_, _], _ => rfl,
    a_priced := p_priced,
    d_priced := _,
    f_priced := Fpriced,
    b_priced := Fpriced.binds (ps := ["trail"]) fun _ _ _ _ _ _ us hl => match us, hl with | [_], _ => rfl,
    g_priced := PySem.W.mg_of X G a1_priced,
    a_Even_init := p_Even_init,
    d_Even_init := _,
    f_Even_init := FEven_init,
    b_Even_init := FEven_init.binds (ps := ["self", "letters", "wide"]) fun _ _ _ _ _ _ us hl => match us, hl with | [_, _, _], _ => rfl,
    a_Even_first_node := p_Even_first_node,
    d_Even_first_node := _,
    f_Even_first_node := FEven_first_node,
    b_Even_first_node := FEven_first_node.binds (ps := ["self"]) fun _ _ _ _ _ _ us hl => match us, hl with | [_], _ => rfl,
    a_even := p_even,
    d_even := _,
    f_even := Feven,
    b_even := Feven.binds (ps := ["letters", "wide"]) fun _ _ _ _ _ _ us hl => match us, hl with | [_, _], _ => rfl,
    g_even := PySem.W.mg_of X G a1_even,
    a_is_wide := p_is_wide,
    d_is_wide := _,
    f_is_wide := Fis_wide,
    b_is_wide := Fis_wide.binds (ps := ["thing"]) fun _ _ _ _ _ _ us hl => match us, hl with | [_], _ => rfl,
    g_is_wide := PySem.W.mg_of X G a1_is_wide,
    a_is_way := p_is_way,
    d_is_way := _,
    f_is_way := Fis_way,
    b_is_way := Fis_way.binds (ps := ["thing"]) fun _ _ _ _ _ _ us hl => match us, hl with | [_], _ => rfl,
    g_is_way := PySem.W.mg_of X G a1_is_way,
    a_line_end := p_line_end,
    d_line_end := _,
    f_line_end := Fline_end,
    b_line_end := Fline_end.binds (ps := ["letters", "spots", "lo", "wide", "way"]) fun _ _ _ _ _ _ us hl => match us, hl with | [_, _, _, _, _], _ => rfl,
    g_line_end := PySem.W.mg_of X G a1_line_end,
    a_fold := p_fold,
    d_fold := _,
    f_fold := Ffold,
    b_fold := Ffold.binds (ps := ["letters", "wide", "way"]) fun _ _ _ _ _ _ us hl => match us, hl with | [_, _, _], _ => rfl,
    g_fold := PySem.W.mg_of X G a1_fold,
    a_lw_cell := p_lw_cell,
    d_lw_cell := _,
    f_lw_cell := Flw_cell,
    b_lw_cell := Flw_cell.binds (ps := ["_law_script", "_law_k"]) fun _ _ _ _ _ _ us hl => match us, hl with | [_, _], _ => rfl,
    g_lw_cell := PySem.W.mg_of X G a1_lw_cell,
    a_lw_mix := p_lw_mix,
    d_lw_mix := _,
    f_lw_mix := Flw_mix,
    b_lw_mix := Flw_mix.binds (ps := ["_law_cell_here", "_law_k"]) fun _ _ _ _ _ _ us hl => match us, hl with | [_, _], _ => rfl,
    g_lw_mix := PySem.W.mg_of X G a1_lw_mix,
    a_lw_whole := p_lw_whole,
    d_lw_whole := _,
    f_lw_whole := Flw_whole,
    b_lw_whole := Flw_whole.binds (ps := ["_law_found"]) fun _ _ _ _ _ _ us hl => match us, hl with | [_], _ => rfl,
    g_lw_whole := PySem.W.mg_of X G a1_lw_whole,
    a_lw_stream := p_lw_stream,
    d_lw_stream := _,
    f_lw_stream := Flw_stream,
    b_lw_stream := Flw_stream.binds (ps := ["_law_cell_here", "_law_many"]) fun _ _ _ _ _ _ us hl => match us, hl with | [_, _], _ => rfl,
    g_lw_stream := PySem.W.mg_of X G a1_lw_stream,
    a_lw_run := p_lw_run,
    d_lw_run := _,
    f_lw_run := Flw_run,
    b_lw_run := Flw_run.binds (ps := ["_law_xs"]) fun _ _ _ _ _ _ us hl => match us, hl with | [_], _ => rfl,
    g_lw_run := PySem.W.mg_of X G a1_lw_run,
    a_lw_letters := p_lw_letters,
    d_lw_letters := _,
    f_lw_letters := Flw_letters,
    b_lw_letters := Flw_letters.binds (ps := ["_law_script", "_law_at", "_law_most"]) fun _ _ _ _ _ _ us hl => match us, hl with | [_, _, _], _ => rfl,
    g_lw_letters := PySem.W.mg_of X G a1_lw_letters,
    a_lw_wide := p_lw_wide,
    d_lw_wide := _,
    f_lw_wide := Flw_wide,
    b_lw_wide := Flw_wide.binds (ps := ["_law_script"]) fun _ _ _ _ _ _ us hl => match us, hl with | [_], _ => rfl,
    g_lw_wide := PySem.W.mg_of X G a1_lw_wide,
    a_lw_trimmed := p_lw_trimmed,
    d_lw_trimmed := _,
    f_lw_trimmed := Flw_trimmed,
    b_lw_trimmed := Flw_trimmed.binds (ps := ["_law_letters_here", "_law_lo", "_law_hi"]) fun _ _ _ _ _ _ us hl => match us, hl with | [_, _, _], _ => rfl,
    g_lw_trimmed := PySem.W.mg_of X G a1_lw_trimmed,
    a_lw_breaks := p_lw_breaks,
    d_lw_breaks := _,
    f_lw_breaks := Flw_breaks,
    b_lw_breaks := Flw_breaks.binds (ps := ["_law_letters_here"]) fun _ _ _ _ _ _ us hl => match us, hl with | [_], _ => rfl,
    g_lw_breaks := PySem.W.mg_of X G a1_lw_breaks,
    a_lw_held := p_lw_held,
    d_lw_held := _,
    f_lw_held := Flw_held,
    b_lw_held := Flw_held.binds (ps := ["_law_found", "_law_letters_here", "_law_wide_here", "_law_way"]) fun _ _ _ _ _ _ us hl => match us, hl with | [_, _, _, _], _ => rfl,
    g_lw_held := PySem.W.mg_of X G a1_lw_held,
    a_lw_fewest := p_lw_fewest,
    d_lw_fewest := _,
    f_lw_fewest := Flw_fewest,
    b_lw_fewest := Flw_fewest.binds (ps := ["_law_letters_here", "_law_wide_here"]) fun _ _ _ _ _ _ us hl => match us, hl with | [_, _], _ => rfl,
    g_lw_fewest := PySem.W.mg_of X G a1_lw_fewest,
    a_law := fa,
    d_law := _,
    f_law := Flaw,
    b_law := Flaw.binds (ps := ["_law_script"]) fun _ _ _ _ _ _ us hl => match us, hl with | [_], _ => rfl,
    g_law := PySem.W.mg_of X G a1_law,
    z_bool := PySem.W.mg_none_of X G z_bool,
    z_int := PySem.W.mg_none_of X G z_int,
    z_isinstance := PySem.W.mg_none_of X G z_isinstance,
    z_len := PySem.W.mg_none_of X G z_len,
    z_list := PySem.W.mg_none_of X G z_list,
    z_max := PySem.W.mg_none_of X G z_max,
    z_min := PySem.W.mg_none_of X G z_min,
    z_range := PySem.W.mg_none_of X G z_range,
    z_str := PySem.W.mg_none_of X G z_str,
    z_sum := PySem.W.mg_none_of X G z_sum,
    z_tuple := PySem.W.mg_none_of X G z_tuple,
    k_BLANK := ⟨_, PySem.W.mg_of X G k_BLANK, _, by rfl⟩,
    k_GREAT := ⟨_, PySem.W.mg_of X G k_GREAT, _, by rfl⟩,
    k_LEAST := ⟨_, PySem.W.mg_of X G k_LEAST, _, by rfl⟩,
    k_MOST := ⟨_, PySem.W.mg_of X G k_MOST, _, by rfl⟩,
    k_WAYS := ⟨_, _, _, _, PySem.W.mg_of X G k1_WAYS, k2_WAYS, rfl, rfl, k5_WAYS, k6_WAYS⟩,
    cls_Even := ⟨pg_Even, hd_Even, po_Even, sa_Even⟩,
    gc_Even := PySem.W.mg_of X G gc_Even,
    na_Even_row := na_Even_row,
    na_Even_wide := na_Even_wide,
    na_Even_spots := na_Even_spots,
    me_Even_cost_between := ⟨a1_Even_cost_between, a5_Even_cost_between, a4_Even_cost_between⟩,
    me_Even_moves_from := ⟨a1_Even_moves_from, a5_Even_moves_from, a4_Even_moves_from⟩,
    me_Even_last_at := ⟨a1_Even_last_at, a5_Even_last_at, a4_Even_last_at⟩,
    me_Even_nodes_at := ⟨a1_Even_nodes_at, a5_Even_nodes_at, a4_Even_nodes_at⟩,
    me_Even_is_end := ⟨a1_Even_is_end, a5_Even_is_end, a4_Even_is_end⟩,
    mk_Even := ⟨mi_Even, a1_Even_init, a5_Even_init, kc_Even⟩,
    me_Even_first_node := ⟨a1_Even_first_node, a5_Even_first_node, a4_Even_first_node⟩ }
  exact ⟨PySem.W.fnOf "law" "law" (defArgs s_law) (defBody s_law) (defScope s_law) .none kV_law dc_law pm_law an_law cd_law ct_law, fun s v => .of_eq rfl, fun base _ _ => law_ok (ok_law T) LT⟩
end LW
namespace PySem.W.Fast
def tw12759103686487913586:=0
def tw4001286451409125056:=0
def tw8248013793039698483:=0
def tw15150556281650625854:=0
def tw13760561889009140934:=0
def tw1894520058844891405:=0
def tw6945027257234251874:=0
def tw16984466850790733585:=0
def tw11902599992825259364:=0
def tw818341052915925791:=0
def tw10107208796000934167:=0
def tw6239554038935207951:=0
def tw5295874919874408110:=0
def tw1631120756587066891:=0
def tw10804529055149959190:=0
def tw13603854828999721928:=0
def tw8248929098283062823:=0
def tw10669095673996940658:=0
def tw1198867807767842734:=0
def tw5037243200424109799:=0
def tw9172219193818349850:=0
def tw71455164262142603:=0
def tw5773622407336238718:=0
def tw5564088361167673564:=0
def tw3363743404685443761:=0
def tw16730067801980742504:=0
def tw15626827637386973824:=0
def tw3979121633416919440:=0
def tw11147838291064297290:=0
def tw8480387153429445798:=0
def tw17789193656758435227:=0
def tw2104402526147454422:=0
def tw6825973546590296160:=0
def tw1233775027514366209:=0
def tw15338747965113015719:=0
def tw11591712247765720585:=0
def tw13842816251572028631:=0
def tw5463920355778269000:=0
def tw10789453000274390440:=0
def tw16898063466997567043:=0
def tw12089284889827400126:=0
def tw448785497990975472:=0
def tw14060194840882690358:=0
def tw4301021782515315141:=0
def tw5273984241695212400:=0
def tw12891518133452800409:=0
def tw16567584573474123765:=0
def tw14165259753167625970:=0
def tw7844917077094782388:=0
def tw7519156303609931434:=0
def tw12977710967195843406:=0
def tw11034218888862723136:=0
def tw10849436398461408133:=0
def tw6910666389611485637:=0
def tw1625008904410405876:=0
def tw13751794355047013517:=0
def tw7471725997751910892:=0
def tw768833714564273876:=0
def tw5555609464306952131:=0
def tw11567662903753881934:=0
def tw14180003135009081171:=0
def tw9097030376227104863:=0
def tw10286974516649280885:=0
def tw252451470852713522:=0
def tw11278007307206357320:=0
def tw6844324804177089219:=0
def tw16399258272158216626:=0
def tw3973744028796286427:=0
def tw14411104078415687750:=0
def tw3040844890328403593:=0
def tw338562041145977846:=0
def tw12750698765545813890:=0
def tw3978454356812228024:=0
def tw15838719425686483689:=0
def tw13279109127896386555:=0
def tw6856521335458456218:=0
def tw6888253354734204246:=0
def tw15107693398208265205:=0
def tw12879802986607133208:=0
def tw6009399485309675014:=0
def tw5948116498069996384:=0
def tw1192548205228014287:=0
def tw13398762789960351997:=0
def tw9168010734323936142:=0
def tw1891833699032207048:=0
def tw5137620113890206046:=0
def tw1165306843331219112:=0
def tw6231060221770873405:=0
def tw15706480212119302002:=0
def tw18325194827857865555:=0
def tw2350942916082639980:=0
def tw5914468890814847164:=0
def tw2673883467030560660:=0
def tw14037936795568285253:=0
def tw7561320206470858051:=0
def tw11682140598426936475:=0
def tw2959246856898570528:=0
def tw9004803363322999500:=0
def tw15253008624011208150:=0
def tw2726180574861018532:=0
def tw6246578790745323210:=0
def tw14295560492956025243:=0
def tw15889894873791559671:=0
def tw15744538071517054502:=0
def tw3923511874005012101:=0
def tw17978398672160485116:=0
def tw11150981315974373976:=0
def tw12691099594135327493:=0
def tw1789460033585635584:=0
def tw7001063394045690617:=0
def tw17395454482820590986:=0
def tw13754283401949218627:=0
def tw1632863871644420498:=0
def tw15923109165681809899:=0
def tw5226417289496570015:=0
def tw5064541863617003259:=0
def tw10409095361837543627:=0
def tw12873984755540620410:=0
def tw13584936327544504852:=0
def tw9478180467594594633:=0
def tw5339686567394046582:=0
def tw13811666272858976918:=0
def tw1371388437023106488:=0
def tw12660402394889681344:=0
def tw991046937124727121:=0
def tw6764951811690941807:=0
def tw15281616186883559854:=0
def tw655358406904648169:=0
def tw9996975565320916229:=0
def tw13201680783818260292:=0
def tw2204310429564853402:=0
def tw3163604577126728637:=0
def tw13260343726090568119:=0
def tw11581587749087897700:=0
def tw17377698632609014113:=0
def tw15256905399415549482:=0
def tw16144500619154611015:=0
def tw9663539371758647500:=0
def tw13048211015156690998:=0
def tw6070940876876530242:=0
def tw6259400709546159923:=0
def tw17720555251069747483:=0
def tw15299830739653781763:=0
def tw7776721022597950445:=0
def tw5239565766096580049:=0
def tw13115600236812041500:=0
def tw12761152128727010594:=0
def tw338287531011637368:=0
def tw17449217545502288880:=0
def tw12653068599594434573:=0
def tw11327529890132929794:=0
def tw867198933035111541:=0
def tw15542605442702850981:=0
def tw10333427244930739139:=0
def tw9544557269566625780:=0
def tw18289306354015734412:=0
def tw2063109394321025085:=0
def tw10679541964291517830:=0
def tw17881911297213310217:=0
def tw9282735705189534775:=0
def tw15272564496068681388:=0
def tw8813703305476518064:=0
def tw16943882073472106543:=0
def tw2224964280500946913:=0
def tw15313321921942385109:=0
def tw1934245536910426054:=0
def tw3686478664497136637:=0
def tw1854582197710829398:=0
def tw5663976379154893600:=0
def tw16578033193670338817:=0
def tw17647450859978542918:=0
def tw707058022986478335:=0
def tw16171768922849183308:=0
def tw8336550795804622996:=0
def tw1216996586288753432:=0
def tw9268219483385707005:=0
def tw3257869506708889802:=0
def tw11998793049550689390:=0
def tw16044872011335723296:=0
def tw12921858107673270628:=0
def tw5761736478062866952:=0
def tw4339458234227176984:=0
def tw8115467298830148732:=0
def tw6656353705406508819:=0
def tw15155693635540727143:=0
def tw18076742850773854430:=0
def tw16799957645605402997:=0
def tw3243753962126681116:=0
def tw12502312302332323376:=0
def tw9234657330539870017:=0
def tw11657703933657012446:=0
def tw14296008761192811869:=0
def tw18137012608346680932:=0
def tw8127798877605081866:=0
def tw4040061501021247497:=0
def tw5930894755090643552:=0
def tw3859290577435099868:=0
def tw5792689042569990549:=0
def tw11177953704185284463:=0
def tw8420749928273025464:=0
def tw16701909266666678618:=0
def tw1663389878500022866:=0
def tw9508305285240526010:=0
def tw16135596091086972250:=0
def tw14253642577180398449:=0
def tw11285972311519062211:=0
def tw13310540212758598637:=0
def tw3066144681089408834:=0
def tw5452089557587966936:=0
def tw13554260143145963003:=0
def tw9512054944621093577:=0
def tw15424162229460774817:=0
def tw7637453309523150360:=0
def tw29184266530782059:=0
def tw13726687924443200419:=0
def tw16200664489629488723:=0
def tw14817594896090199372:=0
def tw4787031186235168201:=0
def tw8628304891830961057:=0
def tw18291584354538414147:=0
def tw6192783672252272303:=0
def tw6586182821422456117:=0
def tw1489657357499209754:=0
def tw15148486358192846629:=0
def tw705672966237478070:=0
def tw16844253998421061686:=0
def tw11047167188717708602:=0
def tw6444280877435945509:=0
def tw10405422936781445131:=0
def tw4928248004015777151:=0
def tw12206530562590641937:=0
def tw16601433035903483197:=0
def tw1224999964265836754:=0
def tw6471828121071016008:=0
def tw15256921975761001000:=0
def tw10083506833739607630:=0
def tw14063059293995545584:=0
def tw4757137279447566484:=0
def tw14622387607785022583:=0
def tw6555172856624176272:=0
def tw8471952987323756657:=0
def tw9693084836880042473:=0
def tw15211337566467019645:=0
def tw3013606784935295504:=0
def tw15150919104758271569:=0
def tw4390057093696558097:=0
def tw1058556643910195565:=0
def tw2666643860355501977:=0
def tw3664977226436201423:=0
def tw5598753726812724353:=0
def tw1181278399596458067:=0
def tw5857050069373552292:=0
def tw9073833023290887830:=0
def tw14742865481915767426:=0
def tw1787668303463268017:=0
def tw3923793644064104485:=0
def tw8590493313468732637:=0
def tw1284534738839524532:=0
def tw16259041642732509647:=0
def tw547930091123380721:=0
def tw18074837071333384841:=0
def tw5942683918111073384:=0
def tw15113856450386900251:=0
def tw9970932102163114251:=0
def tw16623616143754744056:=0
def tw10001417624095734713:=0
def tw2556361118322785355:=0
def tw6284773561986863032:=0
def tw17924502551818375447:=0
def tw10034067309441873491:=0
def tw11614010696035225212:=0
def tw5787719432447542946:=0
def tw16175202440372455680:=0
def tw15715557170042072744:=0
def tw4055898973286511253:=0
def tw9796706854675822375:=0
def tw12686854159977614757:=0
def tw10692670147984977686:=0
def tw17099611373925358534:=0
def tw7782185276826719904:=0
def tw9014087145421513862:=0
def tw10745660515633897031:=0
def tw13224310792624679467:=0
def tw14358052311596996125:=0
def tw18398055667356758478:=0
def tw16000093258577449446:=0
def tw14465517755250782079:=0
def tw12243659066204079160:=0
def tw5958476780449524836:=0
def tw261581284774576322:=0
def tw14181624773812906966:=0
def tw1134418602853125729:=0
def tw5630407609970249177:=0
def tw6488751223099989252:=0
def tw8062210489438543593:=0
def tw45153873087639291:=0
def tw10198307548049396646:=0
def tw9564052677601662106:=0
def tw13696752100182905571:=0
def tw6031828406145522939:=0
def tw13036023777299723598:=0
def tw17662908737828601847:=0
def tw10300941819174376936:=0
def tw1982954697746017010:=0
def tw8882829474809705955:=0
def tw7820888700644035733:=0
def tw14475008296445282422:=0
def tw5167820977032728194:=0
def tw2830792773128903373:=0
def tw8986600708411504667:=0
def tw9198350768068752448:=0
def tw17504196513226215008:=0
def tw17424535525454914790:=0
def tw13976198857019690533:=0
def tw17926842367239122360:=0
def tw11966866110733290300:=0
def tw10924132806863467094:=0
def tw9222162497440904696:=0
def tw10405076954076713291:=0
def tw17632764045201227257:=0
def tw6928642073557086233:=0
def tw17219953837094036574:=0
def tw2450634354815414763:=0
def tw12432389797996902959:=0
def tw16110374584803911190:=0
def tw13191393855981507632:=0
def tw9942437029362349328:=0
def tw12369099966617161938:=0
def tw6638244305535607040:=0
def tw9744373122470135325:=0
def tw5738837614335320194:=0
def tw859135048725339703:=0
def tw8103154701362989259:=0
def tw10030002988799197439:=0
def tw2001289417873182053:=0
def tw11853058196605287670:=0
def tw18233624883536544369:=0
def tw10483576009725600057:=0
def tw7035643710359085084:=0
def tw11573704893922578594:=0
def tw8980351492846656714:=0
def tw8877197445522867381:=0
def tw12670214766371494727:=0
def tw3171156375511468414:=0
def tw17365998603796848173:=0
def tw17656239491708485293:=0
def tw11582202017123077426:=0
def tw11720338262491110141:=0
def tw15027198840234644247:=0
def tw14384370333740951174:=0
def tw15519920202431098881:=0
def tw16691010275057309890:=0
def tw899936651012818282:=0
def tw6918086634052860362:=0
def tw18396539746819931134:=0
def tw17085717680848820185:=0
def tw11391871835314228111:=0
def tw17263628202469548035:=0
def tw840604319788125318:=0
def tw7186183859841449450:=0
def tw13538361521270902686:=0
def tw7578614677122515262:=0
def tw5544600761801445215:=0
def tw4715167404168144355:=0
def tw14552361086215112943:=0
def tw16389462646768844013:=0
def tw664106591391781003:=0
def tw10572258620732119182:=0
def tw884570502291559521:=0
def tw325559878672266796:=0
def tw17223661575591816417:=0
def tw9638260474586328192:=0
def tw5990950250395744975:=0
def tw15016813996991198683:=0
def tw14905309225271880949:=0
def tw2877896130118911094:=0
def tw11824644527113453355:=0
def tw3302998138555026222:=0
def tw1245875239797165741:=0
def tw18038373172697000862:=0
def tw15390987932725926167:=0
def tw3055114671264037054:=0
def tw1643317816680889885:=0
def tw3702281151254068916:=0
def tw1118966585942413603:=0
def tw6631309133169906278:=0
def tw7528126679028598409:=0
def tw9609933707198895071:=0
def tw2322915592263496099:=0
def tw1792423792218503535:=0
def tw1077881309737929295:=0
def tw11563209235174518574:=0
def tw12041466116072629564:=0
def tw15395328294486498825:=0
def tw9595448611806285198:=0
def tw10595360604394081437:=0
def tw1619086470163379684:=0
def tw5495008394541091521:=0
def tw15140381952321842335:=0
def tw4339106804424081527:=0
def tw18301253495561574721:=0
def tw4479606535432172751:=0
def tw5860389840889674998:=0
def tw540061131701583462:=0
def tw8242201630643329075:=0
def tw17242368465653264484:=0
def tw7318430300733399365:=0
def tw5882070986992460606:=0
def tw2743566710064523435:=0
def tw2474534290742863913:=0
def tw8609652340340293974:=0
def tw1621678527039904612:=0
def tw14134830603623697504:=0
def tw5855604653587735880:=0
def tw16970017537866690213:=0
def tw4483541866075590133:=0
def tw11283395789118603026:=0
def tw5085202263601030404:=0
def tw1121498302607577286:=0
def tw4970360882128452780:=0
def tw15710587754995514236:=0
def tw1728790086968704141:=0
def tw5442671631917691088:=0
def tw13976559001599457463:=0
def tw7106151348122552233:=0
def tw7931667928808851272:=0
def tw16668918631744778586:=0
def tw13431021688568219523:=0
def tw18375183609038476249:=0
def tw13320921278450455782:=0
def tw11574148223273984128:=0
def tw7231427699637614467:=0
def tw4416591897297492988:=0
def tw7479984641274041391:=0
def tw7484418340856263067:=0
def tw8476950562209918917:=0
def tw3038672585838196224:=0
def tw800783411669516063:=0
def tw14063196071080970254:=0
def tw16139008710436260062:=0
def tw2180711980532096260:=0
def tw9834100274879781166:=0
def tw2176988084985916052:=0
def tw9826460034824496900:=0
def tw15777715453691127235:=0
def tw5940304853999059654:=0
def tw9397671661318335614:=0
def tw15177955598475422968:=0
def tw16189691267339672201:=0
def tw3149286447954901813:=0
def tw2838707658094745036:=0
def tw7029712556472209621:=0
def tw14965234424685028533:=0
def tw692461907419511983:=0
def tw4060342457607399669:=0
def tw2389949329931492283:=0
def tw15218289033516651947:=0
def tw12993614350790862514:=0
def tw7874857001837649632:=0
def tw2669829338266934359:=0
def tw11638999999354221593:=0
def tw8219637343079156276:=0
def tw17444000796268197742:=0
def tw17603287010717057720:=0
def tw9095218988029051047:=0
def tw10482910377657190924:=0
def tw11773428582220925754:=0
def tw15611093440182313411:=0
def tw4358230368353557939:=0
def tw17135636186646020111:=0
def tw4638663728218673894:=0
def tw1044110168065660327:=0
def tw10688549953158771762:=0
def tw10396150083734258546:=0
def tw71135958181279216:=0
def tw10864038852360603739:=0
def tw10084444073861815589:=0
def tw9739844576085578645:=0
def tw9530061453478270938:=0
def tw2265914332657624692:=0
def tw5900487031646102978:=0
def tw8260030760659497157:=0
def tw2862371489404969552:=0
def tw1468236998717974201:=0
def tw6136160001037331746:=0
def tw14742478686147910998:=0
def tw1018151529879293076:=0
def tw2567328415056728627:=0
def tw9199711837976769386:=0
def tw6870076525035261092:=0
def tw6901587112600413455:=0
def tw9780212000495369374:=0
def tw11720937909278832514:=0
def tw9358968800659739318:=0
def tw12276763622033352903:=0
def tw14858008728898728783:=0
def tw2949778071549533108:=0
def tw14770250893579902105:=0
def tw12917208080935805655:=0
def tw2789969887712896414:=0
def tw9078881381030757680:=0
def tw17637546351815225798:=0
def tw3881845735686417562:=0
def tw13062912151755605699:=0
def tw13631332435350365810:=0
def tw12331648576927828443:=0
def tw421491397841614821:=0
def tw16448990680592565980:=0
def tw1418746776085814527:=0
def tw1417806834271919182:=0
def tw813624368289284853:=0
def tw8142562825561451188:=0
def tw3813057210590691595:=0
def tw2355281048089150212:=0
def tw11049177020651987811:=0
def tw16555935214978035195:=0
def tw3290263855407549755:=0
def tw11521387670090491257:=0
def tw106866611966823831:=0
def tw6078522711842840740:=0
def tw1836810404603940367:=0
def tw18407099596296565348:=0
def tw12677061386887500263:=0
def tw14630066436740683441:=0
def tw8158979708794385588:=0
def tw15703934457132738598:=0
def tw16332738879251950908:=0
def tw3103638868450611982:=0
def tw6028558178744106709:=0
def tw15992913229527032470:=0
def tw11708356532101815264:=0
def tw15318520445618736351:=0
def tw3526328532376135473:=0
def tw2273513175063771942:=0
def tw7153819136648694897:=0
def tw9594293915500621980:=0
def tw389455263231389815:=0
def tw4513489245626835661:=0
def tw18299950605821573956:=0
def tw15299932991371252523:=0
def tw2197997391991930957:=0
def tw4963426933498620390:=0
def tw7567264207456693350:=0
def tw11744796161199680200:=0
def tw15099156819459423691:=0
def tw8963747406604407655:=0
def tw15357176693409679111:=0
def tw2320208565351482030:=0
def tw17731238461981294319:=0
def tw1637315415614257271:=0
def tw5240350930093235646:=0
def tw18033242116611878314:=0
def tw9581124386794165377:=0
def tw13201614422823820133:=0
def tw11899493976470124076:=0
def tw825073245227241270:=0
def tw17727883052846986341:=0
def tw14834505077409795002:=0
def tw15522829864962918433:=0
def tw1680371717099884345:=0
def tw12037010676565474751:=0
def tw3783908461434434552:=0
def tw9648905454252585806:=0
def tw3601512481012368265:=0
def tw8793898830653197765:=0
def tw4598888119114887828:=0
def tw4346204212352315906:=0
def tw16094560688150756127:=0
def tw11872299834508423209:=0
def tw6093282917883089565:=0
def tw7533602432454938532:=0
def tw1820219740036647996:=0
def tw10505003539997832685:=0
def tw9387199382938301011:=0
def tw2563200342981684892:=0
def tw8647833348183395826:=0
def tw16291213456251484993:=0
def tw16215653247557269704:=0
def tw4104153024498710561:=0
def tw16275863993167217812:=0
def tw11375837648306274765:=0
def tw15865847271911110885:=0
def tw10040104519512039800:=0
def tw9578169311224663033:=0
def tw6857789461167364086:=0
def tw17636315628159600829:=0
def tw11622720630590084521:=0
def tw488848295806111064:=0
def tw13566910571064490158:=0
def tw17308768362168743774:=0
def tw12359203466463877280:=0
def tw4834124501185140141:=0
def tw7293089977012066713:=0
def tw11932176994580636202:=0
def tw18396915284286950718:=0
def tw6202077422194279452:=0
def tw15100760734565087519:=0
def tw14822856457818642243:=0
def tw6196142786859676011:=0
def tw10823124108549192897:=0
def tw425677476362253496:=0
def tw9987873775767231408:=0
def tw4222163606155727246:=0
def tw10598157618450419824:=0
def tw331504263814022196:=0
def tw11268189228873737690:=0
def tw4969703823412298867:=0
def tw16660360123252298796:=0
def tw12161940729081611766:=0
def tw10891273058762029973:=0
def tw8035469271995183710:=0
def tw563751192014345171:=0
def tw3567440118671822017:=0
def tw4441368064971254951:=0
def tw2537660438950593547:=0
def tw5553690851252474018:=0
def tw3181212365809034659:=0
def tw4668608177511787517:=0
def tw12914852525613482472:=0
def tw18298502281406689649:=0
def tw14589267161588205789:=0
def tw5846157545032169786:=0
def tw12607119379750842884:=0
def tw1465289532005389583:=0
def tw15437107421066359823:=0
def tw3463385150526594497:=0
def tw16371088206731506736:=0
def tw16830668088651039569:=0
def tw11430226253597080125:=0
def tw17815214275002616332:=0
def tw16342355150423478422:=0
def tw12484981277184721849:=0
def tw2067416141693320401:=0
def tw2611016483026502419:=0
def tw5482072747737865491:=0
def tw11132043927647468865:=0
def tw6005259340807446147:=0
def tw9344292942425396842:=0
def tw667510936961253:=0
def tw14550391787703351054:=0
def tw1937568522830117554:=0
def tw1546838444280252462:=0
def tw7956851063681361909:=0
def tw6907613182487890178:=0
def tw13114955780643709657:=0
def tw6171991966725589850:=0
def tw14055905229494652452:=0
def tw5458258537228817029:=0
def tw3034180493814094543:=0
def tw4080877844700440308:=0
def tw4942069970133574225:=0
def tw13231902310138211221:=0
def tw14898566075485621665:=0
def tw11019916121836208754:=0
def tw14142463339318841240:=0
def tw12873540961142420949:=0
def tw12235668867873566620:=0
def tw5912489053740695078:=0
def tw10681853700520461792:=0
def tw10200229209863554657:=0
def tw14959084632793005225:=0
def tw10806873335485990119:=0
def tw3697355333318218644:=0
def tw14572172219619209893:=0
def tw13033737489824494314:=0
def tw3100306208097124929:=0
def tw7869473277194244746:=0
def tw17830444863882650029:=0
def tw17192434344740121996:=0
def tw6853383386333124922:=0
def tw15204425094554790687:=0
def tw4396199946626127474:=0
def tw16280885887318375855:=0
def tw7553485825379726971:=0
def tw7047432012930437959:=0
def tw8624568389541941734:=0
def tw982085107088230649:=0
def tw14767329356257179995:=0
def tw6763903458245791066:=0
def tw16873620940803616343:=0
def tw497903950430817193:=0
def tw5107131514782726474:=0
def tw18245430713413585488:=0
def tw3894090310234131279:=0
def tw3579828954696466818:=0
def tw12879336189607270732:=0
def tw5704412741117973293:=0
def tw1931700440708978457:=0
def tw12200943070690043624:=0
def tw7868708818968673609:=0
def tw3072230387184352667:=0
def tw15042716125507082974:=0
def tw1322798875393719485:=0
def tw9024516468130434136:=0
def tw2369743820310490366:=0
def tw10827070503421004541:=0
def tw3424284675126308663:=0
def tw2136819674210654215:=0
def tw8165404264905516081:=0
def tw7206805671369803210:=0
def tw11602991977421117798:=0
def tw14884051376841785203:=0
def tw2437441092916267194:=0
def tw15660458729126037274:=0
def tw17599911860471493966:=0
def tw14743329964212491924:=0
def tw5927407785819721166:=0
def tw8326107610465253204:=0
def tw17995180929326151102:=0
def tw11876599541143196291:=0
def tw5143013428942248542:=0
def tw10835346693004893637:=0
def tw6497748383268857654:=0
def tw4496942002786344903:=0
def tw14186684974146969192:=0
def tw11505245984086365497:=0
def tw5808775396952637174:=0
def tw18375188567702741950:=0
def tw6781794676747480923:=0
def tw17464209780268518128:=0
def tw13873648944946397793:=0
def tw14439973753665639369:=0
def tw10443258261590616302:=0
def tw7368030834971626319:=0
def tw7493640276267188185:=0
def tw3756378192699466584:=0
def tw5229252149355529066:=0
def tw12841187770636294878:=0
def tw16159483948396406052:=0
def tw2876058145549497903:=0
def tw6340740782325440032:=0
def tw4314876868879376906:=0
def tw7323595237040380797:=0
def tw15277909573943466760:=0
def tw13304268361685047162:=0
def tw9357996505305709047:=0
def tw8506559486618460345:=0
def tw9586090348966839551:=0
def tw4229171090062783690:=0
def tw16437109313330018897:=0
def tw3396734381614326629:=0
def tw2958601433343032989:=0
def tw2918791795445944625:=0
def tw17685424131834512980:=0
def tw10482698070614011920:=0
def tw10519676379141388900:=0
def tw6191776160338039364:=0
def tw5724840147676235219:=0
def tw13092841642462402426:=0
def tw18290411309269655221:=0
def tw15770313875727406793:=0
def tw65653943655760501:=0
def tw5026679129457764111:=0
def tw2084134315954493965:=0
def tw17718588981658282500:=0
def tw17092725683795305420:=0
def tw16917183529036833235:=0
def tw16664173444736542190:=0
def tw8151646110799751656:=0
def tw10300945107547593733:=0
def tw17434380732312883524:=0
def tw3106208287489587899:=0
def tw15596495983318597518:=0
def tw14226385582403716210:=0
def tw2908081316149191024:=0
def tw516331216373959992:=0
def tw11249256447610235668:=0
def tw2813063734451036346:=0
def tw17094163800034012774:=0
def tw11659562853335283380:=0
def tw7740016676581058007:=0
def tw10809478502030491303:=0
def tw499025264595265981:=0
def tw884763206830329235:=0
def tw11141114658569367202:=0
def tw1955589195644296689:=0
def tw8757677063627519336:=0
def tw1807991419447815733:=0
def tw18275161578798750810:=0
def tw12992278304180906714:=0
def tw11418393729220318054:=0
def tw15445490288463942447:=0
def tw14672928071711669942:=0
def tw4497125996250512565:=0
def tw887138097332259665:=0
def tw8106069337107525715:=0
def tw18142736465413602642:=0
def tw926025020845094930:=0
def tw11732396282830362088:=0
def tw12891361444444549619:=0
def tw17883965436141041753:=0
def tw11890115273749026309:=0
def tw8471133713059988439:=0
def tw15894966619582848258:=0
def tw11191871923378057826:=0
def tw7407558334772565256:=0
def tw14416827611602541803:=0
def tw2163658505227912642:=0
def tw17304814769259513364:=0
def tw16408672836020098934:=0
def tw14516796928858346791:=0
def tw63275777696301760:=0
def tw12928808926779880190:=0
def tw9048333044415244776:=0
def tw6165214088907191782:=0
def tw5918578635623751145:=0
def tw9577039627183172427:=0
def tw6729993081317002921:=0
def tw7924684841255200674:=0
def tw9902964015162965868:=0
def tw636299938496869977:=0
def tw8563564526563174347:=0
def tw8862849075331363830:=0
def tw14624415570281775822:=0
def tw11946731755014659103:=0
def tw1069882014421058457:=0
def tw13047954932349221318:=0
def tw15244888645863814774:=0
def tw16185694947185202945:=0
def tw17865546784693847155:=0
def tw6558333503850167505:=0
def tw2268495581671250617:=0
def tw11335307849462561131:=0
def tw5504153595404405770:=0
def tw856291191737671110:=0
def tw4839675957119136409:=0
def tw11836710309912235066:=0
def tw6337903258931763362:=0
def tw12276985608064761773:=0
def tw3756732290528641987:=0
def tw12043017588107478643:=0
def tw13925162360014530691:=0
def tw11869821896410804881:=0
def tw11435013230011236814:=0
def tw10031481994875978915:=0
def tw951695887050968637:=0
def tw13784212779195871217:=0
def tw7876987760370445890:=0
def tw7484967381724176627:=0
def tw16064449822054162101:=0
def tw1930476710548568048:=0
def tw7847220425324496162:=0
def tw17980838718182257195:=0
def tw215616717915439322:=0
def tw4025765820751776225:=0
def tw9228475217426938122:=0
def tw2934033457924797105:=0
def tw1669548694173621886:=0
def tw10790782989601014155:=0
def tw14862675440535790288:=0
def tw9613052592450265650:=0
def tw13334481371030455546:=0
def tw5689805747459713007:=0
def tw11845636259098524371:=0
def tw2511681090807405245:=0
def tw12925378749545840185:=0
def tw15495639808506204617:=0
def tw9823965711089147744:=0
def tw9125233874678041134:=0
def tw12076705165539911147:=0
def tw13515877956029655889:=0
def tw8167108892220183009:=0
def tw1402506417748333958:=0
def tw11127274518147901603:=0
def tw12094221162720795257:=0
def tw4509987779034600045:=0
def tw9192732667736143161:=0
def tw2894196601077083063:=0
def tw16419643285736539688:=0
def tw2861349986502241471:=0
def tw13013630253412685685:=0
def tw2563945458590545764:=0
def tw2267614170232538343:=0
def tw1616428396728793297:=0
def tw7275294571133544603:=0
def tw6140775142812863553:=0
def tw6217270088397321975:=0
def tw16307249597092936016:=0
def tw6827900697884543447:=0
def tw16058699165911274928:=0
def tw11489248056594806981:=0
def tw50655031082840000:=0
def tw4943619040982041575:=0
def tw12416348247945068116:=0
def tw3246183701199176942:=0
def tw14989254776483835088:=0
def tw15837756126384841160:=0
def tw12241672397312787280:=0
def tw5098014326766021923:=0
def tw9062926181886663809:=0
def tw1351729788250829995:=0
def tw8525833569979332730:=0
def tw6114930115924437689:=0
def tw6036976247935579460:=0
def tw12892316206880129708:=0
def tw14303086280044902586:=0
def tw544822911164329309:=0
def tw15914535262954718886:=0
def tw10405265052481572805:=0
def tw3468672675420180654:=0
def tw2815017122836371212:=0
def tw1753781467842450785:=0
def tw18011889236949286801:=0
def tw17359948089669645330:=0
def tw16776451221787467759:=0
def tw10766824517152779401:=0
def tw11023428097445063901:=0
def tw14683149046652718518:=0
def tw1999586796371726741:=0
def tw12492297572589907700:=0
def tw7346413472870155227:=0
def tw10199751465864584552:=0
def tw16860100709219901607:=0
def tw13708345432019648456:=0
def tw3242014217463731328:=0
def tw10095428634887813776:=0
def tw707839209275807675:=0
def tw12196036839618321665:=0
def tw14809333609702924919:=0
def tw9712103739213531660:=0
def tw6380902785931862938:=0
def tw6528066662860619975:=0
def tw4854316609543551042:=0
def tw7534198392742558163:=0
def tw14946991123830473848:=0
def tw18341983604932489012:=0
def tw7220287235339814145:=0
def tw14960473082895902693:=0
def tw6328649164345030258:=0
def tw18252192909125748655:=0
def tw6541467749565066013:=0
def tw13082013582033601564:=0
def tw11593294610282132426:=0
def tw16586813146694582895:=0
def tw13789125475210567722:=0
def tw6359456009167060975:=0
def tw367977826830616116:=0
def tw13679984776584927487:=0
def tw450955398984329276:=0
def tw11043613309898355175:=0
def tw15679590344769810601:=0
def tw7991563539559703648:=0
def tw14561693752912869017:=0
def tw1574025689278394202:=0
def tw7341047341256611349:=0
def tw12522818646929470718:=0
def tw16321557389897146683:=0
def tw10543684968968144226:=0
def tw14274166626823129440:=0
def tw10881383512351177751:=0
def tw5110290317413031747:=0
def tw16681671762563866544:=0
def tw9705255536296737423:=0
def tw2948302530169734637:=0
def tw17177487162426856871:=0
def tw14442515220679601528:=0
def tw12755174294630033044:=0
def tw13059458542624670599:=0
def tw9980045637176648844:=0
def tw14230778862136910842:=0
def tw196362086849041688:=0
def tw6800855531141909579:=0
def tw4795416338889852669:=0
def tw6006287970141899709:=0
def tw16837582880515793451:=0
def tw2686375836640008692:=0
def tw217479212700206925:=0
def tw8809291284332471401:=0
def tw17385799073346558094:=0
def tw15142812616985381532:=0
def tw7365569105807492574:=0
def tw13926254845972349180:=0
def tw2625442307519895095:=0
def tw1297308028287132804:=0
def tw11582218398557110131:=0
def tw17709865836442114556:=0
def tw8418853794355916288:=0
def tw7296680296678238113:=0
def tw15432565948091940440:=0
def tw5562453233553986139:=0
def tw13434655934235584475:=0
def tw11679036496053319040:=0
def tw18210367345741965999:=0
def tw1030141444086430290:=0
def tw13974857783011999640:=0
def tw12225619563211066616:=0
def tw17065047166886465939:=0
def tw6382759547393561473:=0
def tw10692541098422704080:=0
def tw5197946949622286404:=0
def tw6602879941800758813:=0
def tw8086083830189567141:=0
def tw4498697164892013602:=0
def tw2880408601996553482:=0
def tw12834788546109391061:=0
def tw2860306053082180456:=0
def tw5257255810482187971:=0
def tw12339983418306596950:=0
def tw1095553419971833897:=0
def tw4031949673734301637:=0
def tw7210563289170488885:=0
def tw12061203744847535707:=0
def tw10043533963680781003:=0
def tw7790985234940967480:=0
def tw3024036009800232263:=0
def tw8206607680204527623:=0
def tw8193157364920267419:=0
def tw4680761827302335970:=0
def tw11542175007561450478:=0
def tw13601517293595867812:=0
def tw15033514319794928129:=0
def tw12712224337056873139:=0
def tw3504955759908451905:=0
def tw10930101254337802461:=0
def tw519619477412483076:=0
def tw5476996953377045539:=0
def tw94002671983540306:=0
def tw10208759614121962830:=0
def tw12829516673451537343:=0
def tw13033250507484517903:=0
def tw3952859334502656157:=0
def tw10107935942620345102:=0
def tw7245530797912621506:=0
def tw7448472961160904517:=0
def tw2233006830879553854:=0
def tw2457596875291469499:=0
def tw6509847989026258356:=0
def tw10835438455495539058:=0
def tw825711864878272204:=0
def tw4328342912111451927:=0
def tw4380757312878881983:=0
def tw13658528595666242002:=0
def tw686822244519220537:=0
def tw18395167073680339550:=0
def tw3159604493369305581:=0
def tw5954326846370642376:=0
def tw8385237527829165844:=0
def tw11992484660447689165:=0
def tw13706061194825168662:=0
def tw18230701370814502631:=0
def tw8331819653021622830:=0
def tw3603736427071681965:=0
def tw15915378083001775565:=0
def tw11405889016058567671:=0
def tw18374473614424322473:=0
def tw16871827038454738383:=0
def tw12559623240225899982:=0
def tw1672068806678057368:=0
def tw11603323309806337821:=0
def tw12807619239945187665:=0
def tw11765934448092080029:=0
def tw13405391998998360515:=0
def tw13965062458684469669:=0
def tw2365777642904853949:=0
def tw2313821236032947609:=0
def tw150746200964451291:=0
def tw17668866877596732267:=0
def tw4642483049586385345:=0
def tw14783436926069365017:=0
def tw9727332912933482815:=0
def tw10917461571810238418:=0
def tw3738025561480646863:=0
def tw2007525871251602792:=0
def tw13818377703373209390:=0
def tw1461495530249622071:=0
def tw4204517556606468758:=0
def tw7980418986718620282:=0
def tw9237721773167556092:=0
def tw4017225552007040040:=0
def tw16265645517001653352:=0
def tw10146239755292413831:=0
def tw13070301492357000415:=0
def tw14988724586216961903:=0
def tw13793510678870917976:=0
def tw14226575926136884305:=0
def tw1137457076806089438:=0
def tw17037726883516763080:=0
def tw14968361151853141144:=0
def tw3486538173931164497:=0
def tw8056190588921108625:=0
def tw3783837691609022228:=0
def tw2647795974687331774:=0
def tw14353806720585169544:=0
def tw1078559333407721532:=0
def tw5280525878038477093:=0
def tw2615962836320483537:=0
def tw16643514361020745853:=0
def tw3315298065120750686:=0
def tw10996067073350038168:=0
def tw11230769852561498822:=0
def tw15018277485960475539:=0
def tw517098462014604620:=0
def tw15580492670277465556:=0
def tw4019740269798951280:=0
def tw17043635840513216975:=0
def tw14316187585099776704:=0
def tw7344647501222588455:=0
def tw2630909711193199610:=0
def tw16560206482200521914:=0
def tw8928287158284634053:=0
def tw17986180779195922938:=0
def tw7475309312067380254:=0
def tw14522647935390135080:=0
def tw14068234640822590312:=0
def tw7732458537231517255:=0
def tw681157910835213239:=0
def tw10189622705883129103:=0
def tw9960855944506304527:=0
def tw6752113231512221752:=0
def tw14745324915609680538:=0
def tw7437011868776630896:=0
def tw5278141826610308818:=0
def tw13293081235274906703:=0
def tw1628183474011158375:=0
def tw2594393700725222424:=0
def tw16587040806731042744:=0
def tw10582646186053249202:=0
def tw13278786460041814087:=0
def tw15930000078205663685:=0
def tw9797657044105574097:=0
def tw10422568606042975323:=0
def tw475132376381230357:=0
def tw16217967080766512892:=0
def tw14618174435141062400:=0
def tw2091201016448705282:=0
def tw271570973553017225:=0
def tw6040441638154552396:=0
def tw5943020697344843917:=0
def tw17023747890686145699:=0
def tw7331717247155260551:=0
def tw17271324196027357262:=0
def tw211076314352428223:=0
def tw12598234830637217535:=0
def tw1055383289797253748:=0
def tw2477790092265151975:=0
def tw2177854547262939886:=0
def tw11085779316079848573:=0
def tw7332980611162062566:=0
def tw10788575419292400397:=0
def tw10849385227194209646:=0
def tw1856779696362927721:=0
def tw14620948942173662134:=0
def tw11660924774953936516:=0
def tw15712215161007775201:=0
def tw1790371024020667514:=0
def tw6376077869001655021:=0
def tw13042765468338833676:=0
def tw15547906559037053371:=0
def tw17151038585198908651:=0
def tw2542302797958637220:=0
def tw10927046185282657663:=0
def tw11327778879497197297:=0
def tw8451199669355849419:=0
def tw13586089773821278983:=0
def tw8149026364106390527:=0
def tw339492245394092439:=0
def tw6487813900909398341:=0
def tw5484627003684941604:=0
def tw12636010942603592979:=0
def tw12447873523406016203:=0
def tw15811335658104132958:=0
def tw13472635677754576680:=0
def tw8315317566141897535:=0
def tw18143265529576805879:=0
def tw1972080614725477410:=0
def tw16611188536105735722:=0
def tw9029983443513618376:=0
def tw11425068653593827559:=0
def tw15992286076606683713:=0
def tw9903540926359503268:=0
def tw2574220314799102719:=0
def tw17374106916317074475:=0
def tw7707385562664889750:=0
def tw17769593598585804742:=0
def tw13302278381861172586:=0
def tw11421955104901820780:=0
def tw8471080509941360642:=0
def tw15199300697230074239:=0
def tw14199399145368373296:=0
def tw2795038756240219863:=0
def tw15616331361691928702:=0
def tw9816965205226061690:=0
def tw8325974751550822211:=0
def tw6007220517373597714:=0
def tw15099988766431344327:=0
def tw12024354445619354437:=0
def tw8988326689917658885:=0
def tw1992184946645988126:=0
def tw12859112457544578571:=0
def tw13146052735548266596:=0
def tw488161862309799932:=0
def tw5734315473314046024:=0
def tw6965776002138399682:=0
def tw18153517885878781076:=0
def tw5814600239726475695:=0
def tw16874214681903339718:=0
def tw7958573884088699889:=0
def tw9744906438296160948:=0
def tw5662516808960409569:=0
def tw552449636524569563:=0
def tw933989206988768737:=0
def tw6125603603116945272:=0
def tw1988664362551925736:=0
def tw14641597720803140823:=0
def tw2431536361453243120:=0
def tw5349817498134224590:=0
def tw7135422767903066951:=0
def tw5503297312524088470:=0
def tw2380869917098994386:=0
def tw2328049354819149048:=0
def tw2891938043604035602:=0
def tw3764806807418765829:=0
def tw6571843104862203127:=0
def tw15795212010872954158:=0
def tw9708936445140878387:=0
def tw7805470742093115172:=0
def tw801064077320434957:=0
def tw1248333826085328701:=0
def tw3988486652926827335:=0
def tw18071006054360715811:=0
def tw18195540567888741727:=0
def tw894003895335225640:=0
def tw5425303337917409102:=0
def tw15828934903248959999:=0
def tw16513457135897681129:=0
def tw6143673390728584031:=0
def tw3916534173169692766:=0
def tw652542738665492807:=0
def tw7592622626517882339:=0
def tw10019946031170370437:=0
def tw1051250065466667669:=0
def tw143839373930102908:=0
def tw6353868367887377166:=0
def tw17148444357838213511:=0
def tw1405320961519941497:=0
def tw8163875653097675956:=0
def tw14079210058585409356:=0
def tw9407887891102296884:=0
def tw1857190391154932186:=0
def tw647367779300252125:=0
def tw8526183669423802848:=0
def tw17354583580341129082:=0
def tw18290885140954915049:=0
def tw1409459053779951339:=0
def tw17521520690211612530:=0
def tw3416233854509051237:=0
def tw5698716998246072322:=0
def tw15725660673842027052:=0
def tw14669729544358789263:=0
def tw17120064781954730114:=0
def tw2771331643305653446:=0
def tw14839542149375784067:=0
def tw9112671611327151640:=0
def tw15890876697194204684:=0
def tw10584624784601765761:=0
def tw3233388290912164241:=0
def tw10896549343532829542:=0
def tw11189245747036290428:=0
def tw8481991490328958137:=0
def tw4394275396508545994:=0
def tw8411819351447202376:=0
def tw16893402979981147248:=0
def tw1891375725688992575:=0
def tw12459642175721249556:=0
def tw16172788941926321846:=0
def tw8052893784324793376:=0
def tw10217730909292108065:=0
def tw3509901751377103046:=0
def tw7594418048557307313:=0
def tw14597156419296939789:=0
def tw11837844246410893945:=0
def tw13344707799672147194:=0
def tw11560435886316929353:=0
def tw1835798920030074336:=0
def tw16160230207975287032:=0
def tw360269699547951715:=0
def tw2690257326538200518:=0
def tw14038634626375116186:=0
def tw17376014389440977614:=0
def tw573010126512156384:=0
def tw17679502812695142204:=0
def tw11916343027593847569:=0
def tw1609004703337409419:=0
def tw527905151435379448:=0
def tw5596132251146548839:=0
def tw17476998804554969078:=0
def tw2885984541582503849:=0
def tw346398221732903266:=0
def tw16819318903511559208:=0
def tw15988384462180463980:=0
def tw15395761032137248305:=0
def tw4264279141092338971:=0
def tw15073786289591932802:=0
def tw4302196028332801723:=0
def tw15514549326922007066:=0
def tw13261196418301025218:=0
def tw13838027082167648112:=0
def tw5151570524722663826:=0
def tw3065371004349154145:=0
def tw12248424985606717594:=0
def tw193888389483154064:=0
def tw3859385745048430395:=0
def tw2670292432054331025:=0
def tw11264408174734143159:=0
def tw14914082348086580869:=0
def tw15492429156965197394:=0
def tw12462509082757225266:=0
def tw15645516989106631505:=0
def tw17093354158774096562:=0
def tw14703707371701546132:=0
def tw15055049582155449679:=0
def tw12955838161579749765:=0
def tw5488117847531250439:=0
def tw18210189815577323001:=0
def tw17432328148351512997:=0
def tw9318262937073284917:=0
def tw13896407142120672008:=0
def tw11096070308790609676:=0
def tw14517616491888661763:=0
def tw13604229888503097:=0
def tw10321511857301735877:=0
def tw13356614287764646565:=0
def tw6547765826001844250:=0
def tw16277506185623853865:=0
def tw13055891190375834279:=0
def tw10761341515454898281:=0
def tw9204488876400361627:=0
def tw14393412198165455168:=0
def tw9723976014603688858:=0
def tw11746577623276470931:=0
def tw15127557171729261019:=0
def tw5822699588710189017:=0
def tw10182678436556275225:=0
def tw17014524635626835827:=0
def tw15127321147799330686:=0
def tw14970846058251222594:=0
def tw6637738581130899742:=0
def tw5407606202708701851:=0
def tw13855944421168226401:=0
def tw2369318508767171141:=0
def tw842272773296157891:=0
def tw2140216640931036957:=0
def tw14051620399474175994:=0
def tw7554767961237942148:=0
def tw11344492248168876463:=0
def tw3305630846051619820:=0
def tw13795211327640711970:=0
def tw15728837378125296313:=0
def tw14537531878161192611:=0
def tw6147586173042206723:=0
def tw7177993799154583166:=0
def tw12386573453100814891:=0
def tw9254194777762750452:=0
def tw15486548389625966007:=0
def tw17053887335917806682:=0
def tw842036212647993928:=0
def tw3927325629159131512:=0
def tw14912195159697579155:=0
def tw6341179054771462281:=0
def tw17098489475932461727:=0
def tw9099691581245413728:=0
def tw12614689503500617262:=0
def tw1729299755112532980:=0
def tw9619642846241056099:=0
def tw9015712825578846681:=0
def tw7571913535246157777:=0
def tw14110424788417501341:=0
def tw15044203261872053040:=0
def tw7013032263867051293:=0
def tw15761477758600579950:=0
def tw11301527875869758928:=0
def tw3912704441514463430:=0
def tw16948026825149484997:=0
def tw13988367926436743527:=0
def tw11394986482583572264:=0
def tw11739927795010008607:=0
def tw10400325877245291114:=0
def tw16905200894666384283:=0
def tw4249011617355137214:=0
def tw5230100114096215051:=0
def tw2737289938439849462:=0
def tw563831089238253134:=0
def tw17051787054051477939:=0
def tw8125153581749313054:=0
def tw4565968266745769081:=0
def tw15112070563554810899:=0
def tw539621704952640775:=0
def tw6181527843508870883:=0
def tw8986983260589359492:=0
def tw6761894566430018536:=0
def tw5222265650690580233:=0
def tw12018116441553303184:=0
def tw11103686842360419997:=0
def tw15627166079494291775:=0
def tw14570256651420829686:=0
def tw17061846695085210743:=0
def tw9221298066590628265:=0
def tw13245531740831259638:=0
def tw10357939149733771872:=0
def tw3012659066691068231:=0
def tw9537513205792176102:=0
def tw5577666909698145662:=0
def tw10231715127712651265:=0
def tw5425174555817992424:=0
def tw7378429956042757126:=0
def tw921585473400010404:=0
def tw3652712338085915379:=0
def tw10818950381433654687:=0
def tw15871770530172339008:=0
def tw8542936812836523090:=0
def tw1644669577373615791:=0
def tw13526969286645636537:=0
def tw17501253002007936556:=0
def tw16168369175573714037:=0
def tw772077112060602887:=0
def tw16440618650836221111:=0
def tw6789649194210090265:=0
def tw11256763567218670351:=0
def tw5893448199076171871:=0
def tw15160968029077093559:=0
def tw5620521439076737103:=0
def tw1752456996928548555:=0
def tw11063139557325357655:=0
def tw8901501473001513634:=0
def tw7631654289967128685:=0
def tw4685053816882211016:=0
def tw15876343100569014513:=0
def tw5061483583565895606:=0
def tw9348859090809546092:=0
def tw2294981524718293705:=0
def tw4836903104900435741:=0
def tw14319023306392361236:=0
def tw653670443974734682:=0
def tw15239467759736737682:=0
def tw15280143377553169661:=0
def tw63741722241144293:=0
def tw1406359552436910405:=0
def tw14647838006491092233:=0
def tw15371199179439602713:=0
def tw10918985440899211414:=0
def tw803673395956899845:=0
def tw12502237126881363463:=0
def tw11356708361371633643:=0
def tw2259853875016877059:=0
def tw7153573439477844667:=0
def tw3803216031571727029:=0
def tw4640970040566032828:=0
def tw10020975231034309163:=0
def tw7614789094309971340:=0
def tw15995933550006687893:=0
def tw2433196578546789711:=0
def tw11253717783731961172:=0
def tw636800436917470783:=0
def tw16169740690906544278:=0
def tw12094132989375413788:=0
def tw1589054395068508800:=0
def tw7610740955724576260:=0
def tw10130779805604100443:=0
def tw18320661317672789330:=0
def tw5915019783149491055:=0
def tw2987520723478059277:=0
def tw1004673538978073358:=0
def tw1346746635383045466:=0
def tw10735439086068761704:=0
def tw10481744850707425004:=0
def tw8708927800887647964:=0
def tw5150429136356631916:=0
def tw8564459050701675373:=0
def tw17212367337042312218:=0
def tw4057682904080245149:=0
def tw14914508197738006263:=0
def tw13229307185247065080:=0
def tw1720474235751200611:=0
def tw12115160511472026756:=0
def tw5908140767600304756:=0
def tw4971068449907975747:=0
def tw16811294280935524458:=0
def tw2619237696541681454:=0
def tw13672347622106818055:=0
def tw8437442869702731473:=0
def tw1954215011221776640:=0
def tw6505875547355555963:=0
def tw2738376625238324861:=0
def tw5203873372670905195:=0
def tw16055374422615355830:=0
def tw706724377294253313:=0
def tw16648133250327558494:=0
def tw18291693454859315039:=0
def tw2345721825409803267:=0
def tw2540202334816342492:=0
def tw15443595425585538979:=0
def tw6957261757294732642:=0
def tw6134742894458075053:=0
def tw14363912159931231155:=0
def tw4060130857800785853:=0
def tw2528285382701017434:=0
def tw5007427745821957553:=0
def tw5745939871597504257:=0
def tw10980967266786924555:=0
def tw6218418981922290506:=0
def tw9251384128236509862:=0
def tw10818822628746404571:=0
def tw3172725741472054956:=0
def tw3361433171233622127:=0
def tw5724082594339161216:=0
def tw3926785802095816476:=0
def tw5459878262615340981:=0
def tw4607034231778170969:=0
def tw4358924993859699245:=0
def tw3877395167337757756:=0
def tw8408339886374611127:=0
def tw14535176520396139117:=0
def tw13390625747779470256:=0
def tw1331664988722793480:=0
def tw12966112764498251743:=0
def tw9919916683855131529:=0
def tw12725041066176169133:=0
def tw12208653656903533736:=0
def tw8313998335232058038:=0
def tw5849620616527938822:=0
def tw12200628804094103776:=0
def tw2855706837257256185:=0
def tw8697146578037543961:=0
def tw14359722216477983498:=0
def tw12922259157223915900:=0
def tw15719549538931283725:=0
def tw12001707446009149821:=0
def tw11360334488243768663:=0
def tw4331472584638389655:=0
def tw6924192709288556422:=0
def tw5944672357665099199:=0
def tw2739620588106340246:=0
def tw6839759280934066627:=0
def tw16291300656395524122:=0
def tw11355302269138047259:=0
def tw552587531344831941:=0
def tw15090948260265330554:=0
def tw1839251803086890267:=0
def tw12587541120144161811:=0
def tw3536509060620957524:=0
def tw3020394546164073952:=0
def tw10426360859355016560:=0
def tw1718376912612263976:=0
def tw6157531846383309693:=0
def tw5516284115265365150:=0
def tw13819220112498375856:=0
def tw10000596540480435572:=0
def tw16398859530904461980:=0
def tw7326945149897375941:=0
def tw1526729095091720158:=0
def tw2075384954756497783:=0
def tw13394380575540623738:=0
def tw5994817956341268957:=0
def tw16290660699794788977:=0
def tw2923333909140912090:=0
def tw8401839678322381336:=0
def tw16686658633401009485:=0
def tw12213260801422662379:=0
def tw2009307659412753150:=0
def tw14728247953123558198:=0
def tw4624625054362675912:=0
def tw18415154755388793906:=0
def tw13014174746207341991:=0
def tw11861607595119022368:=0
def tw7738882139569026540:=0
def tw5995642532345649843:=0
def tw10546674348818820809:=0
def tw5335287591284678900:=0
def tw9412851565495267469:=0
def tw18312970189970642182:=0
def tw13044981355754419720:=0
def tw3882065835263859821:=0
def tw13015598060461163441:=0
def tw753603332760180777:=0
def tw9952539963442552675:=0
def tw6788440670791808744:=0
def tw9689991933163388935:=0
def tw15102753395125043998:=0
def tw6494157223766817349:=0
def tw9344068258243606162:=0
def tw10733247663312606582:=0
def tw1427760502211291045:=0
def tw320307792669087268:=0
def tw156869841514098257:=0
def tw401020033086738916:=0
def tw3886452779587757737:=0
def tw15691320724609818249:=0
def tw6151038983104554949:=0
def tw13836386660921265938:=0
def tw186813784067074855:=0
def tw16937915672775740796:=0
def tw18273568952829980672:=0
def tw7275243381117698316:=0
def tw5056846560418808924:=0
def tw17229019647889544401:=0
def tw2060205321330235711:=0
def tw14112421944279504647:=0
def tw2250550991833959456:=0
def tw4540366352573107391:=0
def tw14164292762242922243:=0
def tw5641514797103873773:=0
def tw5357439798297588013:=0
def tw18124595038565048045:=0
def tw15429224474626129134:=0
def tw5622511217694778457:=0
def tw14531184862532141043:=0
def tw6330181006220687572:=0
def tw12816281812627932581:=0
def tw1714661102065224163:=0
def tw16132355386605762822:=0
def tw17144114241529604371:=0
def tw12048697678102509595:=0
def tw6533593750109009463:=0
def tw8882168806325816224:=0
def tw7964626408738402395:=0
def tw6246567204784339589:=0
def tw14847552673279304691:=0
def tw11247408384472546519:=0
def tw9916730467296256416:=0
def tw12350770992204920400:=0
def tw987559924686381149:=0
def tw17090092060089885609:=0
def tw8563689007036409714:=0
def tw14261182228559607543:=0
def tw210125415871804131:=0
def tw4734966349574331055:=0
def tw212354103250349664:=0
def tw16564009785908623506:=0
def tw3742997064998323776:=0
def tw230519877647437688:=0
def tw16326515959358683663:=0
def tw1668806246265709128:=0
def tw12774114782880603511:=0
def tw16744758217666531340:=0
def tw16828953527034496238:=0
def tw8643805931457691708:=0
def tw8121300562325807717:=0
def tw9123602744114733258:=0
def tw7922165364208912371:=0
def tw14967779922024893057:=0
def tw3633135649047733101:=0
def tw17404477854634527249:=0
def tw9338962570725729491:=0
def tw11167149326020870389:=0
def tw7945684038058251987:=0
def tw2507521552225753335:=0
def tw6793478819107734154:=0
def tw16116663063282115783:=0
def tw8108168685783321678:=0
def tw7094985725909206612:=0
def tw16919253298977208101:=0
def tw2392129389673521823:=0
def tw11829802034515838266:=0
def tw16825279213251174559:=0
def tw5787840299279562934:=0
def tw6055478718860878722:=0
def tw13040888515156898184:=0
def tw6644761036174488426:=0
def tw17834099907464700653:=0
def tw1808013111964922631:=0
def tw6686755820920222583:=0
def tw18222679299418887877:=0
def tw7886001742769111573:=0
def tw8000931850371204389:=0
def tw5795783664632184245:=0
def tw2633728043344759560:=0
def tw16644926791200021206:=0
def tw5992398605752827610:=0
def tw18236950054726182257:=0
def tw16030261809141102820:=0
def tw9384537773820016874:=0
def tw12425336868616486957:=0
def tw18068482063217323803:=0
def tw8833348263869221809:=0
def tw16897763389753307189:=0
def tw13303020986874504943:=0
def tw9376438944396272584:=0
def tw14228941890550647497:=0
def tw5588514085144427878:=0
def tw16142143522661184994:=0
def tw7024212842981201113:=0
def tw17736558201916411049:=0
def tw13938794382957831382:=0
def tw14330362591089363880:=0
def tw6395545273243479448:=0
def tw7382914097783952324:=0
def tw6815927265727815284:=0
def tw14857873756018894673:=0
def tw9250326952832026468:=0
def tw2124600533473034641:=0
def tw290204648963360045:=0
def tw9594708005171913270:=0
def tw39851907373565359:=0
def tw2408945555196040199:=0
def tw2172241913247400990:=0
def tw3699304850787634623:=0
def tw3922241312037209144:=0
def tw13314846925397645185:=0
def tw11305268247932629685:=0
def tw1022679228079950531:=0
def tw16799509263445898667:=0
def tw8964523099608590888:=0
def tw10739119372519033508:=0
def tw1313581516878202574:=0
def tw8487396741244850743:=0
def tw9039998112578784643:=0
def tw2341003983251367229:=0
def tw1803978554787100943:=0
def tw14259628236345187136:=0
def tw11715905907744937580:=0
def tw12324367516204958143:=0
def tw17491654820898549617:=0
def tw16073653348828837290:=0
def tw15155053974524395168:=0
def tw461166836563677875:=0
def tw4110443241582040166:=0
def tw11691161516219596210:=0
def tw6316133775504510923:=0
def tw7608228125847492815:=0
def tw13891268366733206339:=0
def tw1848354732860650982:=0
def tw10865199228780269305:=0
def tw12475545252146659495:=0
def tw15868796260061695560:=0
def tw6191308685905897874:=0
def tw2469516601022928039:=0
def tw83501983053932356:=0
def tw3940697144854347525:=0
def tw16761549792734782429:=0
def tw14598523399018253721:=0
def tw7915479325628943130:=0
def tw1959503472063642888:=0
def tw12450021308884246413:=0
def tw12487562574316448465:=0
def tw3559842526204774323:=0
def tw1312771823789936239:=0
def tw10211130360755329687:=0
def tw4239637887444205901:=0
def tw18139017294931497237:=0
def tw950527235593274129:=0
def tw7065602684403811531:=0
def tw6706337203941764235:=0
def tw13763116904038661680:=0
def tw8693508614759777798:=0
def tw13274767737397239084:=0
def tw9493526015393397749:=0
def tw195408045380465360:=0
def tw13030442592378510431:=0
def tw14818716912662291989:=0
def tw15351412012511728415:=0
def tw2882854145877815577:=0
def tw6290522924273951385:=0
def tw2803425530913126681:=0
def tw2546637504739417276:=0
def tw13834583954635895733:=0
def tw17515799231057421280:=0
def tw17518712542281046210:=0
def tw17550819170002623008:=0
def tw3201921550645497626:=0
def tw7561084123999423754:=0
def tw2401914085624932310:=0
def tw6423103119182073851:=0
def tw116190696752272230:=0
def tw15795519534687133971:=0
def tw15810375922433991530:=0
def tw9888219842941778478:=0
def tw9995127715890980079:=0
def tw5939704702759920801:=0
def tw15939106961996206626:=0
def tw15316690301111682118:=0
def tw14995490714085561048:=0
def tw7227745770684438841:=0
def tw15080456277941294312:=0
def tw4398261377900910481:=0
def tw16794007468148780844:=0
def tw10797047089015288700:=0
def tw1423271122668746014:=0
def tw3611465472147661734:=0
def tw16278819348264578659:=0
def tw3614424577838964084:=0
def tw16082680217863307913:=0
def tw5308711280640747805:=0
def tw4095687746197936149:=0
def tw15454633407744418438:=0
def tw1361202603910491855:=0
def tw5694017486693298628:=0
def tw13142075046091093419:=0
def tw7572881460177280070:=0
def tw6844264456684924765:=0
def tw7986095806632408096:=0
def tw16308417285226182883:=0
def tw14447622288715371108:=0
def tw11343035962513989523:=0
def tw12018055772587394970:=0
def tw3006136614692775991:=0
def tw774669060066600559:=0
def tw7683349361554908461:=0
def tw14627619155885107605:=0
def tw12045197690897493113:=0
def tw10643427347615200049:=0
def tw8372372522607109202:=0
def tw16821365512472673673:=0
def tw3152921614835806680:=0
def tw11294753469631673745:=0
def tw16292199873062644258:=0
def tw7137298033240254452:=0
def tw4324379823895491777:=0
def tw12552782286962287924:=0
def tw5048431854174765135:=0
def tw11867825757845838674:=0
def tw15373669879661010115:=0
def tw11739008798025320363:=0
def tw14232146348636242406:=0
def tw6859062002682654814:=0
def tw17199817338335241813:=0
def tw7934388349451836021:=0
def tw2706687177381776758:=0
def tw5582115411462890487:=0
def tw14187259880209083625:=0
def tw2899923686331892677:=0
def tw13451640244770186943:=0
def tw15453368771928885599:=0
def tw14871780107696035495:=0
def tw17614173877619068139:=0
def tw9724688077602520674:=0
def tw8384451341468516661:=0
def tw848417176272094189:=0
def tw15006353055962967812:=0
def tw7002414365844000463:=0
def tw2760737745557103876:=0
def tw4279859154002139414:=0
def tw14506204700564882927:=0
def tw11980686613027919894:=0
def tw15558650857887536944:=0
def tw4012621784424434588:=0
def tw2474417951169384987:=0
def tw2585830666191270139:=0
def tw7673192372778908149:=0
def tw2133813995816246977:=0
def tw6695985528141878652:=0
def tw13231069913656808092:=0
def tw1365325625580673466:=0
def tw10354341232003266636:=0
def tw4288946723104630396:=0
def tw3742694652142212891:=0
def tw10639175578051413925:=0
def tw7598884307883850740:=0
def tw10516045024182395218:=0
def tw1862837200971319414:=0
def tw11491529423531247937:=0
def tw14213276839784406864:=0
def tw2405452370558214834:=0
def tw11890360385895430792:=0
def tw16782669016249316763:=0
def tw14806948755951821660:=0
def tw1264953054794209497:=0
def tw1279687273685333584:=0
def tw4769206462698252134:=0
def tw16041206235330751758:=0
def tw7295415432598475537:=0
def tw18175042902432164268:=0
def tw14809677991626594139:=0
def tw6720479670003650111:=0
def tw17594490769051560460:=0
def tw16850910985329442303:=0
def tw16599424260641587762:=0
def tw3499917385823421907:=0
def tw1012445026852203197:=0
def tw7233680757248236924:=0
def tw11246651278188420549:=0
def tw9992261334084793610:=0
def tw15568290365506215415:=0
def tw7105442659146503445:=0
def tw17282625820584380226:=0
def tw535705842588515282:=0
def tw3533622870484664981:=0
def tw3971934866254489611:=0
def tw15870067837767128749:=0
def tw1482661909586966238:=0
def tw15949650911022937654:=0
def tw15559976898519669041:=0
def tw6602940152456844707:=0
def tw12934840795080936617:=0
def tw3787645217910405823:=0
def tw16398636848072470179:=0
def tw3043813120133250593:=0
def tw14114399172585512448:=0
def tw9612643530019444349:=0
def tw4597297329219226046:=0
def tw15862566954207335159:=0
def tw7234682894316076257:=0
def tw15147948938494594431:=0
def tw4657225035388670784:=0
def tw12012249621269015236:=0
def tw4657304429573563252:=0
def tw10180645297036845707:=0
def tw15472029779028277711:=0
def tw12012094671760035694:=0
def tw12738601588904551472:=0
def tw2166392871885818669:=0
def tw9996408098674921410:=0
def tw2346464512672167022:=0
def tw17638846353822887711:=0
def tw4011742499153315387:=0
def tw1104815989795069487:=0
def tw5783198023452778765:=0
def tw85846045340941360:=0
def tw15765804591676130860:=0
def tw4563590057714148033:=0
def tw10929038088055841794:=0
def tw1625642310639624808:=0
def tw6965230364199405344:=0
def tw4546364121373058888:=0
def tw6224611720015481430:=0
def tw10095714030098635145:=0
def tw14055631978754250141:=0
def tw3844412219675804436:=0
def tw8051183088488350156:=0
def tw4158285610200008047:=0
def tw4816496394049009150:=0
def tw120040952805380130:=0
def tw12917444853181630638:=0
def tw9417314413509104285:=0
def tw12138458121868024617:=0
def tw5752958958168284504:=0
def tw4524638548922910131:=0
def tw4429199785963183882:=0
def tw3564586042738883309:=0
def tw2585965551577829074:=0
def tw5064066748974217215:=0
def tw13587758358532154607:=0
def tw16944670753817074655:=0
def tw6632151674741521568:=0
def tw16948636800454816281:=0
def tw15923361365366644706:=0
def tw3233830821126820112:=0
def tw17280078401827012505:=0
def tw972854639920585534:=0
def tw6712158486439171691:=0
def tw12846596140806275584:=0
def tw1737665834333802890:=0
def tw13190284324969738178:=0
def tw11396819152196617274:=0
def tw14292498416174487088:=0
def tw9374933088254066089:=0
def tw11223532588019802067:=0
def tw16182342225136855677:=0
def tw9766825901390458775:=0
def tw11107306200373961154:=0
def tw7954130033865344519:=0
def tw16581985002939948354:=0
def tw13588670802678199518:=0
def tw17879662621429526980:=0
def tw10869623257566396571:=0
def tw13502036239054856968:=0
def tw11911039026579501751:=0
def tw3728102838686370916:=0
def tw10179646068575865515:=0
def tw25177104603904514:=0
def tw7579552866397656161:=0
def tw9339105808161899808:=0
def tw14249887482325056124:=0
def tw14698258220115002313:=0
def tw8670054570099219810:=0
def tw464954971770689411:=0
def tw18118181346530435072:=0
def tw2980867350641202507:=0
def tw14632905654155149515:=0
def tw1160562521653552404:=0
def tw14449987990868442232:=0
def tw4735069336756312229:=0
def tw15308126033635854623:=0
def tw13532293643629431841:=0
def tw2765749041390738648:=0
def tw3582816913795707004:=0
def tw12707844161736929364:=0
def tw17313707323055066644:=0
def tw13543036061731874537:=0
def tw10216399361890803436:=0
def tw15149420497740728042:=0
def tw6520888148996329627:=0
def tw11705468959354469282:=0
def tw1883287656322724646:=0
def tw3891564146792189452:=0
def tw5593213868701228045:=0
def tw14460394193710336741:=0
def tw14183531685854084087:=0
def tw8056925774278383163:=0
def tw5059031520301551376:=0
def tw17020527406065150436:=0
def tw10131270391733570877:=0
def tw8490044177934708601:=0
def tw2402977729140529694:=0
def tw16253308313289444271:=0
def tw10980274939866295318:=0
def tw16961072774528300836:=0
def tw7572532681553168345:=0
def tw16151282647546301432:=0
def tw4041175052668436994:=0
def tw15608158218220150613:=0
def tw7659693906980617121:=0
def tw7178868017621066006:=0
def tw8483801127795016131:=0
def tw2152358086480227193:=0
def tw4294453548517993020:=0
def tw14103856440824942671:=0
def tw7196235931082488969:=0
def tw3529339631224928420:=0
def tw14658930849417252302:=0
def tw4466288564694797368:=0
end PySem.W.Fast
open PySem PySem.W PyProof.Rows
set_option maxHeartbeats 0 in
theorem PySem.Challenge.cw_outweave_k48_whole_folded_and_joined_holds : PySem.Challenge.rw_outweave_k48_whole_folded_and_joined.Holds := by
  w_on; o_law; k_head; (case hw => w_witness2)
  k_fill
  refine L2.walk_ofB (l := PySem.Challenge.rw_outweave_k48_whole_folded_and_joined) (n := 63) (k := 12) (x := "_law_script") (CX := fun _ => L2.CX0) (sp := fun w => LI.spLaw _) rfl (by decide) rfl ⟨rfl, by decide, by decide⟩ (fun w h Y => PySem.W.kIn_of Y) ?F (fun _ _ a ns hl hb _ hS => ⟨a, ns, rfl, hS, hl, hb, fun _ => rfl⟩) (fun _ _ _ _ _ h => h)
  case F =>
    intro w mg fa h KX G hmg
    refine' LW.all_mk LW.law_true KX G hmg ?gc_Even ?a1_width_of ?a2_width_of ?a3_width_of ?a4_width_of ?a1_cells_of ?a2_cells_of ?a3_cells_of ?a4_cells_of ?a1_bare_end ?a2_bare_end ?a3_bare_end ?a4_bare_end ?a1_cells_between ?a2_cells_between ?a3_cells_between ?a4_cells_between ?a1_fits ?a2_fits ?a3_fits ?a4_fits ?a1_breaks ?a2_breaks ?a3_breaks ?a4_breaks ?a1_taken ?a2_taken ?a3_taken ?a4_taken ?a1_reached ?a2_reached ?a3_reached ?a4_reached ?a1_Even_cost_between ?a5_Even_cost_between ?a2_Even_cost_between ?a3_Even_cost_between ?a4_Even_cost_between ?a1_Even_moves_from ?a5_Even_moves_from ?a2_Even_moves_from ?a3_Even_moves_from ?a4_Even_moves_from ?a1_cheapest ?a2_cheapest ?a3_cheapest ?a4_cheapest ?a1_settle ?a2_settle ?a3_settle ?a4_settle ?a1_Even_nodes_at ?a5_Even_nodes_at ?a2_Even_nodes_at ?a3_Even_nodes_at ?a4_Even_nodes_at ?a1_Even_last_at ?a5_Even_last_at ?a2_Even_last_at ?a3_Even_last_at ?a4_Even_last_at ?a1_Even_is_end ?a5_Even_is_end ?a2_Even_is_end ?a3_Even_is_end ?a4_Even_is_end ?a1_priced ?a2_priced ?a3_priced ?a4_priced ?a1_Even_init ?a5_Even_init ?a2_Even_init ?a3_Even_init ?a4_Even_init ?a1_Even_first_node ?a5_Even_first_node ?a2_Even_first_node ?a3_Even_first_node ?a4_Even_first_node ?a1_even ?a2_even ?a3_even ?a4_even ?a1_is_wide ?a2_is_wide ?a3_is_wide ?a4_is_wide ?a1_is_way ?a2_is_way ?a3_is_way ?a4_is_way ?a1_line_end ?a2_line_end ?a3_line_end ?a4_line_end ?a1_fold ?a2_fold ?a3_fold ?a4_fold ?a1_lw_cell ?a2_lw_cell ?a3_lw_cell ?a4_lw_cell ?a1_lw_mix ?a2_lw_mix ?a3_lw_mix ?a4_lw_mix ?a1_lw_whole ?a2_lw_whole ?a3_lw_whole ?a4_lw_whole ?a1_lw_stream ?a2_lw_stream ?a3_lw_stream ?a4_lw_stream ?a1_lw_run ?a2_lw_run ?a3_lw_run ?a4_lw_run ?a1_lw_letters ?a2_lw_letters ?a3_lw_letters ?a4_lw_letters ?a1_lw_wide ?a2_lw_wide ?a3_lw_wide ?a4_lw_wide ?a1_lw_trimmed ?a2_lw_trimmed ?a3_lw_trimmed ?a4_lw_trimmed ?a1_lw_breaks ?a2_lw_breaks ?a3_lw_breaks ?a4_lw_breaks ?a1_lw_held ?a2_lw_held ?a3_lw_held ?a4_lw_held ?a1_lw_fewest ?a2_lw_fewest ?a3_lw_fewest ?a4_lw_fewest ?a1_law ?a2_law ?a3_law ?a4_law ?z_bool ?z_int ?z_isinstance ?z_len ?z_list ?z_max ?z_min ?z_range ?z_str ?z_sum ?z_tuple ?k_BLANK ?k_GREAT ?k_LEAST ?k_MOST ?k1_WAYS ?k2_WAYS ?k5_WAYS ?k6_WAYS ?pg_Even ?hd_Even ?po_Even ?sa_Even ?na_Even_row ?na_Even_wide ?na_Even_spots ?mi_Even ?kc_Even
    (case gc_Even => k_is); (case a1_width_of => k_is); (case a2_width_of => k_is); (case a3_width_of => k_is); (case a4_width_of => k_is); (case a1_cells_of => k_is); (case a2_cells_of => k_is); (case a3_cells_of => k_is); (case a4_cells_of => k_is); (case a1_bare_end => k_is); (case a2_bare_end => k_is); (case a3_bare_end => k_is); (case a4_bare_end => k_is); (case a1_cells_between => k_is); (case a2_cells_between => k_is); (case a3_cells_between => k_is); (case a4_cells_between => k_is); (case a1_fits => k_is); (case a2_fits => k_is); (case a3_fits => k_is); (case a4_fits => k_is); (case a1_breaks => k_is); (case a2_breaks => k_is); (case a3_breaks => k_is); (case a4_breaks => k_is); (case a1_taken => k_is); (case a2_taken => k_is); (case a3_taken => k_is); (case a4_taken => k_is); (case a1_reached => k_is); (case a2_reached => k_is); (case a3_reached => k_is); (case a4_reached => k_is); (case a1_Even_cost_between => k_is); (case a5_Even_cost_between => k_is); (case a2_Even_cost_between => k_is); (case a3_Even_cost_between => k_is); (case a4_Even_cost_between => k_is); (case a1_Even_moves_from => k_is); (case a5_Even_moves_from => k_is); (case a2_Even_moves_from => k_is); (case a3_Even_moves_from => k_is); (case a4_Even_moves_from => k_is); (case a1_cheapest => k_is); (case a2_cheapest => k_is); (case a3_cheapest => k_is); (case a4_cheapest => k_is); (case a1_settle => k_is); (case a2_settle => k_is); (case a3_settle => k_is); (case a4_settle => k_is); (case a1_Even_nodes_at => k_is); (case a5_Even_nodes_at => k_is); (case a2_Even_nodes_at => k_is); (case a3_Even_nodes_at => k_is); (case a4_Even_nodes_at => k_is); (case a1_Even_last_at => k_is); (case a5_Even_last_at => k_is); (case a2_Even_last_at => k_is); (case a3_Even_last_at => k_is); (case a4_Even_last_at => k_is); (case a1_Even_is_end => k_is); (case a5_Even_is_end => k_is); (case a2_Even_is_end => k_is); (case a3_Even_is_end => k_is); (case a4_Even_is_end => k_is); (case a1_priced => k_is); (case a2_priced => k_is); (case a3_priced => k_is); (case a4_priced => k_is); (case a1_Even_init => k_is); (case a5_Even_init => k_is); (case a2_Even_init => k_is); (case a3_Even_init => k_is); (case a4_Even_init => k_is); (case a1_Even_first_node => k_is); (case a5_Even_first_node => k_is); (case a2_Even_first_node => k_is); (case a3_Even_first_node => k_is); (case a4_Even_first_node => k_is); (case a1_even => k_is); (case a2_even => k_is); (case a3_even => k_is); (case a4_even => k_is); (case a1_is_wide => k_is); (case a2_is_wide => k_is); (case a3_is_wide => k_is); (case a4_is_wide => k_is); (case a1_is_way => k_is); (case a2_is_way => k_is); (case a3_is_way => k_is); (case a4_is_way => k_is); (case a1_line_end => k_is); (case a2_line_end => k_is); (case a3_line_end => k_is); (case a4_line_end => k_is); (case a1_fold => k_is); (case a2_fold => k_is); (case a3_fold => k_is); (case a4_fold => k_is); (case a1_lw_cell => k_is); (case a2_lw_cell => k_is); (case a3_lw_cell => k_is); (case a4_lw_cell => k_is); (case a1_lw_mix => k_is); (case a2_lw_mix => k_is); (case a3_lw_mix => k_is); (case a4_lw_mix => k_is); (case a1_lw_whole => k_is); (case a2_lw_whole => k_is); (case a3_lw_whole => k_is); (case a4_lw_whole => k_is); (case a1_lw_stream => k_is); (case a2_lw_stream => k_is); (case a3_lw_stream => k_is); (case a4_lw_stream => k_is); (case a1_lw_run => k_is); (case a2_lw_run => k_is); (case a3_lw_run => k_is); (case a4_lw_run => k_is); (case a1_lw_letters => k_is); (case a2_lw_letters => k_is); (case a3_lw_letters => k_is); (case a4_lw_letters => k_is); (case a1_lw_wide => k_is); (case a2_lw_wide => k_is); (case a3_lw_wide => k_is); (case a4_lw_wide => k_is); (case a1_lw_trimmed => k_is); (case a2_lw_trimmed => k_is); (case a3_lw_trimmed => k_is); (case a4_lw_trimmed => k_is); (case a1_lw_breaks => k_is); (case a2_lw_breaks => k_is); (case a3_lw_breaks => k_is); (case a4_lw_breaks => k_is); (case a1_lw_held => k_is); (case a2_lw_held => k_is); (case a3_lw_held => k_is); (case a4_lw_held => k_is); (case a1_lw_fewest => k_is); (case a2_lw_fewest => k_is); (case a3_lw_fewest => k_is); (case a4_lw_fewest => k_is); (case a1_law => k_is); (case a2_law => k_is); (case a3_law => k_is); (case a4_law => k_is); (case z_bool => k_is); (case z_int => k_is); (case z_isinstance => k_is); (case z_len => k_is); (case z_list => k_is); (case z_max => k_is); (case z_min => k_is); (case z_range => k_is); (case z_str => k_is); (case z_sum => k_is); (case z_tuple => k_is); (case k_BLANK => k_is); (case k_GREAT => k_is); (case k_LEAST => k_is); (case k_MOST => k_is); (case k1_WAYS => k_is); (case k2_WAYS => k_is); (case k5_WAYS => decide); (case k6_WAYS => repeat' (first | exact Paired.nil | exact ⟨_, rfl⟩ | exact rfl | apply Paired.cons)); (case pg_Even => k_is); (case hd_Even => k_is); (case po_Even => k_is); (case sa_Even => k_is); (case na_Even_row => k_is); (case na_Even_wide => k_is); (case na_Even_spots => k_is); (case mi_Even => k_is); (case kc_Even => k_is)


