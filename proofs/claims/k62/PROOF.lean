import PyProof.Rows.All
import Wide.All
import OpenK.AllK
import Wide.FinOn
import HandS.ForMost
import HandS.ForExc
import HandS.Wide
import HandS.EndBits
import HandS.Flow
import HandS.Style
import HandS.Zip
import HandS.Deep
import HandS.Codes
import HandS.IsInst
import HandS.FStr
import HandS.Conv
import KE.KeyNested
import HandS.TupAny
import HandS.Walk
import HandS.Dict
import PyProof.Draws
import HandS.More
import HandS.NoneIn
import KE.DatumOrd
import PyProof.Rows.RowBridgeK
import HandS.TupLen
import KE.SortData
import PyProof.Rows.StrLawsPart
import PyProof.StrLawsIn
import HandS.DictEq
import KE.KDictKeyed
import HandS.SetFor
import HandS.Iter
import KE.DataMinKey
import HandS.StrMore
import HandS.Replace
import HandS.ReplaceList
import PyProof.ToksMono
import HandS.Defaults
import HandS.Exc
import PyProof.StrLawsFirst
import KE.KEqDict
import HandS.Rev
import HandS.ExcOwn
import HandS.ExcIs
import HandS.WordsExc
import HandS.TryOnly
import HandS.ExcCtx
import HandS.HotCalls
import HandS.ExcField
import KE.KExcIs
import HandS.ExcInit
import HandS.ClsMeth
import PySem.Challenge.RW_outweave_k62_plans_refused
set_option Elab.async false
set_option synthInstance.maxSize 10000
set_option linter.all false
set_option maxRecDepth 100000
set_option exponentiation.threshold 20000
set_option maxHeartbeats 4000000
namespace LI
open PySem L2

inductive D where
  | gone
  | non
  | bl (b : Bool)
  | int (i : Int)
  | str (s : List Nat)
  | scr (ns : List Int)
  | kst (ss : List (List Nat))
  | key (ks : List Key)
  | tup (ds : List D)
  | lst (o : Bool) (ds : List D)
  | dK (o : Bool) (ks : List Key) (ds : List D)
  | dT (o : Bool) (ks : List (List Key)) (ds : List D)
  | dN (o : Bool) (ks : List NestedKey) (ds : List D)
  | obj (o : Bool) (c : Nat) (fs : List Str) (ds : List D)

abbrev FP := Addr → Nat
def one (a : Addr) : FP := fun b => if b = a then 1 else 0
def fz : FP := fun _ => 0
def fa (S T : FP) : FP := fun b => S b + T b
def Ex (H H' : Hp) : Prop := ∀ a o, H a = some o → H' a = some o
theorem Ex.refl (H : Hp) : Ex H H := fun _ _ h => h
theorem Ex.trans {H H1 H2 : Hp} (a : Ex H H1) (b : Ex H1 H2) : Ex H H2 := fun x o h => b x o (a x o h)

structure LC where
  K : PySem.W.Frag
  cl : Nat → Addr
  w : World

mutual
/-- the value is the key -/
def NkRep (K : PySem.W.Frag) (P : Hp) : NestedKey → V → Prop
  | .none, v => v = .non
  | .num i, v => v = .int i
  | .text x, v => v = .str x
  | .tup ks, v => ∃ a xs, v = .ref a ∧ SqT K P a xs ∧ NkAll K P ks xs
def NkAll (K : PySem.W.Frag) (P : Hp) : List NestedKey → List V → Prop
  | [], xs => xs = []
  | k :: ks, xs => ∃ y ys, xs = y :: ys ∧ NkRep K P k y ∧ NkAll K P ks ys
end
structure NkOk (K : PySem.W.Frag) (P : Hp) (a : Addr) (ks : List NestedKey) (bs : List Addr) : Prop where
  ne : (a == sysModules) = false
  len : ks.length = bs.length
  le : ks.length ≤ sizeLine
  nd : ks.Nodup
  at_ : ∀ p ∈ ks.zip bs, NkRep K P p.1 (.ref p.2) ∧ p.1.depth ≤ 8
abbrev DnE (w : World) : List (NestedKey × Addr × V) → List DictEntry → Prop := Paired fun p e => e.hash = p.1.hash w ∧ e.key = .ref p.2.1 ∧ RelV p.2.2 e.val
def DnObj (w : World) (l : List (NestedKey × Addr × V)) (o : Obj) : Prop := o.ExactDict ∧ ∃ es ep, o.data = .dict es ep ∧ DnE w l es.toList
def exO (a : Addr) (o : Obj) : HO := .ext fun h => h.get? a = some o
def DnAt (w : World) (H : Hp) (a : Addr) (l : List (NestedKey × Addr × V)) : Prop := ∃ o, H a = some (exO a o) ∧ DnObj w l o
theorem DnAt.of {w : World} {H H' : Hp} {a : Addr} {l : List (NestedKey × Addr × V)} (h : DnAt w H a l) (k : ∀ o, H a = some o → H' a = some o) : DnAt w H' a l := let ⟨o, h1, h2⟩ := h; ⟨o, k _ h1, h2⟩

mutual
def Rep (c : LC) (P H : Hp) : D → V → FP → Prop
  | .gone, _, S => S = fz
  | .non, v, S => v = .non ∧ S = fz
  | .bl b, v, S => v = .bl b ∧ S = fz
  | .int i, v, S => v = .int i ∧ S = fz
  | .str s, v, S => v = .str ⟨s.toArray⟩ ∧ S = fz
  | .scr ns, v, S => ∃ a, v = .ref a ∧ SqL c.K P a (ns.map V.int) ∧ S = fz
  | .kst ss, v, S => ∃ a, v = .ref a ∧ SqT c.K P a (ss.map fun s => V.str ⟨s.toArray⟩) ∧ S = fz
  | .key ks, v, S => ∃ a, v = .ref a ∧ P a = some (.tup (ks.map kV)) ∧ S = fz
  | .tup ds, v, S => ∃ a xs, v = .ref a ∧ SqT c.K P a xs ∧ RepL c P H ds xs S
  | .lst true ds, v, S => ∃ a xs T, v = .ref a ∧ H a = some (.lst xs) ∧ RepL c P H ds xs T ∧ S = fa (one a) T
  | .lst false ds, v, S => ∃ a xs, v = .ref a ∧ P a = some (.lst xs) ∧ RepL c P H ds xs S
  | .dK true ks ds, v, S => ∃ a xs T, v = .ref a ∧ H a = some (.dK (ks.zip xs)) ∧ ks.length = xs.length ∧ RepL c P H ds xs T ∧ S = fa (one a) T
  | .dK false ks ds, v, S => ∃ a xs, v = .ref a ∧ P a = some (.dK (ks.zip xs)) ∧ ks.length = xs.length ∧ RepL c P H ds xs S
  | .dT true ks ds, v, S => ∃ a xs T, v = .ref a ∧ H a = some (.dT (ks.zip xs)) ∧ ks.length = xs.length ∧ RepL c P H ds xs T ∧ S = fa (one a) T
  | .dT false ks ds, v, S => ∃ a xs, v = .ref a ∧ P a = some (.dT (ks.zip xs)) ∧ ks.length = xs.length ∧ RepL c P H ds xs S
  | .dN true ks ds, v, S => ∃ a bs xs T, v = .ref a ∧ DnAt c.w H a (ks.zip (bs.zip xs)) ∧ NkOk c.K P a ks bs ∧ ks.length = xs.length ∧ RepL c P H ds xs T ∧ S = fa (one a) T
  | .dN false ks ds, v, S => ∃ a bs xs, v = .ref a ∧ DnAt c.w P a (ks.zip (bs.zip xs)) ∧ NkOk c.K P a ks bs ∧ ks.length = xs.length ∧ RepL c P H ds xs S
  | .obj true k fs ds, v, S => ∃ a dx xs T, v = .ref a ∧ H a = some (.ins (c.cl k) dx (fs.zip xs)) ∧ fs.length = xs.length ∧ RepL c P H ds xs T ∧ S = fa (one a) T
  | .obj false k fs ds, v, S => ∃ a dx xs, v = .ref a ∧ P a = some (.ins (c.cl k) dx (fs.zip xs)) ∧ fs.length = xs.length ∧ RepL c P H ds xs S
def RepL (c : LC) (P H : Hp) : List D → List V → FP → Prop
  | [], xs, S => xs = [] ∧ S = fz
  | d :: ds, xs, S => ∃ y ys T U, xs = y :: ys ∧ Rep c P H d y T ∧ RepL c P H ds ys U ∧ S = fa T U
end
mutual
/-- nothing in it is owned -/
def frz : D → Bool
  | .tup ds => frzL ds
  | .lst o ds => !o && frzL ds
  | .dK o _ ds => !o && frzL ds
  | .dT o _ ds => !o && frzL ds
  | .dN o _ ds => !o && frzL ds
  | .obj o _ _ ds => !o && frzL ds
  | _ => true
def frzL : List D → Bool
  | [] => true
  | d :: ds => frz d && frzL ds
end
mutual
/-- the same, owned by none -/
def ice : D → D
  | .tup ds => .tup (iceL ds)
  | .lst _ ds => .lst false (iceL ds)
  | .dK _ ks ds => .dK false ks (iceL ds)
  | .dT _ ks ds => .dT false ks (iceL ds)
  | .dN _ ks ds => .dN false ks (iceL ds)
  | .obj _ k fs ds => .obj false k fs (iceL ds)
  | d => d
def iceL : List D → List D
  | [] => []
  | d :: ds => ice d :: iceL ds
end
mutual
/-- no list, dict or instance in it that is frozen -/
def noIce : D → Bool
  | .scr _ => false
  | .tup ds => noIceL ds
  | .lst o ds => o && noIceL ds
  | .dK o _ ds => o && noIceL ds
  | .dT o _ ds => o && noIceL ds
  | .dN o _ ds => o && noIceL ds
  | .obj o _ _ ds => o && noIceL ds
  | _ => true
def noIceL : List D → Bool
  | [] => true
  | d :: ds => noIce d && noIceL ds
end
theorem fa_fz (S : FP) : fa S fz = S := by funext b; simp [fa, fz]
theorem fz_fa (S : FP) : fa fz S = S := by funext b; simp [fa, fz]

theorem sqt_mono {K : PySem.W.Frag} {H H' : Hp} {a : Addr} {xs : List V} (e : Ex H H') (h : SqT K H a xs) : SqT K H' a xs := by
  rcases h with (h | ⟨o, h⟩) | h
  · exact .inl (.inl (e _ _ h))
  · exact .inl (.inr ⟨o, e _ _ h⟩)
  · exact .inr h
theorem sql_mono {K : PySem.W.Frag} {H H' : Hp} {a : Addr} {xs : List V} (e : Ex H H') (h : SqL K H a xs) : SqL K H' a xs := by
  rcases h with (h | ⟨o, h⟩) | h
  · exact .inl (.inl (e _ _ h))
  · exact .inl (.inr ⟨o, e _ _ h⟩)
  · exact .inr h

mutual
theorem NkRep.mono {K : PySem.W.Frag} {P P' : Hp} (e : ∀ (a : Addr) (xs : List V), SqT K P a xs → SqT K P' a xs) : ∀ (k : NestedKey) (v : V), NkRep K P k v → NkRep K P' k v
  | .none, v, h => h
  | .num _, v, h => h
  | .text _, v, h => h
  | .tup ks, v, ⟨a, xs, h1, h2, h3⟩ => ⟨a, xs, h1, e a xs h2, NkAll.mono e ks xs h3⟩
theorem NkAll.mono {K : PySem.W.Frag} {P P' : Hp} (e : ∀ (a : Addr) (xs : List V), SqT K P a xs → SqT K P' a xs) : ∀ (ks : List NestedKey) (vs : List V), NkAll K P ks vs → NkAll K P' ks vs
  | [], vs, h => h
  | k :: ks, vs, ⟨y, ys, h1, h2, h3⟩ => ⟨y, ys, h1, NkRep.mono e k y h2, NkAll.mono e ks ys h3⟩
end
theorem NkOk.mono {K : PySem.W.Frag} {P P' : Hp} {a : Addr} {ks : List NestedKey} {bs : List Addr} (h : NkOk K P a ks bs) (e : ∀ (a : Addr) (xs : List V), SqT K P a xs → SqT K P' a xs) : NkOk K P' a ks bs :=
  ⟨h.ne, h.len, h.le, h.nd, fun p hp => ⟨NkRep.mono e _ _ (h.at_ p hp).1, (h.at_ p hp).2⟩⟩
mutual
theorem Rep.mono {c : LC} {P H P' H' : Hp} (eP : Ex P P') : ∀ (d : D) (v : V) (S : FP), (∀ a o, 0 < S a → H a = some o → H' a = some o) → Rep c P H d v S → Rep c P' H' d v S
  | .gone, v, S, _, h => h
  | .non, v, S, _, h => h
  | .bl _, v, S, _, h => h
  | .int _, v, S, _, h => h
  | .str _, v, S, _, h => h
  | .scr ns, v, S, k, ⟨a, e, q, z⟩ => ⟨a, e, sql_mono eP q, z⟩
  | .kst ss, v, S, k, ⟨a, e, q, z⟩ => ⟨a, e, sqt_mono eP q, z⟩
  | .key ks, v, S, k, ⟨a, e, q, z⟩ => ⟨a, e, eP _ _ q, z⟩
  | .tup ds, v, S, k, ⟨a, xs, e, q, r⟩ => ⟨a, xs, e, sqt_mono eP q, RepL.mono eP ds xs S k r⟩
  | .lst true ds, v, S, k, ⟨a, xs, T, e, q, r, f⟩ => ⟨a, xs, T, e, k _ _ (by rw [f]; simp [fa, one]; omega) q, RepL.mono eP ds xs T (fun b o hb => k b o (by rw [f]; simp only [fa]; omega)) r, f⟩
  | .lst false ds, v, S, k, ⟨a, xs, e, q, r⟩ => ⟨a, xs, e, eP _ _ q, RepL.mono eP ds xs S k r⟩
  | .dK true ks ds, v, S, k, ⟨a, xs, T, e, q, n, r, f⟩ => ⟨a, xs, T, e, k _ _ (by rw [f]; simp [fa, one]; omega) q, n, RepL.mono eP ds xs T (fun b o hb => k b o (by rw [f]; simp only [fa]; omega)) r, f⟩
  | .dK false ks ds, v, S, k, ⟨a, xs, e, q, n, r⟩ => ⟨a, xs, e, eP _ _ q, n, RepL.mono eP ds xs S k r⟩
  | .dT true ks ds, v, S, k, ⟨a, xs, T, e, q, n, r, f⟩ => ⟨a, xs, T, e, k _ _ (by rw [f]; simp [fa, one]; omega) q, n, RepL.mono eP ds xs T (fun b o hb => k b o (by rw [f]; simp only [fa]; omega)) r, f⟩
  | .dT false ks ds, v, S, k, ⟨a, xs, e, q, n, r⟩ => ⟨a, xs, e, eP _ _ q, n, RepL.mono eP ds xs S k r⟩
  | .dN true ks ds, v, S, k, ⟨a, bs, xs, T, e, q, z, n, r, f⟩ => ⟨a, bs, xs, T, e, q.of fun o h => k a o (by rw [f]; simp [fa, one]; omega) h, z.mono fun _ _ => sqt_mono eP, n, RepL.mono eP ds xs T (fun b o hb => k b o (by rw [f]; simp only [fa]; omega)) r, f⟩
  | .dN false ks ds, v, S, k, ⟨a, bs, xs, e, q, z, n, r⟩ => ⟨a, bs, xs, e, q.of fun o h => eP a o h, z.mono fun _ _ => sqt_mono eP, n, RepL.mono eP ds xs S k r⟩
  | .obj true _ fs ds, v, S, k, ⟨a, dx, xs, T, e, q, n, r, f⟩ => ⟨a, dx, xs, T, e, k _ _ (by rw [f]; simp [fa, one]; omega) q, n, RepL.mono eP ds xs T (fun b o hb => k b o (by rw [f]; simp only [fa]; omega)) r, f⟩
  | .obj false _ fs ds, v, S, k, ⟨a, dx, xs, e, q, n, r⟩ => ⟨a, dx, xs, e, eP _ _ q, n, RepL.mono eP ds xs S k r⟩
theorem RepL.mono {c : LC} {P H P' H' : Hp} (eP : Ex P P') : ∀ (ds : List D) (xs : List V) (S : FP), (∀ a o, 0 < S a → H a = some o → H' a = some o) → RepL c P H ds xs S → RepL c P' H' ds xs S
  | [], xs, S, _, h => h
  | d :: ds, xs, S, k, ⟨y, ys, T, U, e, r, rs, f⟩ => ⟨y, ys, T, U, e, Rep.mono eP d y T (fun b o hb => k b o (by rw [f]; simp only [fa]; omega)) r, RepL.mono eP ds ys U (fun b o hb => k b o (by rw [f]; simp only [fa]; omega)) rs, f⟩
end
mutual
theorem Rep.frz0 {c : LC} {P H : Hp} : ∀ (d : D) (v : V) (S : FP), frz d = true → Rep c P H d v S → S = fz
  | .gone, v, S, _, h => h
  | .non, v, S, _, h => h.2
  | .bl _, v, S, _, h => h.2
  | .int _, v, S, _, h => h.2
  | .str _, v, S, _, h => h.2
  | .scr ns, v, S, k, ⟨a, e, q, z⟩ => z
  | .kst ss, v, S, k, ⟨a, e, q, z⟩ => z
  | .key ks, v, S, k, ⟨a, e, q, z⟩ => z
  | .tup ds, v, S, k, ⟨a, xs, e, q, r⟩ => RepL.frz0 ds xs S k r
  | .lst true ds, v, S, k, _ => by simp [frz] at k
  | .lst false ds, v, S, k, ⟨a, xs, e, q, r⟩ => RepL.frz0 ds xs S (by simpa [frz] using k) r
  | .dK true ks ds, v, S, k, _ => by simp [frz] at k
  | .dK false ks ds, v, S, k, ⟨a, xs, e, q, n, r⟩ => RepL.frz0 ds xs S (by simpa [frz] using k) r
  | .dT true ks ds, v, S, k, _ => by simp [frz] at k
  | .dT false ks ds, v, S, k, ⟨a, xs, e, q, n, r⟩ => RepL.frz0 ds xs S (by simpa [frz] using k) r
  | .dN true ks ds, v, S, k, _ => by simp [frz] at k
  | .dN false ks ds, v, S, k, ⟨a, bs, xs, e, q, z, n, r⟩ => RepL.frz0 ds xs S (by simpa [frz] using k) r
  | .obj true _ fs ds, v, S, k, _ => by simp [frz] at k
  | .obj false _ fs ds, v, S, k, ⟨a, dx, xs, e, q, n, r⟩ => RepL.frz0 ds xs S (by simpa [frz] using k) r
theorem RepL.frz0 {c : LC} {P H : Hp} : ∀ (ds : List D) (xs : List V) (S : FP), frzL ds = true → RepL c P H ds xs S → S = fz
  | [], xs, S, _, h => h.2
  | d :: ds, xs, S, k, ⟨y, ys, T, U, e, r, rs, f⟩ => by
    simp only [frzL, Bool.and_eq_true] at k
    rw [f, Rep.frz0 d y T k.1 r, RepL.frz0 ds ys U k.2 rs, fa_fz]
end
mutual
theorem Rep.ice {c : LC} {P H P' H' : Hp} (eP : Ex P P') : ∀ (d : D) (v : V) (S : FP), (∀ a o, 0 < S a → H a = some o → P' a = some o) → Rep c P H d v S → Rep c P' H' (ice d) v fz
  | .gone, v, S, _, h => rfl
  | .non, v, S, _, h => ⟨h.1, rfl⟩
  | .bl _, v, S, _, h => ⟨h.1, rfl⟩
  | .int _, v, S, _, h => ⟨h.1, rfl⟩
  | .str _, v, S, _, h => ⟨h.1, rfl⟩
  | .scr ns, v, S, k, ⟨a, e, q, z⟩ => ⟨a, e, sql_mono eP q, rfl⟩
  | .kst ss, v, S, k, ⟨a, e, q, z⟩ => ⟨a, e, sqt_mono eP q, rfl⟩
  | .key ks, v, S, k, ⟨a, e, q, z⟩ => ⟨a, e, eP _ _ q, rfl⟩
  | .tup ds, v, S, k, ⟨a, xs, e, q, r⟩ => ⟨a, xs, e, sqt_mono eP q, RepL.ice eP ds xs S k r⟩
  | .lst true ds, v, S, k, ⟨a, xs, T, e, q, r, f⟩ => ⟨a, xs, e, k _ _ (by rw [f]; simp [fa, one]; omega) q, RepL.ice eP ds xs T (fun b o hb => k b o (by rw [f]; simp only [fa]; omega)) r⟩
  | .lst false ds, v, S, k, ⟨a, xs, e, q, r⟩ => ⟨a, xs, e, eP _ _ q, RepL.ice eP ds xs S k r⟩
  | .dK true ks ds, v, S, k, ⟨a, xs, T, e, q, n, r, f⟩ => ⟨a, xs, e, k _ _ (by rw [f]; simp [fa, one]; omega) q, n, RepL.ice eP ds xs T (fun b o hb => k b o (by rw [f]; simp only [fa]; omega)) r⟩
  | .dK false ks ds, v, S, k, ⟨a, xs, e, q, n, r⟩ => ⟨a, xs, e, eP _ _ q, n, RepL.ice eP ds xs S k r⟩
  | .dT true ks ds, v, S, k, ⟨a, xs, T, e, q, n, r, f⟩ => ⟨a, xs, e, k _ _ (by rw [f]; simp [fa, one]; omega) q, n, RepL.ice eP ds xs T (fun b o hb => k b o (by rw [f]; simp only [fa]; omega)) r⟩
  | .dT false ks ds, v, S, k, ⟨a, xs, e, q, n, r⟩ => ⟨a, xs, e, eP _ _ q, n, RepL.ice eP ds xs S k r⟩
  | .dN true ks ds, v, S, k, ⟨a, bs, xs, T, e, q, z, n, r, f⟩ => ⟨a, bs, xs, e, q.of fun o h => k a o (by rw [f]; simp [fa, one]; omega) h, z.mono fun _ _ => sqt_mono eP, n, RepL.ice eP ds xs T (fun b o hb => k b o (by rw [f]; simp only [fa]; omega)) r⟩
  | .dN false ks ds, v, S, k, ⟨a, bs, xs, e, q, z, n, r⟩ => ⟨a, bs, xs, e, q.of fun o h => eP a o h, z.mono fun _ _ => sqt_mono eP, n, RepL.ice eP ds xs S k r⟩
  | .obj true _ fs ds, v, S, k, ⟨a, dx, xs, T, e, q, n, r, f⟩ => ⟨a, dx, xs, e, k _ _ (by rw [f]; simp [fa, one]; omega) q, n, RepL.ice eP ds xs T (fun b o hb => k b o (by rw [f]; simp only [fa]; omega)) r⟩
  | .obj false _ fs ds, v, S, k, ⟨a, dx, xs, e, q, n, r⟩ => ⟨a, dx, xs, e, eP _ _ q, n, RepL.ice eP ds xs S k r⟩
theorem RepL.ice {c : LC} {P H P' H' : Hp} (eP : Ex P P') : ∀ (ds : List D) (xs : List V) (S : FP), (∀ a o, 0 < S a → H a = some o → P' a = some o) → RepL c P H ds xs S → RepL c P' H' (iceL ds) xs fz
  | [], xs, S, _, h => ⟨h.1, rfl⟩
  | d :: ds, xs, S, k, ⟨y, ys, T, U, e, r, rs, f⟩ => ⟨y, ys, fz, fz, e, Rep.ice eP d y T (fun b o hb => k b o (by rw [f]; simp only [fa]; omega)) r, RepL.ice eP ds ys U (fun b o hb => k b o (by rw [f]; simp only [fa]; omega)) rs, (fa_fz fz).symm⟩
end
mutual
/-- what is owned stands in the heap -/
theorem Rep.there {c : LC} {P H : Hp} : ∀ (d : D) (v : V) (S : FP), Rep c P H d v S → ∀ a, 0 < S a → H a ≠ none
  | .gone, v, S, h => fun a p => by rw [show S = fz from h] at p; simp [fz] at p
  | .non, v, S, h => fun a p => by rw [h.2] at p; simp [fz] at p
  | .bl _, v, S, h => fun a p => by rw [h.2] at p; simp [fz] at p
  | .int _, v, S, h => fun a p => by rw [h.2] at p; simp [fz] at p
  | .str _, v, S, h => fun a p => by rw [h.2] at p; simp [fz] at p
  | .scr ns, v, S, ⟨a, e, q, z⟩ => fun b p => by rw [z] at p; simp [fz] at p
  | .kst ss, v, S, ⟨a, e, q, z⟩ => fun b p => by rw [z] at p; simp [fz] at p
  | .key ks, v, S, ⟨a, e, q, z⟩ => fun b p => by rw [z] at p; simp [fz] at p
  | .tup ds, v, S, ⟨a, xs, e, q, r⟩ => RepL.there ds xs S r
  | .lst true ds, v, S, ⟨a, xs, T, e, q, r, f⟩ => fun b p => by
    by_cases z : b = a
    · rw [z, q]; simp
    · exact RepL.there ds xs T r b (by rw [f] at p; simpa [fa, one, z] using p)
  | .lst false ds, v, S, ⟨a, xs, e, q, r⟩ => RepL.there ds xs S r
  | .dK true ks ds, v, S, ⟨a, xs, T, e, q, n, r, f⟩ => fun b p => by
    by_cases z : b = a
    · rw [z, q]; simp
    · exact RepL.there ds xs T r b (by rw [f] at p; simpa [fa, one, z] using p)
  | .dK false ks ds, v, S, ⟨a, xs, e, q, n, r⟩ => RepL.there ds xs S r
  | .dT true ks ds, v, S, ⟨a, xs, T, e, q, n, r, f⟩ => fun b p => by
    by_cases z : b = a
    · rw [z, q]; simp
    · exact RepL.there ds xs T r b (by rw [f] at p; simpa [fa, one, z] using p)
  | .dT false ks ds, v, S, ⟨a, xs, e, q, n, r⟩ => RepL.there ds xs S r
  | .dN true ks ds, v, S, ⟨a, bs, xs, T, e, q, _, n, r, f⟩ => fun b p => by
    by_cases z : b = a
    · obtain ⟨_, q, _⟩ := q; rw [z, q]; simp
    · exact RepL.there ds xs T r b (by rw [f] at p; simpa [fa, one, z] using p)
  | .dN false ks ds, v, S, ⟨a, bs, xs, e, q, _, n, r⟩ => RepL.there ds xs S r
  | .obj true _ fs ds, v, S, ⟨a, dx, xs, T, e, q, n, r, f⟩ => fun b p => by
    by_cases z : b = a
    · rw [z, q]; simp
    · exact RepL.there ds xs T r b (by rw [f] at p; simpa [fa, one, z] using p)
  | .obj false _ fs ds, v, S, ⟨a, dx, xs, e, q, n, r⟩ => RepL.there ds xs S r
theorem RepL.there {c : LC} {P H : Hp} : ∀ (ds : List D) (xs : List V) (S : FP), RepL c P H ds xs S → ∀ a, 0 < S a → H a ≠ none
  | [], xs, S, h => fun a p => by rw [h.2] at p; simp [fz] at p
  | d :: ds, xs, S, ⟨y, ys, T, U, e, r, rs, f⟩ => fun a p => by
    rw [f] at p
    by_cases z : 0 < T a
    · exact Rep.there d y T r a z
    · exact RepL.there ds ys U rs a (by simp only [fa] at p; omega)
end
def notTup : HO → Bool
  | .lst _ => true
  | .dK _ => true
  | .dT _ => true
  | .ins .. => true
  | .ext _ => true
  | _ => false
mutual
/-- what is owned is no tuple -/
theorem Rep.nt {c : LC} {P H : Hp} : ∀ (d : D) (v : V) (S : FP), Rep c P H d v S → ∀ a, 0 < S a → ∃ o, H a = some o ∧ notTup o = true
  | .gone, v, S, h => fun a p => by rw [show S = fz from h] at p; simp [fz] at p
  | .non, v, S, h => fun a p => by rw [h.2] at p; simp [fz] at p
  | .bl _, v, S, h => fun a p => by rw [h.2] at p; simp [fz] at p
  | .int _, v, S, h => fun a p => by rw [h.2] at p; simp [fz] at p
  | .str _, v, S, h => fun a p => by rw [h.2] at p; simp [fz] at p
  | .scr ns, v, S, ⟨a, e, q, z⟩ => fun b p => by rw [z] at p; simp [fz] at p
  | .kst ss, v, S, ⟨a, e, q, z⟩ => fun b p => by rw [z] at p; simp [fz] at p
  | .key ks, v, S, ⟨a, e, q, z⟩ => fun b p => by rw [z] at p; simp [fz] at p
  | .tup ds, v, S, ⟨a, xs, e, q, r⟩ => RepL.nt ds xs S r
  | .lst true ds, v, S, ⟨a, xs, T, e, q, r, f⟩ => fun b p => by
    by_cases z : b = a
    · rw [z]; exact ⟨_, q, rfl⟩
    · exact RepL.nt ds xs T r b (by rw [f] at p; simpa [fa, one, z] using p)
  | .lst false ds, v, S, ⟨a, xs, e, q, r⟩ => RepL.nt ds xs S r
  | .dK true ks ds, v, S, ⟨a, xs, T, e, q, n, r, f⟩ => fun b p => by
    by_cases z : b = a
    · rw [z]; exact ⟨_, q, rfl⟩
    · exact RepL.nt ds xs T r b (by rw [f] at p; simpa [fa, one, z] using p)
  | .dK false ks ds, v, S, ⟨a, xs, e, q, n, r⟩ => RepL.nt ds xs S r
  | .dT true ks ds, v, S, ⟨a, xs, T, e, q, n, r, f⟩ => fun b p => by
    by_cases z : b = a
    · rw [z]; exact ⟨_, q, rfl⟩
    · exact RepL.nt ds xs T r b (by rw [f] at p; simpa [fa, one, z] using p)
  | .dT false ks ds, v, S, ⟨a, xs, e, q, n, r⟩ => RepL.nt ds xs S r
  | .dN true ks ds, v, S, ⟨a, bs, xs, T, e, q, _, n, r, f⟩ => fun b p => by
    by_cases z : b = a
    · obtain ⟨_, q, _⟩ := q; rw [z]; exact ⟨_, q, rfl⟩
    · exact RepL.nt ds xs T r b (by rw [f] at p; simpa [fa, one, z] using p)
  | .dN false ks ds, v, S, ⟨a, bs, xs, e, q, _, n, r⟩ => RepL.nt ds xs S r
  | .obj true _ fs ds, v, S, ⟨a, dx, xs, T, e, q, n, r, f⟩ => fun b p => by
    by_cases z : b = a
    · rw [z]; exact ⟨_, q, rfl⟩
    · exact RepL.nt ds xs T r b (by rw [f] at p; simpa [fa, one, z] using p)
  | .obj false _ fs ds, v, S, ⟨a, dx, xs, e, q, n, r⟩ => RepL.nt ds xs S r
theorem RepL.nt {c : LC} {P H : Hp} : ∀ (ds : List D) (xs : List V) (S : FP), RepL c P H ds xs S → ∀ a, 0 < S a → ∃ o, H a = some o ∧ notTup o = true
  | [], xs, S, h => fun a p => by rw [h.2] at p; simp [fz] at p
  | d :: ds, xs, S, ⟨y, ys, T, U, e, r, rs, f⟩ => fun a p => by
    rw [f] at p
    by_cases z : 0 < T a
    · exact Rep.nt d y T r a z
    · exact RepL.nt ds ys U rs a (by simp only [fa] at p; omega)
end
theorem sqt_thaw {K : PySem.W.Frag} {H H' : Hp} {a : Addr} {xs : List V} (e : ∀ b o, H b = some o → notTup o = false → H' b = some o) (h : SqT K H a xs) : SqT K H' a xs := by
  rcases h with (h | ⟨o, h⟩) | h
  · exact .inl (.inl (e _ _ h rfl))
  · exact .inl (.inr ⟨o, e _ _ h rfl⟩)
  · exact .inr h
mutual
/-- what holds no frozen list asks of the frozen things for the tuples alone -/
theorem Rep.thaw {c : LC} {P P' H : Hp} (e : ∀ b o, P b = some o → notTup o = false → P' b = some o) : ∀ (d : D) (v : V) (S : FP), noIce d = true → Rep c P H d v S → Rep c P' H d v S
  | .gone, v, S, _, h => h
  | .non, v, S, _, h => h
  | .bl _, v, S, _, h => h
  | .int _, v, S, _, h => h
  | .str _, v, S, _, h => h
  | .scr ns, v, S, n, _ => by simp [noIce] at n
  | .kst ss, v, S, _, ⟨a, e1, q, z⟩ => ⟨a, e1, sqt_thaw e q, z⟩
  | .key ks, v, S, _, ⟨a, e1, q, z⟩ => ⟨a, e1, e _ _ q rfl, z⟩
  | .tup ds, v, S, n, ⟨a, xs, e1, q, r⟩ => ⟨a, xs, e1, sqt_thaw e q, RepL.thaw e ds xs S (by simpa [noIce] using n) r⟩
  | .lst true ds, v, S, n, ⟨a, xs, T, e1, q, r, f⟩ => ⟨a, xs, T, e1, q, RepL.thaw e ds xs T (by simpa [noIce] using n) r, f⟩
  | .lst false ds, v, S, n, _ => by simp [noIce] at n
  | .dK true ks ds, v, S, n, ⟨a, xs, T, e1, q, l, r, f⟩ => ⟨a, xs, T, e1, q, l, RepL.thaw e ds xs T (by simpa [noIce] using n) r, f⟩
  | .dK false ks ds, v, S, n, _ => by simp [noIce] at n
  | .dT true ks ds, v, S, n, ⟨a, xs, T, e1, q, l, r, f⟩ => ⟨a, xs, T, e1, q, l, RepL.thaw e ds xs T (by simpa [noIce] using n) r, f⟩
  | .dT false ks ds, v, S, n, _ => by simp [noIce] at n
  | .dN true ks ds, v, S, n, ⟨a, bs, xs, T, e1, q, z, l, r, f⟩ => ⟨a, bs, xs, T, e1, q, z.mono fun _ _ => sqt_thaw e, l, RepL.thaw e ds xs T (by simpa [noIce] using n) r, f⟩
  | .dN false ks ds, v, S, n, _ => by simp [noIce] at n
  | .obj true _ fs ds, v, S, n, ⟨a, dx, xs, T, e1, q, l, r, f⟩ => ⟨a, dx, xs, T, e1, q, l, RepL.thaw e ds xs T (by simpa [noIce] using n) r, f⟩
  | .obj false _ fs ds, v, S, n, _ => by simp [noIce] at n
theorem RepL.thaw {c : LC} {P P' H : Hp} (e : ∀ b o, P b = some o → notTup o = false → P' b = some o) : ∀ (ds : List D) (xs : List V) (S : FP), noIceL ds = true → RepL c P H ds xs S → RepL c P' H ds xs S
  | [], xs, S, _, h => h
  | d :: ds, xs, S, n, ⟨y, ys, T, U, e1, r, rs, f⟩ => by
    rw [noIceL, Bool.and_eq_true] at n
    exact ⟨y, ys, T, U, e1, Rep.thaw e d y T n.1 r, RepL.thaw e ds ys U n.2 rs, f⟩
end
end LI

namespace LI
open PySem L2

structure En where
  P0 : Hp
  H0 : Hp
  S0 : FP
  kp : List Bool
  vs : List V
  hv : ∀ i : Nat, kp[i]? = some true → ∃ v, vs[i]? = some v
  xw : WX

def RepO (c : LC) (P H : Hp) (d : D) : Option V → FP → Prop
  | some v, T => Rep c P H d v T
  | none, T => d = .gone ∧ T = fz
def RepE (c : LC) (P H : Hp) : List D → St → FP → Prop
  | [], [], S => S = fz
  | d :: ds, ov :: σ, S => ∃ T U, RepO c P H d ov T ∧ RepE c P H ds σ U ∧ S = fa T U
  | _, _, _ => False

structure Wd (c : LC) (E : En) (P : Hp) (S T : FP) (σ : St) (H : Hp) (ρ : List D) : Prop where
  env : RepE c P H ρ σ S
  le : ∀ a, S a + T a ≤ 1
  out : ∀ a, 0 < S a + T a → P a = none
  th : ∀ a, 0 < T a → H a ≠ none
  ph : Ex P H
  p0 : Ex E.P0 P
  fr : ∀ a o, E.S0 a = 0 → E.H0 a = some o → H a = some o
  np : ∀ a, P a ≠ none → E.P0 a ≠ none ∨ 0 < E.S0 a ∨ E.H0 a = none
  ns : ∀ a, 0 < S a + T a → 0 < E.S0 a ∨ E.H0 a = none
  kp : ∀ (i : Nat) (v : V), E.kp[i]? = some true → E.vs[i]? = some v → σ[i]? = some (some v)

structure Gr (P H P' H' : Hp) : Prop where
  p : Ex P P'
  h : Ex H H'
  ph : Ex P' H'
  new : ∀ a, P' a ≠ none → P a ≠ none ∨ H a = none
theorem Gr.refl {P H : Hp} (e : Ex P H) : Gr P H P H := ⟨.refl _, .refl _, e, fun _ h => .inl h⟩
theorem Gr.trans {P H P1 H1 P2 H2 : Hp} (a : Gr P H P1 H1) (b : Gr P1 H1 P2 H2) : Gr P H P2 H2 :=
  ⟨a.p.trans b.p, a.h.trans b.h, b.ph, fun x h => by
    rcases b.new x h with q | q
    · exact a.new x q
    · cases z : H x with
      | none => exact .inr rfl
      | some o => rw [a.h x o z] at q; cases q⟩

theorem RepO.mono {c : LC} {P H P' H' : Hp} (eP : Ex P P') {d : D} {v : Option V} {S : FP} (k : ∀ a o, 0 < S a → H a = some o → H' a = some o) (h : RepO c P H d v S) : RepO c P' H' d v S := by
  cases v with
  | none => exact h
  | some v => exact Rep.mono eP d v S k h
theorem RepE.mono {c : LC} {P H P' H' : Hp} (eP : Ex P P') : ∀ (ρ : List D) (σ : St) (S : FP), (∀ a o, 0 < S a → H a = some o → H' a = some o) → RepE c P H ρ σ S → RepE c P' H' ρ σ S
  | [], [], S, _, h => h
  | d :: ds, v :: σ, S, k, ⟨T, U, r, rs, f⟩ => ⟨T, U, RepO.mono eP (fun b o hb => k b o (by rw [f]; simp only [fa]; omega)) r, RepE.mono eP ds σ U (fun b o hb => k b o (by rw [f]; simp only [fa]; omega)) rs, f⟩
  | [], _ :: _, _, _, h => h.elim
  | _ :: _, [], _, _, h => h.elim
theorem RepO.there {c : LC} {P H : Hp} {d : D} {v : Option V} {S : FP} (h : RepO c P H d v S) : ∀ a, 0 < S a → H a ≠ none := by
  cases v with
  | none => intro a p; rw [h.2] at p; simp [fz] at p
  | some v => exact Rep.there d v S h
theorem RepE.there {c : LC} {P H : Hp} : ∀ (ρ : List D) (σ : St) (S : FP), RepE c P H ρ σ S → ∀ a, 0 < S a → H a ≠ none
  | [], [], S, h => fun a p => by rw [show S = fz from h] at p; simp [fz] at p
  | d :: ds, v :: σ, S, ⟨T, U, r, rs, f⟩ => fun a p => by
    rw [f] at p
    by_cases z : 0 < T a
    · exact r.there a z
    · exact RepE.there ds σ U rs a (by simp only [fa] at p; omega)
  | [], _ :: _, _, h => h.elim
  | _ :: _, [], _, h => h.elim
theorem RepE.len {c : LC} {P H : Hp} : ∀ (ρ : List D) (σ : St) (S : FP), RepE c P H ρ σ S → ρ.length = σ.length
  | [], [], _, _ => rfl
  | _ :: ds, _ :: σ, _, ⟨_, U, _, rs, _⟩ => by simp [RepE.len ds σ U rs]
  | [], _ :: _, _, h => h.elim
  | _ :: _, [], _, h => h.elim

section
variable {c : LC} {E : En} {P P' : Hp} {S T : FP} {σ : St} {H H' : Hp} {ρ : List D}
theorem Wd.grow (w : Wd c E P S T σ H ρ) (g : Gr P H P' H') : Wd c E P' S T σ H' ρ where
  env := w.env.mono g.p ρ σ S (fun a o _ h => g.h a o h)
  le := w.le
  out := fun a h => by
    cases z : P' a with
    | none => rfl
    | some o =>
      rcases g.new a (by rw [z]; simp) with q | q
      · exact absurd (w.out a h) q
      · by_cases hT : 0 < T a
        · exact absurd q (w.th a hT)
        · exact absurd q (RepE.there ρ σ S w.env a (by omega))
  th := fun a h z => by
    cases q : H a with
    | none => exact w.th a h q
    | some o => rw [g.h a o q] at z; cases z
  ph := g.ph
  p0 := w.p0.trans g.p
  fr := fun a o h1 h2 => g.h a o (w.fr a o h1 h2)
  np := fun a h => by
    rcases g.new a h with q | q
    · exact w.np a q
    · cases z : E.H0 a with
      | none => exact .inr (.inr rfl)
      | some o =>
        by_cases hs : E.S0 a = 0
        · rw [w.fr a o hs z] at q; cases q
        · exact .inr (.inl (by omega))
  ns := w.ns
  kp := w.kp
theorem Wd.aside (w : Wd c E P S T σ H ρ) (g : Gr P H P' H') {U : FP} (h1 : ∀ a, U a ≤ 1) (h2 : ∀ a, 0 < U a → H a = none ∧ P' a = none) (h3 : ∀ a, 0 < U a → H' a ≠ none) : Wd c E P' S (fa T U) σ H' ρ := by
  have w' := w.grow g
  have hS : ∀ a, 0 < U a → S a = 0 ∧ T a = 0 := fun a h => by
    have n := (h2 a h).1
    refine ⟨?_, ?_⟩
    · rcases Nat.eq_zero_or_pos (S a) with z | z
      · exact z
      · exact absurd n (RepE.there ρ σ S w.env a z)
    · rcases Nat.eq_zero_or_pos (T a) with z | z
      · exact z
      · exact absurd n (w.th a z)
  refine ⟨w'.env, fun a => ?_, fun a h => ?_, fun a h => ?_, w'.ph, w'.p0, w'.fr, w'.np, fun a h => ?_, w'.kp⟩
  · by_cases z : 0 < U a
    · have := hS a z; have := h1 a; simp only [fa]; omega
    · have := w.le a; simp only [fa]; omega
  · by_cases z : 0 < U a
    · exact (h2 a z).2
    · exact w'.out a (by simp only [fa] at h; omega)
  · by_cases z : 0 < U a
    · exact h3 a z
    · exact w'.th a (by simp only [fa] at h; omega)
  · by_cases z : 0 < U a
    · have n := (h2 a z).1
      cases q : E.H0 a with
      | none => exact .inr rfl
      | some o =>
        by_cases hs : E.S0 a = 0
        · rw [w.fr a o hs q] at n; cases n
        · exact .inl (by omega)
    · exact w'.ns a (by simp only [fa] at h; omega)
end

abbrev RM := List D → Option D
abbrev GM := List D → Option (D × List D)
abbrev BM := List D → Option Bool
abbrev BGM := List D → Option (Bool × List D)
def RQ (c : LC) (P H : Hp) (d : D) (Q : VK) : Prop := ∀ v H' P' U, Gr P H P' H' → Rep c P' H' d v U → Q v H'
def FQ (c : LC) (P H : Hp) (d : D) (Q : VK) : Prop := ∀ v H' P' U, Gr P H P' H' → Rep c P' H' d v U → (∀ a, U a ≤ 1) → (∀ a, 0 < U a → H a = none ∧ P' a = none) → Q v H'
def tR (c : LC) (E : En) (m : RM) : TE := fun σ H Q => ∃ P S T ρ d, Wd c E P S T σ H ρ ∧ m ρ = some d ∧ RQ c P H d Q
def tF (c : LC) (E : En) (m : RM) : TE := fun σ H Q => ∃ P S T ρ d, Wd c E P S T σ H ρ ∧ m ρ = some d ∧ FQ c P H d Q
def tG (c : LC) (E : En) (m : GM) : TE := fun σ H Q => ∃ P S T ρ d ρ', Wd c E P S T σ H ρ ∧ m ρ = some (d, ρ') ∧
  ∀ v H' P' S' U, Wd c E P' S' (fa T U) σ H' ρ' → Ex P P' → Rep c P' H' d v U → (∀ a o, 0 < T a → H a = some o → H' a = some o) → Q v H'
def tT (c : LC) (E : En) (m : BM) : TT := fun σ H Q => ∃ P S T ρ b, Wd c E P S T σ H ρ ∧ m ρ = some b ∧ ∀ H' P', Gr P H P' H' → Q b H'
theorem PE_imp {X : Cx} {e : Expr} {t t' : TE} (h : PE X e t) (k : ∀ σ H Q, t' σ H Q → t σ H Q) : PE X e t' := ⟨fun pins s σ H Q I q => h.run pins s σ H Q I (k σ H Q q)⟩
theorem PT_imp {X : Cx} {e : Expr} {t t' : TT} (h : PT X e t) (k : ∀ σ H Q, t' σ H Q → t σ H Q) : PT X e t' := ⟨fun pins s σ H Q I q => h.run pins s σ H Q I (k σ H Q q)⟩
theorem PW_imp {X : Cx} {e : Expr} {t t' : TT} (h : PW X e t) (k : ∀ σ H Q, t' σ H Q → t σ H Q) : PW X e t' := ⟨fun whole pins s σ H Q I q => h.run whole pins s σ H Q I (k σ H Q q)⟩
theorem PA_imp {X : Cx} {e : List Expr} {t t' : TA} (h : PA X e t) (k : ∀ σ H Q, t' σ H Q → t σ H Q) : PA X e t' := ⟨fun pos pins s σ H Q I q => h.run pos pins s σ H Q I (k σ H Q q)⟩
theorem PS_imp {X : Cx} {e : Stmt} {t t' : TS} (h : PS X e t) (k : ∀ D σ H, t' D σ H → t D σ H) : PS X e t' := ⟨fun pins s σ H D I q => h.run pins s σ H D I (k D σ H q)⟩
theorem PSs_imp {X : Cx} {e : List Stmt} {t t' : TS} (h : PSs X e t) (k : ∀ D σ H, t' D σ H → t D σ H) : PSs X e t' := ⟨fun pins s σ H D I q => h.run pins s σ H D I (k D σ H q)⟩

section
variable {c : LC} {E : En} {P P' : Hp} {S T : FP} {σ : St} {H H' : Hp} {ρ : List D} {X : Cx} {e : Expr} {m : RM}
theorem FQ.of_R {d : D} {Q : VK} (h : RQ c P H d Q) : FQ c P H d Q := fun v H' P' U g r _ _ => h v H' P' U g r
theorem FQ.flat {d : D} {v : V} {Q : VK} (h : FQ c P H d Q) (e : Ex P H) (r : Rep c P H d v fz) : Q v H :=
  h v H P fz (.refl e) r (fun _ => Nat.zero_le _) fun a p => by simp [fz] at p
theorem r_f (h : PE X e (tF c E m)) : PE X e (tR c E m) := PE_imp h fun σ H Q ⟨P, S, T, ρ, d, w, hm, q⟩ => ⟨P, S, T, ρ, d, w, hm, .of_R q⟩
def upF (m : RM) : GM := fun ρ => (m ρ).map fun d => (d, ρ)
def upR (m : RM) : GM := fun ρ => (m ρ).bind fun d => if frz d = true then some (d, ρ) else none
theorem g_f (h : PE X e (tF c E m)) : PE X e (tG c E (upF m)) := PE_imp h fun σ H Q ⟨P, S, T, ρ, d, ρ', w, hm, q⟩ => by
  unfold upF at hm
  cases hd : m ρ with
  | none => rw [hd] at hm; cases hm
  | some d1 =>
    rw [hd] at hm
    cases hm
    exact ⟨P, S, T, ρ, d, w, hd, fun v H' P' U g r u1 u2 => q v H' P' S U (w.aside g u1 u2 (Rep.there d v U r)) g.p r fun a o _ h => g.h a o h⟩
theorem g_r (h : PE X e (tR c E m)) : PE X e (tG c E (upR m)) := PE_imp h fun σ H Q ⟨P, S, T, ρ, d, ρ', w, hm, q⟩ => by
  unfold upR at hm
  cases hd : m ρ with
  | none => rw [hd] at hm; cases hm
  | some d1 =>
    rw [hd] at hm
    simp only [Option.bind_some] at hm
    split at hm
    · rename_i hf
      cases hm
      refine ⟨P, S, T, ρ, d, w, hd, fun v H' P' U g r => ?_⟩
      have e := Rep.frz0 d v U hf r
      subst e
      exact q v H' P' S fz (w.aside g (fun _ => Nat.zero_le _) (fun a p => by simp [fz] at p) (fun a p => by simp [fz] at p)) g.p r fun a o _ h => g.h a o h
    · cases hm
def coldM (m : RM) : RM := fun ρ => (m ρ).map ice
theorem f_cold (h : PE X e (tF c E m)) : PE X e (tF c E (coldM m)) := PE_imp h fun σ H Q ⟨P, S, T, ρ, d, w, hm, q⟩ => by
  unfold coldM at hm
  cases hd : m ρ with
  | none => rw [hd] at hm; cases hm
  | some d1 =>
    rw [hd] at hm
    cases hm
    refine ⟨P, S, T, ρ, d1, w, hd, fun v H' P' U g r u1 u2 => ?_⟩
    have r2 : Rep c (fun a => if 0 < U a then H' a else P' a) H' (ice d1) v fz := Rep.ice (fun a o z => by
        by_cases hu : 0 < U a
        · rw [(u2 a hu).2] at z; cases z
        · simp [hu, z]) d1 v U (fun a o hu hh => by simp [hu, hh]) r
    refine q v H' _ fz ⟨fun a o z => ?_, g.h, fun a o z => ?_, fun a z => ?_⟩ r2 (fun _ => Nat.zero_le _) (fun a p => by simp [fz] at p)
    · by_cases hu : 0 < U a
      · have := (u2 a hu).2; rw [g.p a o z] at this; cases this
      · simp [hu, g.p a o z]
    · by_cases hu : 0 < U a
      · simpa [hu] using z
      · exact g.ph a o (by simpa [hu] using z)
    · by_cases hu : 0 < U a
      · exact .inr (u2 a hu).1
      · exact g.new a (by simpa [hu] using z)
end
end LI

namespace LI
open PySem L2

def LIM : Nat := 4000000
theorem lim_le {n : Nat} (h : n ≤ LIM) : n ≤ sizeLine := Nat.le_trans h (by decide)
theorem lim_lt {n : Nat} (h : n < LIM) : n < sizeLine := Nat.lt_of_lt_of_le h (by decide)

theorem RepL.length {c : LC} {P H : Hp} : ∀ {ds : List D} {xs : List V} {S : FP}, RepL c P H ds xs S → ds.length = xs.length
  | [], xs, S, h => by rw [h.1]; rfl
  | d :: ds, xs, S, ⟨y, ys, T, U, e, _, rs, _⟩ => by rw [e]; simp [RepL.length rs]
theorem RepL.append {c : LC} {P H : Hp} : ∀ {ds es : List D} {xs ys : List V} {S T : FP}, RepL c P H ds xs S → RepL c P H es ys T → RepL c P H (ds ++ es) (xs ++ ys) (fa S T)
  | [], es, xs, ys, S, T, h, k => by rw [h.1, h.2, fz_fa]; exact k
  | d :: ds, es, xs, ys, S, T, ⟨y, zs, A, B, e, r, rs, f⟩, k => by
    rw [e, f]
    exact ⟨y, zs ++ ys, A, fa B T, rfl, r, RepL.append rs k, by funext a; simp only [fa]; omega⟩
theorem RepL.get {c : LC} {P H : Hp} : ∀ {ds : List D} {xs : List V} {S : FP} {i : Nat} {d : D}, RepL c P H ds xs S → ds[i]? = some d → ∃ x T, xs[i]? = some x ∧ Rep c P H d x T ∧ ∀ a, T a ≤ S a
  | [], xs, S, i, d, h, e => by simp at e
  | d0 :: ds, xs, S, 0, d, ⟨y, zs, A, B, e, r, rs, f⟩, q => by
    simp at q; subst q
    exact ⟨y, A, by rw [e]; rfl, r, fun a => by rw [f]; simp only [fa]; omega⟩
  | d0 :: ds, xs, S, i + 1, d, ⟨y, zs, A, B, e, r, rs, f⟩, q => by
    obtain ⟨x, T, h1, h2, h3⟩ := RepL.get (i := i) (d := d) rs (by simpa using q)
    exact ⟨x, T, by rw [e]; simpa using h1, h2, fun a => by have := h3 a; rw [f]; simp only [fa]; omega⟩
theorem frzL_iff : ∀ {ds : List D}, frzL ds = true ↔ ∀ d ∈ ds, frz d = true
  | [] => by simp [frzL]
  | d :: ds => by simp [frzL, frzL_iff (ds := ds)]
theorem RepL.drop {c : LC} {P H : Hp} : ∀ {ds : List D} {xs : List V} (n : Nat), RepL c P H ds xs fz → RepL c P H (ds.drop n) (xs.drop n) fz
  | ds, xs, 0, h => h
  | [], xs, n + 1, h => by rw [h.1]; exact ⟨rfl, rfl⟩
  | d :: ds, xs, n + 1, ⟨y, zs, A, B, e, r, rs, f⟩ => by
    have hB : B = fz := by
      funext a
      have := congrFun f a
      simp only [fa, fz] at this ⊢
      omega
    subst hB
    rw [e]
    exact RepL.drop n rs
theorem RepL.take {c : LC} {P H : Hp} : ∀ {ds : List D} {xs : List V} (n : Nat), RepL c P H ds xs fz → RepL c P H (ds.take n) (xs.take n) fz
  | ds, xs, 0, h => ⟨rfl, rfl⟩
  | [], xs, n + 1, h => by rw [h.1]; exact ⟨rfl, rfl⟩
  | d :: ds, xs, n + 1, ⟨y, zs, A, B, e, r, rs, f⟩ => by
    have hB : A = fz ∧ B = fz := by
      refine ⟨?_, ?_⟩ <;> funext a <;> (have := congrFun f a; simp only [fa, fz] at this ⊢; omega)
    obtain ⟨rfl, rfl⟩ := hB
    rw [e]
    exact ⟨y, zs.take n, fz, fz, rfl, r, RepL.take n rs, (fa_fz fz).symm⟩
theorem RepL.rep {c : LC} {P H : Hp} {ds : List D} {xs : List V} (h : RepL c P H ds xs fz) : ∀ n : Nat, RepL c P H (List.replicate n ds).flatten (List.replicate n xs).flatten fz
  | 0 => ⟨rfl, rfl⟩
  | n + 1 => by
    have := RepL.append h (RepL.rep h n)
    rw [fa_fz] at this
    simpa [List.replicate_succ] using this

section
variable {c : LC} {P H : Hp} {Q : VK}
theorem none_of {a : Addr} (e : Ex P H) (h : H a = none) : P a = none := by
  cases z : P a with
  | none => rfl
  | some o => rw [e a o z] at h; cases h
theorem ex_new {p : Addr} {o : HO} (h : H p = none) : Ex H (upd H p o) := fun a u e => by
  rw [upd_ne (ne_of_none e h)]; exact e
theorem one_le {p : Addr} : ∀ a, one p a ≤ 1 := fun a => by unfold one; split <;> omega
theorem one_pos {p a : Addr} (h : 0 < one p a) : a = p := by unfold one at h; split at h <;> first | assumption | omega
theorem FQ.lst {ds : List D} {xs : List V} (h : FQ c P H (.lst true ds) Q) (e : Ex P H) (r : RepL c P H ds xs fz) : ∀ p, H p = none → Q (.ref p) (upd H p (.lst xs)) := fun p hp => by
  refine h _ _ P (one p) ⟨.refl _, ex_new hp, e.trans (ex_new hp), fun _ z => .inl z⟩ ⟨p, xs, fz, rfl, upd_same, RepL.mono (.refl _) ds xs fz (fun a o z _ => by simp [fz] at z) r, (fa_fz _).symm⟩ one_le fun a z => ?_
  rw [one_pos z]
  exact ⟨hp, none_of e hp⟩
theorem FQ.tup {ds : List D} {xs : List V} (h : FQ c P H (.tup ds) Q) (e : Ex P H) (r : RepL c P H ds xs fz) : ∀ p, H p = none → Q (.ref p) (upd H p (.tup xs)) := fun p hp => by
  have hP := none_of e hp
  refine h _ _ (upd P p (.tup xs)) fz ⟨ex_new hP, ex_new hp, fun a o z => ?_, fun a z => ?_⟩ ⟨p, xs, rfl, .inl (.inl upd_same), RepL.mono (ex_new hP) ds xs fz (fun a o z _ => by simp [fz] at z) r⟩ (fun _ => Nat.zero_le _) (fun a z => by simp [fz] at z)
  · by_cases q : a = p
    · subst q; rw [upd_same] at z ⊢; exact z
    · rw [upd_ne q] at z ⊢; exact e a o z
  · by_cases q : a = p
    · subst q; exact .inr hp
    · rw [upd_ne q] at z; exact .inl z
theorem FQ.grow {P2 H2 : Hp} {d : D} (h : FQ c P H d Q) (g : Gr P H P2 H2) : FQ c P2 H2 d Q := fun v H' P' U g2 r u1 u2 => h v H' P' U (g.trans g2) r u1 fun a z => by
  obtain ⟨n1, n2⟩ := u2 a z
  refine ⟨?_, n2⟩
  cases q : H a with
  | none => rfl
  | some o => rw [g.h a o q] at n1; cases n1
theorem Rep.gr {P2 H2 : Hp} {d : D} {v : V} {S : FP} (r : Rep c P H d v S) (g : Gr P H P2 H2) : Rep c P2 H2 d v S := Rep.mono g.p d v S (fun a o _ h => g.h a o h) r
theorem RepL.gr {P2 H2 : Hp} {d : List D} {v : List V} {S : FP} (r : RepL c P H d v S) (g : Gr P H P2 H2) : RepL c P2 H2 d v S := RepL.mono g.p d v S (fun a o _ h => g.h a o h) r
end

def m2 (f : D → D → Option D) (ma mb : RM) : RM := fun ρ => (ma ρ).bind fun x => (mb ρ).bind fun y => f x y
def m1 (f : D → Option D) (ma : RM) : RM := fun ρ => (ma ρ).bind f
def Op2 (c : LC) (r : R2) (f : D → D → Option D) : Prop := ∀ (P H : Hp), Ex P H → ∀ da db d x y U1 U2, f da db = some d → Rep c P H da x U1 → Rep c P H db y U2 → ∀ Q, FQ c P H d Q → r x y H Q
section
variable {X : Cx} {cl : Nat → Addr} {E : En} {a b : Expr} {pos : Pos} {ma mb : RM} {r : R2} {f : D → D → Option D}
theorem op2_run (hf : Op2 ⟨X.K, cl, X.w⟩ r f) {σ : L2.St} {H : Hp} {Q : VK} (h : tF ⟨X.K, cl, X.w⟩ E (m2 f ma mb) σ H Q) : tOp r (tR ⟨X.K, cl, X.w⟩ E ma) (tR ⟨X.K, cl, X.w⟩ E mb) σ H Q := by
  obtain ⟨P, S, T, ρ, d, w, hm, q⟩ := h
  unfold m2 at hm
  cases ea : ma ρ with
  | none => rw [ea] at hm; cases hm
  | some da =>
    cases eb : mb ρ with
    | none => rw [ea, eb] at hm; cases hm
    | some db =>
      rw [ea, eb] at hm
      refine ⟨P, S, T, ρ, da, w, ea, fun x H1 P1 U1 g1 r1 => ⟨P1, S, T, ρ, db, w.grow g1, eb, fun y H2 P2 U2 g2 r2 => ?_⟩⟩
      exact hf P2 H2 g2.ph _ _ _ _ _ _ _ hm (r1.gr g2) r2 Q (q.grow (g1.trans g2))
theorem f_bin {op : Operator} (ho : OpR X (binaryOp op) r) (hf : Op2 ⟨X.K, cl, X.w⟩ r f) (ha : PE X a (tR ⟨X.K, cl, X.w⟩ E ma)) (hb : PE X b (tR ⟨X.K, cl, X.w⟩ E mb)) : PE X (.BinOp a op b pos) (tF ⟨X.K, cl, X.w⟩ E (m2 f ma mb)) :=
  PE_imp (pe_op ho ha hb) fun _ _ _ h => op2_run hf h
theorem f_cmp {op : CmpOp} (ho : OpR X (compareOp op) r) (hf : Op2 ⟨X.K, cl, X.w⟩ r f) (ha : PE X a (tR ⟨X.K, cl, X.w⟩ E ma)) (hb : PE X b (tR ⟨X.K, cl, X.w⟩ E mb)) (hm : behindInMarks op b = false) : PE X (.Compare a [op] [b] pos) (tF ⟨X.K, cl, X.w⟩ E (m2 f ma mb)) :=
  PE_imp (pe_cmpR ho ha hb hm) fun _ _ _ h => op2_run hf h
def bM (m : RM) : BM := fun ρ => (m ρ).bind fun d => match d with | .bl b => some b | _ => none
theorem bM_some {m : RM} {ρ : List D} {b : Bool} (h : bM m ρ = some b) : m ρ = some (.bl b) := by
  unfold bM at h
  cases e : m ρ with
  | none => rw [e] at h; cases h
  | some d =>
    rw [e] at h
    cases d with
    | bl k => simp at h; rw [h]
    | _ => simp at h
theorem t_test {e : Expr} {m : RM} {t : TE} (h : PT X e (tTest t)) (k : ∀ σ H Q, tF ⟨X.K, cl, X.w⟩ E m σ H Q → t σ H Q) : PT X e (tT ⟨X.K, cl, X.w⟩ E (bM m)) :=
  PT_imp h fun σ H Q ⟨P, S, T, ρ, b, w, hm, q⟩ => k σ H _ ⟨P, S, T, ρ, .bl b, w, bM_some hm, fun v H' P' U g r _ _ => ⟨b, r.1, q H' P' g⟩⟩
theorem t_cmp {op : CmpOp} (ho : OpR X (compareOp op) r) (hf : Op2 ⟨X.K, cl, X.w⟩ r f) (ha : PE X a (tR ⟨X.K, cl, X.w⟩ E ma)) (hb : PE X b (tR ⟨X.K, cl, X.w⟩ E mb)) (hm : behindInMarks op b = false) : PT X (.Compare a [op] [b] pos) (tT ⟨X.K, cl, X.w⟩ E (bM (m2 f ma mb))) :=
  t_test (pt_cmpR ho ha hb hm) fun _ _ _ h => op2_run hf h
end
theorem OpR_or {X : Cx} {g : Value → Value → Sem Value} {r r' : R2} (h : OpR X g r) (h' : OpR X g r') : OpR X g (fun x y H Q => r x y H Q ∨ r' x y H Q) := fun pins s σ H x y v u Q I rx ry q => q.elim (h pins s σ H x y v u Q I rx ry) (h' pins s σ H x y v u Q I rx ry)

def addD : D → D → Option D
  | .int a, .int b => some (.int (a + b))
  | .str a, .str b => if a.length + b.length ≤ LIM then some (.str (a ++ b)) else none
  | .lst _ a, .lst _ b => if (frzL a && frzL b) = true ∧ a.length + b.length ≤ LIM then some (.lst true (a ++ b)) else none
  | .tup a, .tup b => if (frzL a && frzL b) = true ∧ a.length + b.length ≤ LIM then some (.tup (a ++ b)) else none
  | _, _ => none
def rAddA (K : PySem.W.Frag) : R2 := fun x y H Q => (rI0 (fun i j => .int (i + j))) x y H Q ∨ (∃ i j, x = .str i ∧ y = .str j ∧ i.length + j.length ≤ sizeLine ∧ Q (.str (i ++ j)) H) ∨ rCat x y H Q ∨ rCatA K x y H Q
section
variable {X : Cx} {c : LC}
theorem opr_add : OpR X (binaryOp .Add) (rAddA X.K) := OpR_or op_add (OpR_or op_add_str (OpR_or op_cat op_catA))
theorem lst_heap {P H : Hp} (e : Ex P H) {o : Bool} {ds : List D} {v : V} {U : FP} (r : Rep c P H (.lst o ds) v U) : ∃ a xs T, v = .ref a ∧ H a = some (.lst xs) ∧ RepL c P H ds xs T ∧ ∀ a, T a ≤ U a := by
  cases o with
  | true =>
    obtain ⟨a, xs, T, e1, h, rl, f⟩ := r
    exact ⟨a, xs, T, e1, h, rl, fun b => by rw [f]; simp only [fa]; omega⟩
  | false =>
    obtain ⟨a, xs, e1, h, rl⟩ := r
    exact ⟨a, xs, U, e1, e _ _ h, rl, fun _ => Nat.le_refl _⟩
theorem lst_heap0 {P H : Hp} (e : Ex P H) {o : Bool} {ds : List D} {v : V} {U : FP} (r : Rep c P H (.lst o ds) v U) (hf : frzL ds = true) : ∃ a xs, v = .ref a ∧ H a = some (.lst xs) ∧ RepL c P H ds xs fz := by
  obtain ⟨a, xs, T, e1, h, rl, _⟩ := lst_heap e r
  have z := RepL.frz0 ds xs T hf rl
  subst z
  exact ⟨a, xs, e1, h, rl⟩
theorem tup_heap0 {P H : Hp} (e : Ex P H) {ds : List D} {v : V} {U : FP} (r : Rep c P H (.tup ds) v U) (hf : frzL ds = true) : ∃ a xs, v = .ref a ∧ SqT c.K H a xs ∧ SqT c.K P a xs ∧ RepL c P H ds xs fz := by
  obtain ⟨a, xs, e1, h, rl⟩ := r
  have z := RepL.frz0 ds xs U hf rl
  subst z
  exact ⟨a, xs, e1, sqt_mono e h, h, rl⟩
theorem str_app (a b : List Nat) : (⟨a.toArray⟩ : Str) ++ (⟨b.toArray⟩ : Str) = ⟨(a ++ b).toArray⟩ := by
  show (Str.mk (a.toArray ++ b.toArray)) = _
  simp
theorem str_len (a : List Nat) : (⟨a.toArray⟩ : Str).length = a.length := by
  show a.toArray.size = _
  simp
theorem op_addD : Op2 c (rAddA c.K) addD := by
  intro P H e da db d x y U1 U2 hf r1 r2 Q q
  unfold addD at hf
  split at hf
  · rename_i a b
    cases hf
    exact .inl ⟨a, b, r1.1, r2.1, q.flat e ⟨rfl, rfl⟩⟩
  · rename_i a b
    split at hf
    · rename_i hl
      cases hf
      refine .inr (.inl ⟨_, _, r1.1, r2.1, ?_, ?_⟩)
      · rw [str_len, str_len]; exact lim_le hl
      · rw [str_app]; exact q.flat e ⟨rfl, rfl⟩
    · cases hf
  · rename_i o1 a o2 b
    split at hf
    · rename_i hl
      obtain ⟨hz, hl⟩ := hl
      simp only [Bool.and_eq_true] at hz
      cases hf
      obtain ⟨p1, xs, rfl, h1, l1⟩ := lst_heap0 e r1 hz.1
      obtain ⟨p2, ys, rfl, h2, l2⟩ := lst_heap0 e r2 hz.2
      refine .inr (.inr (.inl ⟨p1, p2, xs, ys, rfl, rfl, h1, h2, ?_, q.lst e ?_⟩))
      · rw [← l1.length, ← l2.length]; exact lim_le hl
      · have := l1.append l2; rwa [fa_fz] at this
    · cases hf
  · rename_i a b
    split at hf
    · rename_i hl
      obtain ⟨hz, hl⟩ := hl
      simp only [Bool.and_eq_true] at hz
      cases hf
      obtain ⟨p1, xs, rfl, h1, h1', l1⟩ := tup_heap0 e r1 hz.1
      obtain ⟨p2, ys, rfl, h2, h2', l2⟩ := tup_heap0 e r2 hz.2
      have ll := l1.append l2
      rw [fa_fz] at ll
      refine .inr (.inr (.inr ⟨p1, p2, xs, ys, rfl, rfl, h1, h2, ?_, ?_⟩))
      · rw [← l1.length, ← l2.length]; exact lim_le hl
      · refine ⟨fun z => ?_, fun _ z => ?_, fun _ _ => q.tup e ll⟩
        · subst z
          have h0 : a = [] := by have := l1.length; simpa using this
          subst h0
          exact q.flat e ⟨p2, ys, rfl, h2', l2⟩
        · subst z
          have h0 : b = [] := by have := l2.length; simpa using this
          subst h0
          exact q.flat e ⟨p1, xs, rfl, h1', by simpa using l1⟩
    · cases hf
  · cases hf

theorem op_i0 {g : Int → Int → V} {gd : Int → Int → D} {f : D → D → Option D} (hf : ∀ a b d, f a b = some d → ∃ i j, a = .int i ∧ b = .int j ∧ d = gd i j) (hg : ∀ (P H : Hp) i j, Rep c P H (gd i j) (g i j) fz) : Op2 c (rI0 g) f := by
  intro P H e da db d x y U1 U2 h r1 r2 Q q
  obtain ⟨i, j, rfl, rfl, rfl⟩ := hf _ _ _ h
  exact ⟨i, j, r1.1, r2.1, q.flat e (hg P H i j)⟩
theorem op_i {C : Int → Int → Prop} {g : Int → Int → V} {gd : Int → Int → D} {f : D → D → Option D} (hf : ∀ a b d, f a b = some d → ∃ i j, a = .int i ∧ b = .int j ∧ d = gd i j ∧ C i j) (hg : ∀ (P H : Hp) i j, Rep c P H (gd i j) (g i j) fz) : Op2 c (rI C g) f := by
  intro P H e da db d x y U1 U2 h r1 r2 Q q
  obtain ⟨i, j, rfl, rfl, rfl, hc⟩ := hf _ _ _ h
  exact ⟨i, j, r1.1, r2.1, hc, q.flat e (hg P H i j)⟩
def subD : D → D → Option D
  | .int a, .int b => some (.int (a - b))
  | _, _ => none
theorem op_subD : Op2 c (rI0 fun i j => .int (i - j)) subD := op_i0 (gd := fun i j => .int (i - j)) (fun a b d h => by
  unfold subD at h; split at h
  · cases h; exact ⟨_, _, rfl, rfl, rfl⟩
  · cases h) fun _ _ _ _ => ⟨rfl, rfl⟩
def fdivD : D → D → Option D
  | .int a, .int b => if 0 < b ∧ b.natAbs.log2 < 9000 then some (.int (a / b)) else none
  | _, _ => none
theorem op_fdivD : Op2 c (rI CDivW fun i j => .int (i / j)) fdivD := op_i (gd := fun i j => .int (i / j)) (fun a b d h => by
  unfold fdivD at h; split at h
  · split at h
    · cases h; exact ⟨_, _, rfl, rfl, rfl, by assumption⟩
    · cases h
  · cases h) fun _ _ _ _ => ⟨rfl, rfl⟩
def modD : D → D → Option D
  | .int a, .int b => if 0 < b then some (.int (a % b)) else none
  | _, _ => none
theorem op_modD : Op2 c (rI (fun _ j => 0 < j) fun i j => .int (i % j)) modD := op_i (gd := fun i j => .int (i % j)) (fun a b d h => by
  unfold modD at h; split at h
  · split at h
    · cases h; exact ⟨_, _, rfl, rfl, rfl, by assumption⟩
    · cases h
  · cases h) fun _ _ _ _ => ⟨rfl, rfl⟩
def powD : D → D → Option D
  | .int a, .int b => if 0 ≤ b ∧ b ≤ 1000000 ∧ a.natAbs < 2 ^ 64 then some (.int (a ^ b.toNat)) else none
  | _, _ => none
theorem op_powD : Op2 c (rI CPow fun i j => .int (i ^ j.toNat)) powD := op_i (gd := fun i j => .int (i ^ j.toNat)) (fun a b d h => by
  unfold powD at h; split at h
  · split at h
    · cases h; exact ⟨_, _, rfl, rfl, rfl, by assumption⟩
    · cases h
  · cases h) fun _ _ _ _ => ⟨rfl, rfl⟩

def mulD : D → D → Option D
  | .int a, .int b => if (-(2 ^ 64) < a ∧ a < 2 ^ 64) ∨ (-(2 ^ 64) < b ∧ b < 2 ^ 64) then some (.int (a * b)) else none
  | .lst _ a, .int k => if frzL a = true ∧ k ≤ 1000000 ∧ -1000000 ≤ k ∧ a.length * k.toNat ≤ LIM then some (.lst true (List.replicate k.toNat a).flatten) else none
  | .str a, .int k => if k ≤ 1000000 ∧ -1000000 ≤ k ∧ a.length * k.toNat ≤ LIM then some (.str (List.replicate k.toNat a).flatten) else none
  | _, _ => none
def rRepS : R2 := fun x y H Q => ∃ z k, x = .str z ∧ y = .int k ∧ MulOk z k ∧ Q (.str (Txt.mul z k)) H
theorem op_repS : OpR X (binaryOp .Mult) rRepS := by
  intro pins s σ H x y v u Q I rx ry h
  obtain ⟨z, k, rfl, rfl, hk, q⟩ := h
  obtain ⟨t, rfl⟩ := rx
  obtain ⟨t', rfl⟩ := ry
  exact PySem.SB.mul hk fun t' k => ⟨.str _, H, I.tok _, ⟨_, rfl⟩, q⟩
def rMulA : R2 := fun x y H Q => rI CMul (fun i j => .int (i * j)) x y H Q ∨ rRep x y H Q ∨ rRepS x y H Q
theorem opr_mul : OpR X (binaryOp .Mult) rMulA := OpR_or op_mul (OpR_or op_rep op_repS)
theorem foldl_app (a : Array Nat) : ∀ (n : Nat) (b : Array Nat), (List.replicate n a).foldl (· ++ ·) b = (b.toList ++ (List.replicate n a.toList).flatten).toArray
  | 0, b => by simp
  | n + 1, b => by
    rw [List.replicate_succ, List.foldl_cons, foldl_app a n]
    simp [List.replicate_succ]
theorem str_mul {a : List Nat} {k : Int} (h1 : k ≤ 1000000) (h2 : -1000000 ≤ k) (h3 : a.length * k.toNat ≤ LIM) : MulOk ⟨a.toArray⟩ k ∧ Txt.mul ⟨a.toArray⟩ k = ⟨(List.replicate k.toNat a).flatten.toArray⟩ := by
  refine ⟨⟨?_, fun n1 n2 => ?_, fun n1 n2 => ?_⟩, ?_⟩
  · rw [Bool.or_eq_false_iff, decide_eq_false_iff_not, decide_eq_false_iff_not]; omega
  · rw [str_len]
    have h4 : (a.length : Int) * k ≤ 2 ^ 63 - 1 := by
      have e1 : (k.toNat : Int) = k := by omega
      have e2 : ((a.length * k.toNat : Nat) : Int) = (a.length : Int) * k := by rw [Int.natCast_mul, e1]
      unfold LIM at h3
      omega
    have := Int.le_ediv_of_mul_le (by omega) h4
    omega
  · rw [str_len]
    have := lim_le h3
    unfold Builtin.Str.tooLong
    simp; omega
  · unfold Txt.mul
    by_cases n1 : k < 1
    · rw [if_pos n1, show k.toNat = 0 by omega]; rfl
    · rw [if_neg n1]
      by_cases n2 : (k == 1 || (⟨a.toArray⟩ : Str).length == 0) = true
      · rw [if_pos n2]
        rw [str_len] at n2
        simp only [Bool.or_eq_true, beq_iff_eq] at n2
        rcases n2 with n2 | n2
        · subst n2; simp
        · have : a = [] := List.length_eq_zero_iff.mp n2
          subst this; simp
      · rw [if_neg n2, foldl_app]; simp
theorem op_mulD : Op2 c rMulA mulD := by
  intro P H e da db d x y U1 U2 hf r1 r2 Q q
  unfold mulD at hf
  split at hf
  · rename_i a b
    split at hf
    · rename_i hc
      cases hf
      exact .inl ⟨a, b, r1.1, r2.1, hc, q.flat e ⟨rfl, rfl⟩⟩
    · cases hf
  · rename_i o a k
    split at hf
    · rename_i hl
      obtain ⟨hz, h1, h2, h3⟩ := hl
      cases hf
      obtain ⟨p1, xs, rfl, hh, l1⟩ := lst_heap0 e r1 hz
      refine .inr (.inl ⟨p1, k, xs, rfl, r2.1, hh, by omega, by omega, ?_, q.lst e (l1.rep _)⟩)
      rw [← l1.length]; exact lim_le h3
    · cases hf
  · rename_i a k
    split at hf
    · rename_i hl
      obtain ⟨h1, h2, h3⟩ := hl
      cases hf
      obtain ⟨m1, m2⟩ := str_mul h1 h2 h3
      exact .inr (.inr ⟨_, k, r1.1, r2.1, m1, by rw [m2]; exact q.flat e ⟨rfl, rfl⟩⟩)
    · cases hf
  · cases hf

def cmpD (fi : Int → Int → Bool) (fs : List Nat → List Nat → Bool) : D → D → Option D
  | .int a, .int b => some (.bl (fi a b))
  | .str a, .str b => some (.bl (fs a b))
  | _, _ => none
theorem op_cmpD {fi : Int → Int → Bool} {fs : List Nat → List Nat → Bool} : Op2 c (fun x y H Q => rI0 (fun i j => .bl (fi i j)) x y H Q ∨ ∃ i j, x = .str i ∧ y = .str j ∧ Q (.bl (fs i.cps.toList j.cps.toList)) H) (cmpD fi fs) := by
  intro P H e da db d x y U1 U2 hf r1 r2 Q q
  unfold cmpD at hf
  split at hf
  · cases hf
    exact .inl ⟨_, _, r1.1, r2.1, q.flat e ⟨rfl, rfl⟩⟩
  · rename_i a b
    cases hf
    exact .inr ⟨_, _, r1.1, r2.1, q.flat e ⟨by simp, rfl⟩⟩
  · cases hf
def ltD : D → D → Option D := cmpD (fun i j => decide (i < j)) fun i j => decide (i < j)
def leD : D → D → Option D := cmpD (fun i j => decide (i ≤ j)) fun i j => !decide (j < i)
def gtD : D → D → Option D := cmpD (fun i j => decide (j < i)) fun i j => decide (j < i)
def geD : D → D → Option D := cmpD (fun i j => decide (j ≤ i)) fun i j => !decide (i < j)
theorem opr_lt : OpR X (compareOp .Lt) (fun x y H Q => rI0 (fun i j => .bl (decide (i < j))) x y H Q ∨ ∃ i j, x = .str i ∧ y = .str j ∧ Q (.bl (decide (i.cps.toList < j.cps.toList))) H) := OpR_or op_lt op_lt_str
theorem opr_le : OpR X (compareOp .LtE) (fun x y H Q => rI0 (fun i j => .bl (decide (i ≤ j))) x y H Q ∨ ∃ i j, x = .str i ∧ y = .str j ∧ Q (.bl (!decide (j.cps.toList < i.cps.toList))) H) := OpR_or op_le op_le_str
theorem opr_gt : OpR X (compareOp .Gt) (fun x y H Q => rI0 (fun i j => .bl (decide (j < i))) x y H Q ∨ ∃ i j, x = .str i ∧ y = .str j ∧ Q (.bl (decide (j.cps.toList < i.cps.toList))) H) := OpR_or op_gt op_gt_str
theorem opr_ge : OpR X (compareOp .GtE) (fun x y H Q => rI0 (fun i j => .bl (decide (j ≤ i))) x y H Q ∨ ∃ i j, x = .str i ∧ y = .str j ∧ Q (.bl (!decide (i.cps.toList < j.cps.toList))) H) := OpR_or op_ge op_ge_str

def keyP : Key → PyData
  | .inl i => .int i
  | .inr s => .str s
mutual
def toP : D → Option PyData
  | .non => some .none
  | .bl b => some (.bool b)
  | .int i => some (.int i)
  | .str s => some (.str ⟨s.toArray⟩)
  | .scr ns => some (.list (ns.map .int))
  | .kst ss => some (.tuple (ss.map fun s => .str ⟨s.toArray⟩))
  | .key ks => some (.tuple (ks.map keyP))
  | .tup ds => (toPL ds).map .tuple
  | .lst _ ds => (toPL ds).map .list
  | _ => none
def toPL : List D → Option (List PyData)
  | [] => some []
  | d :: ds => (toP d).bind fun p => (toPL ds).map fun ps => p :: ps
end
theorem dp_scr {K : PySem.W.Frag} {H : Hp} : ∀ ns : List Int, DpAll K H (ns.map V.int) (ns.map PyData.int)
  | [] => .nil
  | n :: ns => .cons (.int n) (dp_scr ns)
theorem dp_kst {K : PySem.W.Frag} {H : Hp} : ∀ ss : List (List Nat), DpAll K H (ss.map fun s => V.str ⟨s.toArray⟩) (ss.map fun s => PyData.str ⟨s.toArray⟩)
  | [] => .nil
  | s :: ss => .cons (.str _) (dp_kst ss)
theorem dp_key {K : PySem.W.Frag} {H : Hp} : ∀ ks : List Key, DpAll K H (ks.map kV) (ks.map keyP)
  | [] => .nil
  | .inl i :: ks => .cons (.int i) (dp_key ks)
  | .inr s :: ks => .cons (.str s) (dp_key ks)
mutual
theorem dp_of {P H : Hp} (e : Ex P H) : ∀ (d : D) (v : V) (U : FP) (p : PyData), toP d = some p → Rep c P H d v U → Dp c.K H v p
  | .non, v, U, p, h, r => by cases h; rw [r.1]; exact .non
  | .bl b, v, U, p, h, r => by cases h; rw [r.1]; exact .bl b
  | .int b, v, U, p, h, r => by cases h; rw [r.1]; exact .int b
  | .str b, v, U, p, h, r => by cases h; rw [r.1]; exact .str _
  | .scr ns, v, U, p, h, ⟨a, e1, q, _⟩ => by cases h; rw [e1]; exact .lst (sql_mono e q) (dp_scr ns)
  | .kst ss, v, U, p, h, ⟨a, e1, q, _⟩ => by cases h; rw [e1]; exact .tup (sqt_mono e q) (dp_kst ss)
  | .key ks, v, U, p, h, ⟨a, e1, q, _⟩ => by cases h; rw [e1]; exact .tup (.inl (.inl (e _ _ q))) (dp_key ks)
  | .tup ds, v, U, p, h, ⟨a, xs, e1, q, r⟩ => by
    unfold toP at h
    cases z : toPL ds with
    | none => rw [z] at h; cases h
    | some ps => rw [z] at h; cases h; rw [e1]; exact .tup (sqt_mono e q) (dp_all e ds xs U ps z r)
  | .lst true ds, v, U, p, h, ⟨a, xs, T, e1, q, r, _⟩ => by
    unfold toP at h
    cases z : toPL ds with
    | none => rw [z] at h; cases h
    | some ps => rw [z] at h; cases h; rw [e1]; exact .lst (.inl (.inl q)) (dp_all e ds xs T ps z r)
  | .lst false ds, v, U, p, h, ⟨a, xs, e1, q, r⟩ => by
    unfold toP at h
    cases z : toPL ds with
    | none => rw [z] at h; cases h
    | some ps => rw [z] at h; cases h; rw [e1]; exact .lst (.inl (.inl (e _ _ q))) (dp_all e ds xs U ps z r)
  | .gone, _, _, _, h, _ => by cases h
  | .dK .., _, _, _, h, _ => by cases h
  | .dT .., _, _, _, h, _ => by cases h
  | .dN .., _, _, _, h, _ => by cases h
  | .obj .., _, _, _, h, _ => by cases h
theorem dp_all {P H : Hp} (e : Ex P H) : ∀ (ds : List D) (vs : List V) (U : FP) (ps : List PyData), toPL ds = some ps → RepL c P H ds vs U → DpAll c.K H vs ps
  | [], vs, U, ps, h, r => by cases h; rw [r.1]; exact .nil
  | d :: ds, vs, U, ps, h, ⟨y, ys, T, T2, e1, r, rs, _⟩ => by
    unfold toPL at h
    cases z : toP d with
    | none => rw [z] at h; cases h
    | some q =>
      cases z2 : toPL ds with
      | none => rw [z, z2] at h; cases h
      | some qs => rw [z, z2] at h; cases h; rw [e1]; exact .cons (dp_of e d y T q z r) (dp_all e ds ys T2 qs z2 rs)
end
def eqB (a b : D) : Option Bool := (toP a).bind fun p => (toP b).bind fun q => if SeqAt.shaped p = true ∧ SeqAt.shaped q = true then some (PyData.eqv p q) else none
def eqD (a b : D) : Option D := (eqB a b).map .bl
def neD (a b : D) : Option D := (eqB a b).map fun k => .bl (!k)
theorem eqB_dp {P H : Hp} (e : Ex P H) {a b : D} {x y : V} {U1 U2 : FP} {k : Bool} (h : eqB a b = some k) (r1 : Rep c P H a x U1) (r2 : Rep c P H b y U2) :
    ∃ p q, Dp c.K H x p ∧ Dp c.K H y q ∧ SeqAt.shaped p = true ∧ SeqAt.shaped q = true ∧ PyData.eqv p q = k := by
  unfold eqB at h
  cases z1 : toP a with
  | none => rw [z1] at h; cases h
  | some p =>
    cases z2 : toP b with
    | none => rw [z1, z2] at h; cases h
    | some q =>
      rw [z1, z2] at h
      simp only [Option.bind_some] at h
      split at h
      · rename_i hs
        cases h
        exact ⟨p, q, dp_of e _ _ _ _ z1 r1, dp_of e _ _ _ _ z2 r2, hs.1, hs.2, rfl⟩
      · cases h
theorem op_eqqD : Op2 c (rEqD c.K) eqD := by
  intro P H e da db d x y U1 U2 hf r1 r2 Q q
  unfold eqD at hf
  cases z : eqB da db with
  | none => rw [z] at hf; cases hf
  | some k =>
    rw [z] at hf; cases hf
    obtain ⟨p, p2, d1, d2, s1, s2, rfl⟩ := eqB_dp e z r1 r2
    exact ⟨p, p2, d1, d2, s1, s2, q.flat e ⟨rfl, rfl⟩⟩
theorem op_neqD : Op2 c (rNeD c.K) neD := by
  intro P H e da db d x y U1 U2 hf r1 r2 Q q
  unfold neD at hf
  cases z : eqB da db with
  | none => rw [z] at hf; cases hf
  | some k =>
    rw [z] at hf; cases hf
    obtain ⟨p, p2, d1, d2, s1, s2, rfl⟩ := eqB_dp e z r1 r2
    exact ⟨p, p2, d1, d2, s1, s2, q.flat e ⟨rfl, rfl⟩⟩

end
end LI

namespace LI
open PySem L2

theorem RepE.get {c : LC} {P H : Hp} : ∀ {ρ : List D} {σ : St} {S : FP} {i : Nat} {d : D}, RepE c P H ρ σ S → ρ[i]? = some d → ∃ ov T, σ[i]? = some ov ∧ RepO c P H d ov T ∧ ∀ a, T a ≤ S a
  | [], [], _, i, d, _, e => by simp at e
  | d0 :: ds, v0 :: σ, S, 0, d, ⟨T, U, r, rs, f⟩, e => by
    simp at e; subst e
    exact ⟨v0, T, rfl, r, fun a => by rw [f]; simp only [fa]; omega⟩
  | d0 :: ds, v0 :: σ, S, i + 1, d, ⟨T, U, r, rs, f⟩, e => by
    obtain ⟨ov, T2, h1, h2, h3⟩ := RepE.get (i := i) (d := d) rs (by simpa using e)
    exact ⟨ov, T2, by simpa using h1, h2, fun a => by have := h3 a; rw [f]; simp only [fa]; omega⟩
  | [], _ :: _, _, _, _, h, _ => h.elim
  | _ :: _, [], _, _, _, h, _ => h.elim
def notGone : D → Bool
  | .gone => false
  | _ => true
def vM (i : Nat) : RM := fun ρ => (ρ[i]?).bind fun d => if notGone d = true then some d else none
section
variable {X : Cx} {cl : Nat → Addr} {E : En} {e a b : Expr} {pos : Pos} {m ma mb : RM}
theorem tvar_run {c : LC} {i : Nat} {σ : St} {H : Hp} {Q : VK} (h : tR c E (vM i) σ H Q) : tVar i σ H Q := by
  obtain ⟨P, S, T, ρ, d, w, hm, q⟩ := h
  unfold vM at hm
  cases e : ρ[i]? with
  | none => rw [e] at hm; cases hm
  | some d1 =>
    rw [e] at hm
    simp only [Option.bind_some] at hm
    split at hm
    · rename_i hn
      cases hm
      obtain ⟨ov, T2, h1, h2, _⟩ := w.env.get e
      cases ov with
      | none => rw [h2.1] at hn; cases hn
      | some v => exact ⟨v, h1, q v H P T2 (.refl w.ph) h2⟩
    · cases hm
theorem r_v (i : Nat) {x : Str} (hN : X.N[i]? = some x := by rfl) (hv : Vis X.env.scope x := by first | exact Or.inl rfl | exact Or.inr (Or.inl rfl) | exact Or.inr (Or.inr rfl)) (hd : (x == ("__debug__" : Str)) = false := by decide)
    (hcd : (x == ("__classdict__" : Str)) = false := by decide) : PE X (.Name x pos) (tR ⟨X.K, cl, X.w⟩ E (vM i)) := PE_imp (pe_var hN hv hd hcd) fun _ _ _ h => tvar_run h

def kM (d : D) : RM := fun _ => some d
theorem tc_run {c : LC} {d : D} {v : V} (hr : ∀ P H, Ex P H → Rep c P H d v fz) {σ : St} {H : Hp} {Q : VK} (h : tF c E (kM d) σ H Q) : tC v σ H Q := by
  obtain ⟨P, S, T, ρ, d1, w, hm, q⟩ := h
  cases hm
  exact q.flat w.ph (hr P H w.ph)
theorem f_int {i : Int} {j} : PE X (.Constant (.int i) j pos) (tF ⟨X.K, cl, X.w⟩ E (kM (.int i))) := PE_imp pe_int fun _ _ _ h => tc_run (c := ⟨X.K, cl, X.w⟩) (d := .int i) (v := .int i) (fun _ _ _ => ⟨rfl, rfl⟩) h
theorem f_bl {k : Bool} {j} : PE X (.Constant (.bool k) j pos) (tF ⟨X.K, cl, X.w⟩ E (kM (.bl k))) := PE_imp pe_bl fun _ _ _ h => tc_run (c := ⟨X.K, cl, X.w⟩) (d := .bl k) (v := .bl k) (fun _ _ _ => ⟨rfl, rfl⟩) h
theorem f_non {j} : PE X (.Constant .none j pos) (tF ⟨X.K, cl, X.w⟩ E (kM .non)) := PE_imp pe_non fun _ _ _ h => tc_run (c := ⟨X.K, cl, X.w⟩) (d := .non) (v := .non) (fun _ _ _ => ⟨rfl, rfl⟩) h
theorem f_str {x : Str} {j} (s : List Nat) (hs : x = ⟨s.toArray⟩ := by rfl) : PE X (.Constant (.str x) j pos) (tF ⟨X.K, cl, X.w⟩ E (kM (.str s))) := PE_imp pe_str fun _ _ _ h => tc_run (c := ⟨X.K, cl, X.w⟩) (d := .str s) (v := .str x) (fun _ _ _ => ⟨by rw [hs], rfl⟩) h
theorem f_glob {x : Str} {v : V} {u : Value} (d : D) (hg : Gl X x) (hm : X.mg x = some u) (r : RelV v u) (hr : ∀ P H, Ex P H → Rep ⟨X.K, cl, X.w⟩ P H d v fz) (hd : (x == ("__debug__" : Str)) = false := by decide) : PE X (.Name x pos) (tF ⟨X.K, cl, X.w⟩ E (kM d)) :=
  PE_imp (pe_glob hg hm r hd) fun _ _ _ h => tc_run hr h

def negD : D → Option D
  | .int a => some (.int (-a))
  | _ => none
theorem f_neg (ha : PE X a (tR ⟨X.K, cl, X.w⟩ E ma)) : PE X (.UnaryOp .USub a pos) (tF ⟨X.K, cl, X.w⟩ E (m1 negD ma)) := PE_imp (pe_un un_neg ha) fun σ H Q ⟨P, S, T, ρ, d, w, hm, q⟩ => by
  unfold m1 at hm
  cases ea : ma ρ with
  | none => rw [ea] at hm; cases hm
  | some da =>
    rw [ea] at hm
    cases da with
    | int i =>
      cases hm
      refine ⟨P, S, T, ρ, .int i, w, ea, fun v H' P' U g r => ⟨i, r.1, ?_⟩⟩
      exact q _ H' P' fz g ⟨rfl, rfl⟩ (fun _ => Nat.zero_le _) fun a z => by simp [fz] at z
    | _ => cases hm

abbrev AM := List D → Option (List D)
def tAR (c : LC) (E : En) (m : AM) : TA := fun σ H Q => ∃ P S T ρ ds, Wd c E P S T σ H ρ ∧ m ρ = some ds ∧ ∀ vs H' P' U, Gr P H P' H' → RepL c P' H' ds vs U → Q vs H'
def nilM : AM := fun _ => some []
def consM (m : RM) (ms : AM) : AM := fun ρ => (m ρ).bind fun d => (ms ρ).map fun ds => d :: ds
theorem a_nil : PA X [] (tAR ⟨X.K, cl, X.w⟩ E nilM) := PA_imp pa_nil fun σ H Q ⟨P, S, T, ρ, ds, w, hm, q⟩ => by
  cases hm
  exact q [] H P fz (.refl w.ph) ⟨rfl, rfl⟩
theorem a_cons {es : List Expr} {ms : AM} (h : PE X e (tR ⟨X.K, cl, X.w⟩ E m)) (hr : PA X es (tAR ⟨X.K, cl, X.w⟩ E ms)) (hs : starEach (e :: es) X.env = (false, eval e X.env) :: starEach es X.env := by rfl) : PA X (e :: es) (tAR ⟨X.K, cl, X.w⟩ E (consM m ms)) :=
  PA_imp (pa_cons h hr hs) fun σ H Q ⟨P, S, T, ρ, ds, w, hm, q⟩ => by
    unfold consM at hm
    cases e1 : m ρ with
    | none => rw [e1] at hm; cases hm
    | some d =>
      cases e2 : ms ρ with
      | none => rw [e1, e2] at hm; cases hm
      | some ds' =>
        rw [e1, e2] at hm
        cases hm
        exact ⟨P, S, T, ρ, d, w, e1, fun v H1 P1 U1 g1 r1 => ⟨P1, S, T, ρ, ds', w.grow g1, e2, fun vs H2 P2 U2 g2 r2 => q (v :: vs) H2 P2 (fa U1 U2) (g1.trans g2) ⟨v, vs, U1, U2, rfl, r1.gr g2, r2, rfl⟩⟩⟩
def tupM (ms : AM) : RM := fun ρ => (ms ρ).bind fun ds => if frzL ds = true ∧ ds.length ≤ LIM then some (.tup ds) else none
def lstM (ms : AM) : RM := fun ρ => (ms ρ).bind fun ds => if frzL ds = true ∧ ds.length ≤ LIM then some (.lst true ds) else none
theorem f_tup {es : List Expr} {ms : AM} {x1} (h : PA X es (tAR ⟨X.K, cl, X.w⟩ E ms)) : PE X (.Tuple es x1 pos) (tF ⟨X.K, cl, X.w⟩ E (tupM ms)) := PE_imp (pe_tup h) fun σ H Q ⟨P, S, T, ρ, d, w, hm, q⟩ => by
  unfold tupM at hm
  cases e1 : ms ρ with
  | none => rw [e1] at hm; cases hm
  | some ds =>
    rw [e1] at hm
    simp only [Option.bind_some] at hm
    split at hm
    · rename_i hf
      cases hm
      refine ⟨P, S, T, ρ, ds, w, e1, fun vs H' P' U g r => ⟨by rw [← r.length]; exact lim_le hf.2, ?_⟩⟩
      have z := RepL.frz0 ds vs U hf.1 r
      subst z
      exact (q.grow g).tup g.ph r
    · cases hm
theorem f_lst {es : List Expr} {ms : AM} (h : PA X es (tAR ⟨X.K, cl, X.w⟩ E ms)) : PE X (.List es pos) (tF ⟨X.K, cl, X.w⟩ E (lstM ms)) := PE_imp (pe_lst h) fun σ H Q ⟨P, S, T, ρ, d, w, hm, q⟩ => by
  unfold lstM at hm
  cases e1 : ms ρ with
  | none => rw [e1] at hm; cases hm
  | some ds =>
    rw [e1] at hm
    simp only [Option.bind_some] at hm
    split at hm
    · rename_i hf
      cases hm
      refine ⟨P, S, T, ρ, ds, w, e1, fun vs H' P' U g r => ⟨by rw [← r.length]; exact lim_le hf.2, ?_⟩⟩
      have z := RepL.frz0 ds vs U hf.1 r
      subst z
      exact (q.grow g).lst g.ph r
    · cases hm

def keyD : D → Option Key
  | .int i => some (.inl i)
  | .str s => some (.inr ⟨s.toArray⟩)
  | _ => none
def keyDs : List D → Option (List Key)
  | [] => some []
  | d :: ds => (keyD d).bind fun k => (keyDs ds).map fun ks => k :: ks
theorem keyD_v {c : LC} {P H : Hp} {d : D} {v : V} {U : FP} {k : Key} (h : keyD d = some k) (r : Rep c P H d v U) : v = kV k := by
  unfold keyD at h
  split at h
  · cases h; exact r.1
  · cases h; exact r.1
  · cases h
def under {κ : Type} [DecidableEq κ] : List κ → List D → κ → Option D
  | k :: ks, d :: ds, x => if k = x then some d else under ks ds x
  | _, _, _ => none
def ixD : D → D → Option D
  | .lst _ ds, .int i => atI ds i
  | .tup ds, .int i => atI ds i
  | .scr ns, .int i => (atI ns i).map .int
  | .str s, .int i => if s.length ≤ LIM then (atI s i).map fun k => .str [k] else none
  | .dK _ ks ds, k => (keyD k).bind fun k => under ks ds k
  | _, _ => none
theorem atI_rep {c : LC} {P H : Hp} {ds : List D} {xs : List V} {S : FP} {i : Int} {d : D} (r : RepL c P H ds xs S) (h : atI ds i = some d) : ∃ x T, atI xs i = some x ∧ Rep c P H d x T ∧ ∀ a, T a ≤ S a := by
  unfold atI at h ⊢
  rw [← r.length]
  cases e : ixN ds.length i with
  | none => rw [e] at h; cases h
  | some j => rw [e] at h; exact r.get h
theorem atI_map {α β : Type} (f : α → β) (xs : List α) (i : Int) : atI (xs.map f) i = (atI xs i).map f := by
  unfold atI
  rw [List.length_map]
  cases ixN xs.length i with
  | none => rfl
  | some j => simp
end
theorem under_rep {c : LC} {P H : Hp} {κ : Type} [DecidableEq κ] : ∀ {ks : List κ} {ds : List D} {xs : List V} {S : FP} {k : κ} {d : D}, RepL c P H ds xs S → ks.length = xs.length → under ks ds k = some d → ∃ x T, (ks.zip xs).find? (fun p => decide (p.1 = k)) = some (k, x) ∧ Rep c P H d x T ∧ ∀ a, T a ≤ S a
  | [], ds, xs, S, k, d, r, n, h => by simp [under] at h
  | k0 :: ks, [], xs, S, k, d, r, n, h => by simp [under] at h
  | k0 :: ks, d0 :: ds, xs, S, k, d, ⟨y, ys, T, T2, e1, r, rs, f⟩, n, h => by
    subst e1
    unfold under at h
    by_cases q : k0 = k
    · rw [if_pos q] at h
      cases h
      exact ⟨y, T, by simp [q], r, fun a => by rw [f]; simp only [fa]; omega⟩
    · rw [if_neg q] at h
      obtain ⟨x, T3, h1, h2, h3⟩ := under_rep rs (by simpa using n) h
      exact ⟨x, T3, by simp [q, h1], h2, fun a => by have := h3 a; rw [f]; simp only [fa]; omega⟩
end LI

namespace LI
open PySem L2

theorem PE_or {X : Cx} {e : Expr} {t u : TE} (h : PE X e t) (k : PE X e u) : PE X e (fun σ H Q => t σ H Q ∨ u σ H Q) := ⟨fun pins s σ H Q I q => q.elim (h.run pins s σ H Q I) (k.run pins s σ H Q I)⟩
theorem PT_or {X : Cx} {e : Expr} {t u : TT} (h : PT X e t) (k : PT X e u) : PT X e (fun σ H Q => t σ H Q ∨ u σ H Q) := ⟨fun pins s σ H Q I q => q.elim (h.run pins s σ H Q I) (k.run pins s σ H Q I)⟩

theorem dict_under {c : LC} {P H : Hp} (e : Ex P H) {dt : D} {x y : V} {U1 U2 : FP} {dk : D} :
    (∀ o ks ds, dt = .dK o ks ds → ∀ k, keyD dk = some k → Rep c P H dt x U1 → Rep c P H dk y U2 → ∃ a xs, x = .ref a ∧ H a = some (.dK (ks.zip xs)) ∧ ks.length = xs.length ∧ y = kV k ∧ ∃ T, RepL c P H ds xs T) := by
  refine fun o ks ds hd k hk r1 r2 => ?_
  · subst hd
    cases o with
    | true => obtain ⟨a, xs, T, e1, h, n, rl, _⟩ := r1; exact ⟨a, xs, e1, h, n, keyD_v hk r2, T, rl⟩
    | false => obtain ⟨a, xs, e1, h, n, rl⟩ := r1; exact ⟨a, xs, e1, e _ _ h, n, keyD_v hk r2, U1, rl⟩
theorem under_val {c : LC} {P H : Hp} {κ : Type} [DecidableEq κ] {ks : List κ} {ds : List D} {xs : List V} {S : FP} {k : κ} {d : D} (r : RepL c P H ds xs S) (n : ks.length = xs.length) (h : under ks ds k = some d) : ∃ x T, valV (ks.zip xs) k = some x ∧ Rep c P H d x T := by
  obtain ⟨x, T, h1, h2, _⟩ := under_rep r n h
  exact ⟨x, T, by unfold valV; rw [h1]; rfl, h2⟩
theorem under_none {c : LC} {P H : Hp} {κ : Type} [DecidableEq κ] : ∀ {ks : List κ} {ds : List D} {xs : List V} {S : FP} {k : κ}, RepL c P H ds xs S → ks.length = xs.length → under ks ds k = none → valV (ks.zip xs) k = none
  | [], ds, xs, S, k, r, n, h => by simp [valV]
  | k0 :: ks, [], xs, S, k, r, n, h => by rw [r.1] at n; simp at n
  | k0 :: ks, d0 :: ds, xs, S, k, ⟨y, ys, T, T2, e1, r, rs, f⟩, n, h => by
    subst e1
    unfold under at h
    by_cases q : k0 = k
    · rw [if_pos q] at h; cases h
    · rw [if_neg q] at h
      have := under_none rs (by simpa using n) h
      rw [List.zip_cons_cons, valV_neg (by simpa using q)]
      exact this
section
variable {X : Cx} {cl : Nat → Addr} {E : En} {e a b : Expr} {pos : Pos} {m ma mb : RM}
theorem r_ix (hu : X.A.units + 64 < cLine) (ha : PE X a (tR ⟨X.K, cl, X.w⟩ E ma)) (hb : PE X b (tR ⟨X.K, cl, X.w⟩ E mb)) (hs : PlainIx b := by exact fun _ _ => rfl) : PE X (.Subscript a b pos) (tR ⟨X.K, cl, X.w⟩ E (m2 ixD ma mb)) := by
  refine PE_imp (PE_or (pe_ix ix_seq ha hb hs) (pe_dget (Nat.lt_of_le_of_lt (by omega) hu) ha hb hs)) fun σ H Q ⟨P, S, T, ρ, d, w, hm, q⟩ => ?_
  unfold m2 at hm
  cases ea : ma ρ with
  | none => rw [ea] at hm; cases hm
  | some da =>
    cases eb : mb ρ with
    | none => rw [ea, eb] at hm; cases hm
    | some db =>
      rw [ea, eb] at hm
      replace hm : ixD da db = some d := hm
      unfold ixD at hm
      split at hm
      · rename_i o ds i
        left
        refine ⟨P, S, T, ρ, .lst o ds, w, ea, fun x H1 P1 U1 g1 r1 => ⟨P1, S, T, ρ, .int i, w.grow g1, eb, fun y H2 P2 U2 g2 r2 => ?_⟩⟩
        obtain ⟨p, xs, T', e1, hh, rl, _⟩ := lst_heap g2.ph (r1.gr g2)
        obtain ⟨z, T2, h1, h2, _⟩ := atI_rep rl hm
        exact .inl ⟨p, xs, i, z, e1, r2.1, .inl (.inl hh), h1, q z H2 P2 T2 (g1.trans g2) h2⟩
      · rename_i ds i
        left
        refine ⟨P, S, T, ρ, .tup ds, w, ea, fun x H1 P1 U1 g1 r1 => ⟨P1, S, T, ρ, .int i, w.grow g1, eb, fun y H2 P2 U2 g2 r2 => ?_⟩⟩
        obtain ⟨p, xs, e1, hh, rl⟩ := r1.gr g2
        obtain ⟨z, T2, h1, h2, _⟩ := atI_rep rl hm
        exact .inr (.inl ⟨p, xs, i, z, e1, r2.1, sqt_mono g2.ph hh, h1, q z H2 P2 T2 (g1.trans g2) h2⟩)
      · rename_i ns i
        left
        refine ⟨P, S, T, ρ, .scr ns, w, ea, fun x H1 P1 U1 g1 r1 => ⟨P1, S, T, ρ, .int i, w.grow g1, eb, fun y H2 P2 U2 g2 r2 => ?_⟩⟩
        obtain ⟨p, e1, hh, _⟩ := r1.gr g2
        cases z : atI ns i with
        | none => rw [z] at hm; cases hm
        | some k =>
          rw [z] at hm; cases hm
          exact .inl ⟨p, _, i, .int k, e1, r2.1, sql_mono g2.ph hh, by rw [atI_map, z]; rfl, q _ H2 P2 fz (g1.trans g2) ⟨rfl, rfl⟩⟩
      · rename_i s i
        split at hm
        · rename_i hl
          left
          refine ⟨P, S, T, ρ, .str s, w, ea, fun x H1 P1 U1 g1 r1 => ⟨P1, S, T, ρ, .int i, w.grow g1, eb, fun y H2 P2 U2 g2 r2 => ?_⟩⟩
          cases z : atI s i with
          | none => rw [z] at hm; cases hm
          | some k =>
            rw [z] at hm; cases hm
            exact .inr (.inr ⟨⟨s.toArray⟩, i, k, r1.1, r2.1, by rw [str_len]; exact lim_le hl, by simpa using z, q _ H2 P2 fz (g1.trans g2) ⟨rfl, rfl⟩⟩)
        · cases hm
      · rename_i o ks ds
        right
        cases z : keyD db with
        | none => rw [z] at hm; cases hm
        | some k =>
          rw [z] at hm
          refine ⟨P, S, T, ρ, .dK o ks ds, w, ea, fun x H1 P1 U1 g1 r1 => ⟨P1, S, T, ρ, _, w.grow g1, eb, fun y H2 P2 U2 g2 r2 => ?_⟩⟩
          obtain ⟨p, xs, e1, hh, n, ey, T', rl⟩ := (dict_under g2.ph) o ks ds rfl k z (r1.gr g2) r2
          obtain ⟨v, T2, h1, h2⟩ := under_val rl n hm
          exact ⟨p, v, e1, .inl ⟨_, k, .inl hh, ey, h1.symm⟩, q v H2 P2 T2 (g1.trans g2) h2⟩
      · cases hm

def cutL {α : Type} (xs : List α) (lo hi : Option Int) : List α := (xs.drop (HT.sIx xs.length 0 lo)).take (HT.sIx xs.length xs.length hi - HT.sIx xs.length 0 lo)
def slD (lo hi : Option Int) : D → Option D
  | .lst _ ds => if frzL ds = true then some (.lst true (cutL ds lo hi)) else none
  | .tup ds => if frzL ds = true then some (.tup (cutL ds lo hi)) else none
  | .scr ns => some (.lst true ((cutL ns lo hi).map .int))
  | .str s => if s.length ≤ LIM then some (.str (cutL s lo hi)) else none
  | _ => none
abbrev OM := List D → Option (Option Int)
def noM : OM := fun _ => some none
def soM (m : RM) : OM := fun ρ => (m ρ).bind fun d => match d with | .int i => some (some i) | _ => none
def slM (m : RM) (lo hi : OM) : RM := fun ρ => (m ρ).bind fun d => (lo ρ).bind fun l => (hi ρ).bind fun h => slD l h d
def tOM (c : LC) (E : En) (m : OM) : TO := fun σ H Q => ∃ P S T ρ o, Wd c E P S T σ H ρ ∧ m ρ = some o ∧ ∀ H' P', Gr P H P' H' → Q o H'
theorem o_none : PO X none (tOM ⟨X.K, cl, X.w⟩ E noM) := ⟨fun pins s σ H Q I ⟨P, S, T, ρ, o, w, hm, q⟩ => by
  cases hm
  exact po_none.run pins s σ H Q I (q H P (.refl w.ph))⟩
theorem o_some (h : PE X e (tR ⟨X.K, cl, X.w⟩ E m)) : PO X (some e) (tOM ⟨X.K, cl, X.w⟩ E (soM m)) := ⟨fun pins s σ H Q I ⟨P, S, T, ρ, o, w, hm, q⟩ => by
  refine (po_some h).run pins s σ H Q I ?_
  unfold soM at hm
  cases ea : m ρ with
  | none => rw [ea] at hm; cases hm
  | some da =>
    rw [ea] at hm
    cases da with
    | int i =>
      cases hm
      exact ⟨P, S, T, ρ, .int i, w, ea, fun v H' P' U g r => ⟨i, r.1, q H' P' g⟩⟩
    | _ => cases hm⟩
theorem RepL.cut {c : LC} {P H : Hp} {ds : List D} {xs : List V} (r : RepL c P H ds xs fz) (lo hi : Option Int) : RepL c P H (cutL ds lo hi) (cutV xs lo hi) fz := by
  unfold cutL cutV
  rw [r.length]
  exact (r.drop _).take _
theorem cutL_map {α β : Type} (f : α → β) (xs : List α) (lo hi : Option Int) : cutL (xs.map f) lo hi = (cutL xs lo hi).map f := by
  unfold cutL
  rw [List.length_map, ← List.map_drop, ← List.map_take]
theorem repL_ints {c : LC} {P H : Hp} : ∀ ns : List Int, RepL c P H (ns.map .int) (ns.map .int) fz
  | [] => ⟨rfl, rfl⟩
  | n :: ns => ⟨.int n, _, fz, fz, rfl, ⟨rfl, rfl⟩, repL_ints ns, (fa_fz fz).symm⟩
theorem f_sl {lo hi : Option Expr} {ml mh : OM} {p2 : Pos} (ha : PE X a (tR ⟨X.K, cl, X.w⟩ E ma)) (hl : PO X lo (tOM ⟨X.K, cl, X.w⟩ E ml)) (hh : PO X hi (tOM ⟨X.K, cl, X.w⟩ E mh)) : PE X (.Subscript a (.Slice lo hi none p2) pos) (tF ⟨X.K, cl, X.w⟩ E (slM ma ml mh)) := by
  refine PE_imp (pe_slice (SlR.or sl_list (SlR.or sl_tupA sl_str)) ha hl hh) fun σ H Q ⟨P, S, T, ρ, d, w, hm, q⟩ => ?_
  unfold slM at hm
  cases ea : ma ρ with
  | none => rw [ea] at hm; cases hm
  | some da =>
    cases el : ml ρ with
    | none => rw [ea, el] at hm; cases hm
    | some l =>
      cases eh : mh ρ with
      | none => rw [ea, el, eh] at hm; cases hm
      | some h =>
        rw [ea, el, eh] at hm
        replace hm : slD l h da = some d := hm
        refine ⟨P, S, T, ρ, da, w, ea, fun x H1 P1 U1 g1 r1 => ⟨P1, S, T, ρ, l, w.grow g1, el, fun H2 P2 g2 => ⟨P2, S, T, ρ, h, (w.grow g1).grow g2, eh, fun H3 P3 g3 => ?_⟩⟩⟩
        have r3 := (r1.gr g2).gr g3
        have gg := (g1.trans g2).trans g3
        unfold slD at hm
        split at hm
        · rename_i o ds
          split at hm
          · rename_i hf
            cases hm
            obtain ⟨p, xs, e1, hh, rl⟩ := lst_heap0 g3.ph r3 hf
            exact .inl ⟨p, xs, e1, .inl (.inl hh), (q.grow gg).lst g3.ph (rl.cut l h)⟩
          · cases hm
        · rename_i ds
          split at hm
          · rename_i hf
            cases hm
            obtain ⟨p, xs, e1, hh, hp, rl⟩ := tup_heap0 g3.ph r3 hf
            refine .inr (.inl ⟨p, xs, e1, hh, fun z => ?_, fun _ => (q.grow gg).tup g3.ph (rl.cut l h)⟩)
            have e2 : cutL ds l h = ds := by
              unfold cutL
              rw [rl.length, z.1, z.2, List.drop_zero, Nat.sub_zero, ← rl.length, List.take_length]
            rw [e2] at q
            exact (q.grow gg).flat g3.ph ⟨p, xs, e1 ▸ rfl, hp, rl⟩
          · cases hm
        · rename_i ns
          cases hm
          obtain ⟨p, e1, hh, _⟩ := r3
          refine .inl ⟨p, _, e1, sql_mono g3.ph hh, ?_⟩
          have := (q.grow gg).lst (xs := (cutL ns l h).map .int) g3.ph (repL_ints _)
          have e2 : cutV (ns.map V.int) l h = (cutL ns l h).map .int := cutL_map V.int ns l h
          rw [e2]
          exact this
        · rename_i s
          split at hm
          · rename_i hl
            cases hm
            refine .inr (.inr ⟨⟨s.toArray⟩, r3.1, by rw [str_len]; exact lim_le hl, (q.grow gg).flat g3.ph ⟨?_, rfl⟩⟩)
            unfold cutS cutL
            rw [str_len]
          · cases hm
        · cases hm

def flatD : D → Bool
  | .non => true | .bl _ => true | .int _ => true | .str _ => true | _ => false
def eqF : D → D → Bool
  | .non, .non => true
  | .bl a, .bl b => a == b
  | .bl a, .int b => (if a then 1 else 0) == b
  | .int a, .bl b => a == (if b then 1 else 0)
  | .int a, .int b => a == b
  | .str a, .str b => a == b
  | _, _ => false
theorem flat_v {c : LC} {P H : Hp} : ∀ {d : D} {v : V} {U : FP}, flatD d = true → Rep c P H d v U → flatV v = true
  | .non, v, U, _, r => by rw [r.1]; rfl
  | .bl _, v, U, _, r => by rw [r.1]; rfl
  | .int _, v, U, _, r => by rw [r.1]; rfl
  | .str _, v, U, _, r => by rw [r.1]; rfl
theorem str_beq (a b : List Nat) : ((⟨a.toArray⟩ : Str) == ⟨b.toArray⟩) = (a == b) := by
  rw [Bool.eq_iff_iff, beq_iff_eq, beq_iff_eq]
  exact ⟨fun h => by have := congrArg (fun z : Str => z.cps.toList) h; simpa using this, fun h => by rw [h]⟩
theorem eqF_v {c : LC} {P H : Hp} {d e : D} {v u : V} {U1 U2 : FP} (h1 : flatD d = true) (h2 : flatD e = true) (r1 : Rep c P H d v U1) (r2 : Rep c P H e u U2) : eqV v u = eqF d e := by
  cases d <;> first | cases h1 | skip
  all_goals (cases e <;> first | cases h2 | skip)
  all_goals (rw [r1.1, r2.1])
  all_goals first
    | rfl
    | exact str_beq _ _
theorem any_v {c : LC} {P H : Hp} {d : D} {v : V} {U1 : FP} (h1 : flatD d = true) (r1 : Rep c P H d v U1) : ∀ {ds : List D} {xs : List V} {U2 : FP}, ds.all flatD = true → RepL c P H ds xs U2 → xs.all flatV = true ∧ inV v xs = ds.any (fun y => eqF y d)
  | [], xs, U2, _, r => by rw [r.1]; exact ⟨rfl, rfl⟩
  | e :: ds, xs, U2, h, ⟨y, ys, T, T2, e1, r, rs, _⟩ => by
    simp only [List.all_cons, Bool.and_eq_true] at h
    obtain ⟨k1, k2⟩ := any_v h1 r1 h.2 rs
    subst e1
    refine ⟨by rw [List.all_cons, flat_v h.1 r, k1]; rfl, ?_⟩
    unfold inV at k2 ⊢
    rw [List.any_cons, List.any_cons, k2, eqF_v h.1 h1 r r1]
def inB : D → D → Option Bool
  | .str [k], .str z => some (decide (k ∈ z))
  | x, .lst _ ds => if flatD x = true ∧ ds.all flatD = true then some (ds.any fun y => eqF y x) else none
  | x, .tup ds => if flatD x = true ∧ ds.all flatD = true then some (ds.any fun y => eqF y x) else none
  | .str x, .kst ss => some (ss.any fun y => y == x)
  | x, .dK _ ks ds => (keyD x).map fun k => (under ks ds k).isSome
  | _, _ => none
def inD (x y : D) : Option D := (inB x y).map .bl
def ninD (x y : D) : Option D := (inB x y).map fun k => .bl (!k)
theorem kst_any {x : List Nat} : ∀ ss : List (List Nat), (ss.map fun s => V.str ⟨s.toArray⟩).all flatV = true ∧ inV (.str ⟨x.toArray⟩) (ss.map fun s => V.str ⟨s.toArray⟩) = ss.any fun y => y == x
  | [] => ⟨rfl, rfl⟩
  | s :: ss => by
    obtain ⟨h1, h2⟩ := kst_any (x := x) ss
    refine ⟨by rw [List.map_cons, List.all_cons, h1]; rfl, ?_⟩
    unfold inV at h2 ⊢
    rw [List.map_cons, List.any_cons, List.any_cons, h2]
    show ((⟨s.toArray⟩ : Str) == ⟨x.toArray⟩ || _) = _
    rw [str_beq]
theorem isSome_under {c : LC} {P H : Hp} {κ : Type} [DecidableEq κ] {ks : List κ} {ds : List D} {xs : List V} {S : FP} {k : κ} (r : RepL c P H ds xs S) (n : ks.length = xs.length) : (valV (ks.zip xs) k).isSome = (under ks ds k).isSome := by
  cases h : under ks ds k with
  | none => rw [under_none r n h]; rfl
  | some d => obtain ⟨x, T, h1, _⟩ := under_val r n h; rw [h1]; rfl
def tIn (K : PySem.W.Frag) (neg : Bool) (ta tb : TE) : TE := fun σ H Q =>
  tOp (fun x y H Q => (∃ (c : Nat) (z : Str), x = .str ⟨#[c]⟩ ∧ y = .str z ∧ Q (.bl (if neg then !decide (c ∈ z.cps.toList) else decide (c ∈ z.cps.toList))) H) ∨ rIn K neg x y H Q) ta tb σ H Q ∨ (if neg then tDNotIn ta tb else tDIn ta tb) σ H Q
theorem tIn_run {c : LC} {neg : Bool} {σ : St} {H : Hp} {Q : VK} {P : Hp} {S T : FP} {ρ : List D} {da db : D} {k : Bool} (w : Wd c E P S T σ H ρ) (ea : ma ρ = some da) (eb : mb ρ = some db) (hm : inB da db = some k)
    (q : ∀ H' P', Gr P H P' H' → Q (.bl (if neg then !k else k)) H') : tIn c.K neg (tR c E ma) (tR c E mb) σ H Q := by
  have seq : ∀ (hf : flatD da = true) (ds : List D), ds.all flatD = true → (k = ds.any fun y => eqF y da) → ∀ H2 P2 x y U1, Gr P H P2 H2 → Rep c P2 H2 da x U1 → (∃ p xs U2, y = V.ref p ∧ (SqL c.K H2 p xs ∨ SqT c.K H2 p xs) ∧ RepL c P2 H2 ds xs U2) → rIn c.K neg x y H2 Q := by
    intro hf ds hds hk H2 P2 x y U1 g r1 ⟨p, xs, U2, e1, hs, rl⟩
    obtain ⟨k1, k2⟩ := any_v hf r1 hds rl
    refine ⟨p, xs, e1, hs, flat_v hf r1, k1, ?_⟩
    rw [k2, ← hk]
    exact q H2 P2 g
  unfold inB at hm
  split at hm
  · rename_i j z
    cases hm
    refine .inl ⟨P, S, T, ρ, _, w, ea, fun x H1 P1 U1 g1 r1 => ⟨P1, S, T, ρ, _, w.grow g1, eb, fun y H2 P2 U2 g2 r2 => .inl ⟨j, _, r1.1, r2.1, by simpa using q H2 P2 (g1.trans g2)⟩⟩⟩
  · rename_i o ds
    split at hm
    · rename_i hf
      cases hm
      refine .inl ⟨P, S, T, ρ, _, w, ea, fun x H1 P1 U1 g1 r1 => ⟨P1, S, T, ρ, _, w.grow g1, eb, fun y H2 P2 U2 g2 r2 => .inr ?_⟩⟩
      obtain ⟨p, xs, T', e1, hh, rl, _⟩ := lst_heap g2.ph r2
      exact seq hf.1 ds hf.2 rfl H2 P2 x y U1 (g1.trans g2) (r1.gr g2) ⟨p, xs, T', e1, .inl (.inl (.inl hh)), rl⟩
    · cases hm
  · rename_i ds
    split at hm
    · rename_i hf
      cases hm
      refine .inl ⟨P, S, T, ρ, _, w, ea, fun x H1 P1 U1 g1 r1 => ⟨P1, S, T, ρ, _, w.grow g1, eb, fun y H2 P2 U2 g2 r2 => .inr ?_⟩⟩
      obtain ⟨p, xs, e1, hh, rl⟩ := r2
      exact seq hf.1 ds hf.2 rfl H2 P2 x y U1 (g1.trans g2) (r1.gr g2) ⟨p, xs, U2, e1, .inr (sqt_mono g2.ph hh), rl⟩
    · cases hm
  · rename_i x0 ss
    cases hm
    refine .inl ⟨P, S, T, ρ, _, w, ea, fun x H1 P1 U1 g1 r1 => ⟨P1, S, T, ρ, _, w.grow g1, eb, fun y H2 P2 U2 g2 r2 => .inr ?_⟩⟩
    obtain ⟨p, e1, hh, _⟩ := r2
    obtain ⟨k1, k2⟩ := kst_any (x := x0) ss
    refine ⟨p, _, e1, .inr (sqt_mono g2.ph hh), by rw [r1.1]; rfl, k1, ?_⟩
    rw [r1.1, k2]
    exact q H2 P2 (g1.trans g2)
  · rename_i o ks ds
    cases z : keyD da with
    | none => rw [z] at hm; cases hm
    | some kk =>
      rw [z] at hm
      cases hm
      right
      have run : ∀ H2 P2 x y U1 U2, Gr P H P2 H2 → Rep c P2 H2 da x U1 → Rep c P2 H2 (.dK o ks ds) y U2 → ∃ a o', y = V.ref a ∧ DGet H2 a x o' ∧ o'.isSome = (under ks ds kk).isSome := by
        intro H2 P2 x y U1 U2 g r1 r2
        obtain ⟨p, xs, e1, hh, n, ey, T', rl⟩ := (dict_under g.ph) o ks ds rfl kk z r2 r1
        exact ⟨p, _, e1, .inl ⟨_, kk, .inl hh, ey, rfl⟩, isSome_under rl n⟩
      cases neg with
      | true =>
        refine ⟨P, S, T, ρ, _, w, ea, fun x H1 P1 U1 g1 r1 => ⟨P1, S, T, ρ, _, w.grow g1, eb, fun y H2 P2 U2 g2 r2 => ?_⟩⟩
        obtain ⟨a, o', e1, dg, es⟩ := run H2 P2 x y U1 U2 (g1.trans g2) (r1.gr g2) r2
        exact ⟨a, o', e1, dg, by rw [es]; exact q H2 P2 (g1.trans g2)⟩
      | false =>
        refine ⟨P, S, T, ρ, _, w, ea, fun x H1 P1 U1 g1 r1 => ⟨P1, S, T, ρ, _, w.grow g1, eb, fun y H2 P2 U2 g2 r2 => ?_⟩⟩
        obtain ⟨a, o', e1, dg, es⟩ := run H2 P2 x y U1 U2 (g1.trans g2) (r1.gr g2) r2
        exact ⟨a, o', e1, dg, by rw [es]; exact q H2 P2 (g1.trans g2)⟩
  · cases hm
theorem opr_ninS : OpR X (compareOp .NotIn) (fun x y H Q => (∃ (c : Nat) (z : Str), x = .str ⟨#[c]⟩ ∧ y = .str z ∧ Q (.bl (if true = true then !decide (c ∈ z.cps.toList) else decide (c ∈ z.cps.toList))) H) ∨ rIn X.K true x y H Q) := OpR_or op_notIn_sign op_notIn_seq
theorem m2_split {f : D → D → Option D} {ρ : List D} {d : D} (h : m2 f ma mb ρ = some d) : ∃ da db, ma ρ = some da ∧ mb ρ = some db ∧ f da db = some d := by
  unfold m2 at h
  cases ea : ma ρ with
  | none => rw [ea] at h; cases h
  | some da =>
    cases eb : mb ρ with
    | none => rw [ea, eb] at h; cases h
    | some db => rw [ea, eb] at h; exact ⟨da, db, rfl, rfl, h⟩
theorem ninD_split {x y d : D} (h : ninD x y = some d) : ∃ k, inB x y = some k ∧ d = .bl (!k) := by
  unfold ninD at h
  cases z : inB x y with
  | none => rw [z] at h; cases h
  | some k => rw [z] at h; cases h; exact ⟨k, rfl, rfl⟩
theorem t_nin (hu : X.A.units + 64 < cLine) (ha : PE X a (tR ⟨X.K, cl, X.w⟩ E ma)) (hb : PE X b (tR ⟨X.K, cl, X.w⟩ E mb)) (hm : behindInMarks .NotIn b = false := by rfl) : PT X (.Compare a [.NotIn] [b] pos) (tT ⟨X.K, cl, X.w⟩ E (bM (m2 ninD ma mb))) :=
  PT_imp (PT_or (pt_cmpR opr_ninS ha hb hm) (pt_cmp (pc_dnotin (Nat.lt_of_le_of_lt (by omega) hu) ha hb) hm)) fun σ H Q ⟨P, S, T, ρ, d, w, h, q⟩ => by
    obtain ⟨da, db, ea, eb, h⟩ := m2_split (bM_some h)
    obtain ⟨k, h2, e⟩ := ninD_split h
    cases e
    exact tIn_run (neg := true) (Q := fun x H' => ∃ k, x = .bl k ∧ Q k H') w ea eb h2 fun H' P' g => ⟨_, rfl, q H' P' g⟩
end
end LI

namespace LI
open PySem L2

section
variable {X : Cx} {cl : Nat → Addr} {E : En} {e a b : Expr} {pos : Pos} {m ma mb : RM}
def truD : D → Option Bool
  | .non => some false
  | .bl b => some b
  | .int i => some (i != 0)
  | .str s => if s.length ≤ LIM then some (!s.isEmpty) else none
  | .tup ds => some (!ds.isEmpty)
  | .lst _ ds => some (!ds.isEmpty)
  | .scr ns => some (!ns.isEmpty)
  | _ => none
def truM (m : RM) : BM := fun ρ => (m ρ).bind truD
theorem emp_eq {α β : Type} {xs : List α} {ys : List β} (h : xs.length = ys.length) : xs.isEmpty = ys.isEmpty := by
  cases xs <;> cases ys <;> first | rfl | (simp at h)
theorem truD_v {c : LC} {P H : Hp} (e : Ex P H) : ∀ {d : D} {v : V} {U : FP} {k : Bool}, truD d = some k → Rep c P H d v U → TruV c.K v H k
  | .non, v, U, k, h, r => by cases h; rw [r.1]; rfl
  | .bl b, v, U, k, h, r => by cases h; rw [r.1]; rfl
  | .int b, v, U, k, h, r => by cases h; rw [r.1]; rfl
  | .str s, v, U, k, h, r => by
    replace h : (if s.length ≤ LIM then some (!s.isEmpty) else none) = some k := h
    by_cases hl : s.length ≤ LIM
    · rw [if_pos hl] at h
      cases h
      rw [r.1]
      refine ⟨by rw [str_len]; exact lim_le hl, ?_⟩
      rw [str_len]
      cases s with
      | nil => rfl
      | cons x s =>
        have : ((x :: s).length : Int) ≠ 0 := by rw [List.length_cons]; omega
        simp [bne, this]
        omega
    · rw [if_neg hl] at h; cases h
  | .tup ds, v, U, k, h, ⟨a, xs, e1, hp, rl⟩ => by cases h; rw [e1]; exact .inr (.inl ⟨xs, sqt_mono e hp, by rw [emp_eq rl.length]⟩)
  | .lst o ds, v, U, k, h, r => by
    cases h
    obtain ⟨p, xs, T, e1, hh, rl, _⟩ := lst_heap e r
    rw [e1]
    exact .inl ⟨xs, .inl (.inl hh), by rw [emp_eq rl.length]⟩
  | .scr ns, v, U, k, h, ⟨a, e1, hp, _⟩ => by cases h; rw [e1]; exact .inl ⟨_, sql_mono e hp, by rw [emp_eq (List.length_map (f := V.int))]⟩
  | .gone, _, _, _, h, _ => by cases h
  | .kst _, _, _, _, h, _ => by cases h
  | .dK .., _, _, _, h, _ => by cases h
  | .dT .., _, _, _, h, _ => by cases h
  | .dN .., _, _, _, h, _ => by cases h
  | .obj .., _, _, _, h, _ => by cases h
theorem t_val (ha : PE X a (tR ⟨X.K, cl, X.w⟩ E m)) (he : ∀ whole, isTrue a X.env whole = (do let v ← whole; standAt a.pos; holding [v] (truthy v)) := by intro _; rfl) : PT X a (tT ⟨X.K, cl, X.w⟩ E (truM m)) :=
  PT_imp (pt_truth ha he) fun σ H Q ⟨P, S, T, ρ, b, w, hm, q⟩ => by
    unfold truM at hm
    cases ea : m ρ with
    | none => rw [ea] at hm; cases hm
    | some d =>
      rw [ea] at hm
      exact ⟨P, S, T, ρ, d, w, ea, fun v H' P' U g r => ⟨b, truD_v g.ph hm r, q H' P' g⟩⟩
def notB (m : BM) : BM := fun ρ => (m ρ).map not
def andB (ma mb : BM) : BM := fun ρ => (ma ρ).bind fun k => if k = true then mb ρ else some false
def orB (ma mb : BM) : BM := fun ρ => (ma ρ).bind fun k => if k = true then some true else mb ρ
theorem t_not {m : BM} (h : PT X a (tT ⟨X.K, cl, X.w⟩ E m)) : PT X (.UnaryOp .Not a pos) (tT ⟨X.K, cl, X.w⟩ E (notB m)) := PT_imp (pt_not h) fun σ H Q ⟨P, S, T, ρ, b, w, hm, q⟩ => by
  unfold notB at hm
  cases ea : m ρ with
  | none => rw [ea] at hm; cases hm
  | some k =>
    rw [ea] at hm
    cases hm
    exact ⟨P, S, T, ρ, k, w, ea, q⟩
theorem w_and1 {m : BM} (h : PT X a (tT ⟨X.K, cl, X.w⟩ E m)) : PW X (.BoolOp .And [a] pos) (tT ⟨X.K, cl, X.w⟩ E m) := pw_and1 h
theorem w_or1 {m : BM} (h : PT X a (tT ⟨X.K, cl, X.w⟩ E m)) : PW X (.BoolOp .Or [a] pos) (tT ⟨X.K, cl, X.w⟩ E m) := pw_or1 h
theorem w_and {ma mb : BM} {rest : List Expr} (h : PT X a (tT ⟨X.K, cl, X.w⟩ E ma)) (k : PW X (.BoolOp .And (b :: rest) pos) (tT ⟨X.K, cl, X.w⟩ E mb)) : PW X (.BoolOp .And (a :: b :: rest) pos) (tT ⟨X.K, cl, X.w⟩ E (andB ma mb)) :=
  PW_imp (pw_and h k) fun σ H Q ⟨P, S, T, ρ, d, w, hm, q⟩ => by
    unfold andB at hm
    cases ea : ma ρ with
    | none => rw [ea] at hm; cases hm
    | some x =>
      rw [ea] at hm
      refine ⟨P, S, T, ρ, x, w, ea, fun H' P' g => ?_⟩
      cases x with
      | true => exact iteT ⟨P', S, T, ρ, d, w.grow g, hm, fun H2 P2 g2 => q H2 P2 (g.trans g2)⟩
      | false => cases hm; exact iteF (q H' P' g)
theorem w_or {ma mb : BM} {rest : List Expr} (h : PT X a (tT ⟨X.K, cl, X.w⟩ E ma)) (k : PW X (.BoolOp .Or (b :: rest) pos) (tT ⟨X.K, cl, X.w⟩ E mb)) : PW X (.BoolOp .Or (a :: b :: rest) pos) (tT ⟨X.K, cl, X.w⟩ E (orB ma mb)) :=
  PW_imp (pw_or h k) fun σ H Q ⟨P, S, T, ρ, d, w, hm, q⟩ => by
    unfold orB at hm
    cases ea : ma ρ with
    | none => rw [ea] at hm; cases hm
    | some x =>
      rw [ea] at hm
      refine ⟨P, S, T, ρ, x, w, ea, fun H' P' g => ?_⟩
      cases x with
      | true => cases hm; exact iteT (q H' P' g)
      | false => exact iteF ⟨P', S, T, ρ, d, w.grow g, hm, fun H2 P2 g2 => q H2 P2 (g.trans g2)⟩
theorem t_w {m : BM} (h : PW X a (tT ⟨X.K, cl, X.w⟩ E m)) : PT X a (tT ⟨X.K, cl, X.w⟩ E m) := h.pt

def notD (m : RM) : RM := fun ρ => ((m ρ).bind truD).map fun k => .bl (!k)
def andM (ma mb : RM) : RM := fun ρ => (bM ma ρ).bind fun k => if k = true then mb ρ else some (.bl false)
def orM (ma mb : RM) : RM := fun ρ => (bM ma ρ).bind fun k => if k = true then some (.bl true) else mb ρ
theorem f_not (ha : PE X a (tR ⟨X.K, cl, X.w⟩ E m)) : PE X (.UnaryOp .Not a pos) (tF ⟨X.K, cl, X.w⟩ E (notD m)) := PE_imp (pe_notT ha) fun σ H Q ⟨P, S, T, ρ, d, w, hm, q⟩ => by
  unfold notD at hm
  cases ea : m ρ with
  | none => rw [ea] at hm; cases hm
  | some da =>
    rw [ea] at hm
    cases et : truD da with
    | none => rw [Option.bind_some, et] at hm; cases hm
    | some k =>
      rw [Option.bind_some, et] at hm
      cases hm
      exact ⟨P, S, T, ρ, da, w, ea, fun v H' P' U g r => ⟨k, truD_v g.ph et r, (q.grow g).flat g.ph ⟨rfl, rfl⟩⟩⟩
theorem f_one {op} {m : RM} (h : PE X a (tF ⟨X.K, cl, X.w⟩ E m)) : PE X (.BoolOp op [a] pos) (tF ⟨X.K, cl, X.w⟩ E m) := pe_one h
theorem f_and {rest : List Expr} (ha : PE X a (tR ⟨X.K, cl, X.w⟩ E ma)) (hb : PE X (.BoolOp .And (b :: rest) pos) (tF ⟨X.K, cl, X.w⟩ E mb)) : PE X (.BoolOp .And (a :: b :: rest) pos) (tF ⟨X.K, cl, X.w⟩ E (andM ma mb)) := PE_imp (pe_and ha hb) fun σ H Q ⟨P, S, T, ρ, d, w, hm, q⟩ => by
  unfold andM at hm
  cases ea : bM ma ρ with
  | none => rw [ea] at hm; cases hm
  | some k =>
    rw [ea] at hm
    refine ⟨P, S, T, ρ, .bl k, w, bM_some ea, fun v H' P' U g r => ⟨k, r.1, ?_⟩⟩
    cases k with
    | true => exact iteT ⟨P', S, T, ρ, d, w.grow g, hm, q.grow g⟩
    | false => cases hm; exact iteF ((q.grow g).flat g.ph ⟨rfl, rfl⟩)
theorem f_or {rest : List Expr} (ha : PE X a (tR ⟨X.K, cl, X.w⟩ E ma)) (hb : PE X (.BoolOp .Or (b :: rest) pos) (tF ⟨X.K, cl, X.w⟩ E mb)) : PE X (.BoolOp .Or (a :: b :: rest) pos) (tF ⟨X.K, cl, X.w⟩ E (orM ma mb)) := PE_imp (pe_or ha hb) fun σ H Q ⟨P, S, T, ρ, d, w, hm, q⟩ => by
  unfold orM at hm
  cases ea : bM ma ρ with
  | none => rw [ea] at hm; cases hm
  | some k =>
    rw [ea] at hm
    refine ⟨P, S, T, ρ, .bl k, w, bM_some ea, fun v H' P' U g r => ⟨k, r.1, ?_⟩⟩
    cases k with
    | false => exact iteF ⟨P', S, T, ρ, d, w.grow g, hm, q.grow g⟩
    | true => cases hm; exact iteT ((q.grow g).flat g.ph ⟨rfl, rfl⟩)
def iteM (mc : BM) (ma mb : RM) : RM := fun ρ => (mc ρ).bind fun k => if k = true then ma ρ else mb ρ
def chM (f g : D → D → Option D) (ma mb mc : RM) : RM := fun ρ => (ma ρ).bind fun x => (mb ρ).bind fun y => (f x y).bind fun z => match z with | .bl true => (mc ρ).bind fun u => g y u | .bl false => some (.bl false) | _ => none
theorem ch_run {r r' : R2} {f g : D → D → Option D} {mc : RM} (hf : Op2 ⟨X.K, cl, X.w⟩ r f) (hg : Op2 ⟨X.K, cl, X.w⟩ r' g) {σ : St} {H : Hp} {Q : VK} (h : tF ⟨X.K, cl, X.w⟩ E (chM f g ma mb mc) σ H Q) : tChain r r' (tR ⟨X.K, cl, X.w⟩ E ma) (tR ⟨X.K, cl, X.w⟩ E mb) (tR ⟨X.K, cl, X.w⟩ E mc) σ H Q := by
  obtain ⟨P, S, T, ρ, d, w, hm, q⟩ := h
  unfold chM at hm
  cases ea : ma ρ with
  | none => rw [ea] at hm; cases hm
  | some da =>
    cases eb : mb ρ with
    | none => rw [ea, eb] at hm; cases hm
    | some db =>
      rw [ea, eb] at hm
      simp only [Option.bind_some] at hm
      cases ez : f da db with
      | none => rw [ez] at hm; cases hm
      | some z =>
        rw [ez, Option.bind_some] at hm
        refine ⟨P, S, T, ρ, da, w, ea, fun x H1 P1 U1 g1 r1 => ⟨P1, S, T, ρ, db, w.grow g1, eb, fun y H2 P2 U2 g2 r2 => ?_⟩⟩
        refine hf P2 H2 g2.ph _ _ _ _ _ _ _ ez (r1.gr g2) r2 _ fun v H3 P3 U3 g3 r3 _ _ => ?_
        split at hm
        · cases ec : mc ρ with
          | none => rw [ec] at hm; cases hm
          | some dc =>
            rw [ec] at hm
            refine ⟨true, r3.1, iteT ⟨P3, S, T, ρ, dc, ((w.grow g1).grow g2).grow g3, ec, fun u H4 P4 U4 g4 r4 => ?_⟩⟩
            exact hg P4 H4 g4.ph _ _ _ _ _ _ _ hm ((r2.gr g3).gr g4) r4 Q (q.grow (((g1.trans g2).trans g3).trans g4))
        · cases hm
          exact ⟨false, r3.1, iteF ((q.grow ((g1.trans g2).trans g3)).flat g3.ph ⟨rfl, rfl⟩)⟩
        · cases hm
theorem f_ch {r r' : R2} {f g : D → D → Option D} {mc : RM} {op op' : CmpOp} {c0 : Expr} (ho : OpR X (compareOp op) r) (hf : Op2 ⟨X.K, cl, X.w⟩ r f) (ho' : OpR X (compareOp op') r') (hg : Op2 ⟨X.K, cl, X.w⟩ r' g)
    (ha : PE X a (tR ⟨X.K, cl, X.w⟩ E ma)) (hb : PE X b (tR ⟨X.K, cl, X.w⟩ E mb)) (hc : PE X c0 (tR ⟨X.K, cl, X.w⟩ E mc)) (hm : lastMarks [op, op'] [b, c0] = false := by with_unfolding_all rfl) : PE X (.Compare a [op, op'] [b, c0] pos) (tF ⟨X.K, cl, X.w⟩ E (chM f g ma mb mc)) :=
  PE_imp (pe_chain ho ho' ha hb hc hm) fun _ _ _ h => ch_run hf hg h
theorem t_ch {r r' : R2} {f g : D → D → Option D} {mc : RM} {op op' : CmpOp} {c0 : Expr} (ho : OpR X (compareOp op) r) (hf : Op2 ⟨X.K, cl, X.w⟩ r f) (ho' : OpR X (compareOp op') r') (hg : Op2 ⟨X.K, cl, X.w⟩ r' g)
    (ha : PE X a (tR ⟨X.K, cl, X.w⟩ E ma)) (hb : PE X b (tR ⟨X.K, cl, X.w⟩ E mb)) (hc : PE X c0 (tR ⟨X.K, cl, X.w⟩ E mc)) (hm : lastMarks [op, op'] [b, c0] = false := by with_unfolding_all rfl) : PT X (.Compare a [op, op'] [b, c0] pos) (tT ⟨X.K, cl, X.w⟩ E (bM (chM f g ma mb mc))) :=
  t_test (pt_chain ho ho' ha hb hc hm) fun _ _ _ h => ch_run hf hg h

def mA (f : List D → Option D) (ms : AM) : RM := fun ρ => (ms ρ).bind f
def OpA (c : LC) (r : List V → Hp → VK → Prop) (f : List D → Option D) : Prop := ∀ (P H : Hp), Ex P H → ∀ ds d vs U, f ds = some d → RepL c P H ds vs U → ∀ Q, FQ c P H d Q → r vs H Q
theorem opA_run {r : List V → Hp → VK → Prop} {f : List D → Option D} {ms : AM} (hf : OpA ⟨X.K, cl, X.w⟩ r f) {σ : St} {H : Hp} {Q : VK} (h : tF ⟨X.K, cl, X.w⟩ E (mA f ms) σ H Q) : tCB r (tAR ⟨X.K, cl, X.w⟩ E ms) σ H Q := by
  obtain ⟨P, S, T, ρ, d, w, hm, q⟩ := h
  unfold mA at hm
  cases ea : ms ρ with
  | none => rw [ea] at hm; cases hm
  | some ds =>
    rw [ea] at hm
    exact ⟨P, S, T, ρ, ds, w, ea, fun vs H1 P1 U1 g1 r1 => hf P1 H1 g1.ph ds d vs U1 hm r1 Q (q.grow g1)⟩
theorem f_blt {r : List V → Hp → VK → Prop} {f : List D → Option D} {ms : AM} {id : String} {x : Str} {es : List Expr} {p : Pos} (hc : CallR X (.builtin id) r) (hf : OpA ⟨X.K, cl, X.w⟩ r f) (hg : Gl X x) (hm : X.mg x = none) (hv : bootBuiltins x = some (.builtin id)) (ha : PA X (e :: es) (tAR ⟨X.K, cl, X.w⟩ E ms)) (hn : x ≠ "__name__" := by decide) (hdb : (x == ("__debug__" : Str)) = false := by decide)
    (he : starEach (e :: es) X.env = (false, eval e X.env) :: starEach es X.env := by rfl) (hpl : (backTo pos (starEach es X.env)).any (·.1) = false := by rfl) : PE X (.Call (.Name x p) (e :: es) [] pos) (tF ⟨X.K, cl, X.w⟩ E (mA f ms)) :=
  PE_imp (pe_callB hc hg hm hv ha hn hdb he hpl) fun _ _ _ h => opA_run hf h
theorem f_bty {r : List V → Hp → VK → Prop} {f : List D → Option D} {ms : AM} {id : String} {x : Str} {es : List Expr} {p : Pos} (hc : CallR X (.type id) r) (hf : OpA ⟨X.K, cl, X.w⟩ r f) (hg : Gl X x) (hm : X.mg x = none) (hv : bootBuiltins x = some (.type id)) (ha : PA X (e :: es) (tAR ⟨X.K, cl, X.w⟩ E ms)) (hn : x ≠ "__name__" := by decide) (hdb : (x == ("__debug__" : Str)) = false := by decide)
    (he : starEach (e :: es) X.env = (false, eval e X.env) :: starEach es X.env := by rfl) (hpl : (backTo pos (starEach es X.env)).any (·.1) = false := by rfl) : PE X (.Call (.Name x p) (e :: es) [] pos) (tF ⟨X.K, cl, X.w⟩ E (mA f ms)) :=
  PE_imp (pe_callTy hc hg hm hv ha hn hdb he hpl) fun _ _ _ h => opA_run hf h
theorem repL1 {c : LC} {P H : Hp} {d : D} {vs : List V} {U : FP} (r : RepL c P H [d] vs U) : ∃ v T, vs = [v] ∧ Rep c P H d v T := by
  obtain ⟨y, ys, T, T2, e, r1, r2, _⟩ := r
  rw [r2.1] at e
  exact ⟨y, T, e, r1⟩
theorem repL2 {c : LC} {P H : Hp} {d d2 : D} {vs : List V} {U : FP} (r : RepL c P H [d, d2] vs U) : ∃ v v2 T T2, vs = [v, v2] ∧ Rep c P H d v T ∧ Rep c P H d2 v2 T2 := by
  obtain ⟨y, ys, T, T2, e, r1, r2, _⟩ := r
  obtain ⟨v2, T3, e2, r3⟩ := repL1 r2
  rw [e2] at e
  exact ⟨y, v2, T, T3, e, r1, r3⟩
def lenD : List D → Option D
  | [.str s] => if s.length ≤ LIM then some (.int s.length) else none
  | [.tup ds] => some (.int ds.length)
  | [.lst _ ds] => some (.int ds.length)
  | [.scr ns] => some (.int ns.length)
  | [.dK _ ks _] => some (.int ks.length)
  | _ => none
def rLenA (K : PySem.W.Frag) : List V → Hp → VK → Prop := fun xs H Q => (∃ x n, xs = [x] ∧ LenV K x H n ∧ Q (.int n) H) ∨ (∃ a kvs, xs = [V.ref a] ∧ H a = some (.dK kvs) ∧ Q (.int kvs.length) H)
theorem cr_len : CallR X (.builtin "len") (rLenA X.K) := call_len.or call_lenD
theorem op_lenD {c : LC} : OpA c (rLenA c.K) lenD := by
  intro P H e ds d vs U hf r Q q
  unfold lenD at hf
  split at hf
  · split at hf
    · rename_i s hl
      cases hf
      obtain ⟨v, T, rfl, r1⟩ := repL1 r
      exact .inl ⟨_, _, rfl, by rw [r1.1]; exact ⟨by rw [str_len]; exact lim_le hl, by rw [str_len]⟩, q.flat e ⟨rfl, rfl⟩⟩
    · cases hf
  · cases hf
    obtain ⟨v, T, rfl, a, xs, rfl, h, rl⟩ := repL1 r
    exact .inl ⟨_, _, rfl, .inr ⟨xs, sqt_mono e h, rfl⟩, by rw [← rl.length]; exact q.flat e ⟨rfl, rfl⟩⟩
  · cases hf
    obtain ⟨v, T, rfl, r1⟩ := repL1 r
    obtain ⟨a, xs, T', rfl, h, rl, _⟩ := lst_heap e r1
    exact .inl ⟨_, _, rfl, .inl ⟨xs, .inl (.inl h), rfl⟩, by rw [← rl.length]; exact q.flat e ⟨rfl, rfl⟩⟩
  · cases hf
    obtain ⟨v, T, rfl, a, rfl, h, _⟩ := repL1 r
    exact .inl ⟨_, _, rfl, .inl ⟨_, sql_mono e h, rfl⟩, by rw [List.length_map]; exact q.flat e ⟨rfl, rfl⟩⟩
  · rename_i o ks ds'
    cases hf
    obtain ⟨v, T, rfl, r1⟩ := repL1 r
    right
    have : ∃ a xs, v = .ref a ∧ H a = some (.dK (ks.zip xs)) ∧ ks.length = xs.length := by
      cases o with
      | true => obtain ⟨a, xs, T, e1, h, n, _⟩ := r1; exact ⟨a, xs, e1, h, n⟩
      | false => obtain ⟨a, xs, e1, h, n, _⟩ := r1; exact ⟨a, xs, e1, e _ _ h, n⟩
    obtain ⟨a, xs, rfl, h, n⟩ := this
    refine ⟨a, _, rfl, h, ?_⟩
    rw [List.length_zip, ← n, Nat.min_self]
    exact q.flat e ⟨rfl, rfl⟩
  · cases hf
def max2D : List D → Option D
  | [.int i, .int j] => some (.int (if j > i then j else i))
  | _ => none
def min2D : List D → Option D
  | [.int i, .int j] => some (.int (if j < i then j else i))
  | _ => none
theorem op_max2D {c : LC} : OpA c (fun xs H Q => ∃ i j, xs = [.int i, .int j] ∧ Q (.int (if j > i then j else i)) H) max2D := by
  intro P H e ds d vs U hf r Q q
  unfold max2D at hf
  split at hf
  · cases hf
    obtain ⟨v, v2, T, T2, rfl, r1, r2⟩ := repL2 r
    exact ⟨_, _, by rw [r1.1, r2.1], q.flat e ⟨rfl, rfl⟩⟩
  · cases hf
def intD : List D → Option D
  | [.int i] => some (.int i)
  | [.bl k] => some (.int (if k then 1 else 0))
  | _ => none
def intsD : List D → Option (List Int)
  | [] => some []
  | .int i :: ds => (intsD ds).map fun is => i :: is
  | _ :: _ => none
def sumD : List D → Option D
  | [.lst _ ds] => (intsD ds).map fun is => .int is.sum
  | _ => none
def listD : List D → Option D
  | [.lst _ ds] => if frzL ds = true then some (.lst true ds) else none
  | [.tup ds] => if frzL ds = true then some (.lst true ds) else none
  | [.scr ns] => some (.lst true (ns.map .int))
  | _ => none
theorem op_listD {c : LC} : OpA c (fun xs H Q => ∃ p ys, xs = [.ref p] ∧ (SqL c.K H p ys ∨ SqT c.K H p ys) ∧ ∀ l, H l = none → Q (.ref l) (upd H l (.lst ys))) listD := by
  intro P H e ds d vs U hf r Q q
  unfold listD at hf
  split at hf
  · split at hf
    · rename_i hl
      cases hf
      obtain ⟨v, T, rfl, r1⟩ := repL1 r
      obtain ⟨p, xs, rfl, hh, rl⟩ := lst_heap0 e r1 hl
      exact ⟨p, xs, rfl, .inl (.inl (.inl hh)), q.lst e rl⟩
    · cases hf
  · split at hf
    · rename_i hl
      cases hf
      obtain ⟨v, T, rfl, r1⟩ := repL1 r
      obtain ⟨p, xs, rfl, hh, _, rl⟩ := tup_heap0 e r1 hl
      exact ⟨p, xs, rfl, .inr hh, q.lst e rl⟩
    · cases hf
  · cases hf
    obtain ⟨v, T, rfl, p, rfl, hh, _⟩ := repL1 r
    exact ⟨p, _, rfl, .inl (sql_mono e hh), q.lst e (repL_ints _)⟩
  · cases hf
def tyD : D → Option String
  | .non => some "NoneType"
  | .bl _ => some "bool"
  | .int _ => some "int"
  | .str _ => some "str"
  | .scr _ => some "list"
  | .lst .. => some "list"
  | .tup _ => some "tuple"
  | .dK .. => some "dict"
  | .dT .. => some "dict"
  | _ => none
theorem ty_v {c : LC} {P H : Hp} (e : Ex P H) : ∀ {d : D} {v : V} {U : FP} {t : String}, tyD d = some t → Rep c P H d v U → TyX c.K H v (.type t)
  | .non, v, U, t, h, r => by cases h; rw [r.1]; exact .base .non
  | .bl b, v, U, t, h, r => by cases h; rw [r.1]; exact .base (.bl b)
  | .int b, v, U, t, h, r => by cases h; rw [r.1]; exact .base (.int b)
  | .str b, v, U, t, h, r => by cases h; rw [r.1]; exact .base (.str _)
  | .scr ns, v, U, t, h, ⟨a, e1, q, _⟩ => by
    cases h; rw [e1]
    rcases q with (q | ⟨o, q⟩) | ⟨o, its, n, q, q2, _⟩
    · exact .base (.lst (e _ _ q))
    · exact .base (.frz (e _ _ q))
    · exact .kList q q2
  | .tup ds, v, U, t, h, ⟨a, xs, e1, q, _⟩ => by
    cases h; rw [e1]
    rcases q with (q | ⟨o, q⟩) | ⟨o, its, n, q, q2, _⟩
    · exact .base (.tup (e _ _ q))
    · exact .fTuple (e _ _ q)
    · exact .kTuple q q2
  | .lst o ds, v, U, t, h, r => by
    cases h
    obtain ⟨a, xs, T, e1, hh, _⟩ := lst_heap e r
    rw [e1]; exact .base (.lst hh)
  | .dK true _ _, v, U, t, h, ⟨a, _, _, e1, q, _⟩ => by cases h; rw [e1]; exact .base (.dK q)
  | .dK false _ _, v, U, t, h, ⟨a, _, e1, q, _⟩ => by cases h; rw [e1]; exact .base (.dK (e _ _ q))
  | .dT true _ _, v, U, t, h, ⟨a, _, _, e1, q, _⟩ => by cases h; rw [e1]; exact .base (.dT q)
  | .dT false _ _, v, U, t, h, ⟨a, _, e1, q, _⟩ => by cases h; rw [e1]; exact .base (.dT (e _ _ q))
def isiM (ty : String) (m : RM) : RM := fun ρ => (m ρ).bind fun d => (tyD d).bind fun t => (kitB t ty).map .bl
theorem f_isi {ty : String} {b0 : Expr} {x : Str} {p : Pos} (hg : Gl X x) (hm : X.mg x = none) (hv : bootBuiltins x = some (.builtin "isinstance")) (ha : PE X a (tR ⟨X.K, cl, X.w⟩ E ma)) (hb : PE X b0 (tC (.ty ty)))
    (hn : x ≠ "__name__" := by decide) (hdb : (x == ("__debug__" : Str)) = false := by decide)
    (hs1 : starEach [a, b0] X.env = (false, eval a X.env) :: starEach [b0] X.env := by rfl) (hs2 : starEach [b0] X.env = (false, eval b0 X.env) :: starEach [] X.env := by rfl) (hpl : (backTo pos (starEach [b0] X.env)).any (·.1) = false := by rfl) : PE X (.Call (.Name x p) [a, b0] [] pos) (tF ⟨X.K, cl, X.w⟩ E (isiM ty ma)) :=
  PE_imp (pe_callB call_isi hg hm hv (pa_cons ha (pa_cons hb pa_nil hs2) hs1) hn hdb hs1 hpl) fun σ H Q ⟨P, S, T, ρ, d, w, h, q⟩ => by
    unfold isiM at h
    cases ea : ma ρ with
    | none => rw [ea] at h; cases h
    | some da =>
      rw [ea, Option.bind_some] at h
      cases et : tyD da with
      | none => rw [et] at h; cases h
      | some t =>
        rw [et, Option.bind_some] at h
        cases ek : kitB t ty with
        | none => rw [ek] at h; cases h
        | some k =>
          rw [ek] at h
          cases h
          exact ⟨P, S, T, ρ, da, w, ea, fun v H1 P1 U1 g1 r1 => ⟨v, .ty ty, .type t, .type ty, k, rfl, .ty ty, ty_v g1.ph et r1, kit_ty ek, (q.grow g1).flat g1.ph ⟨rfl, rfl⟩⟩⟩
end
end LI

namespace LI
open PySem L2

def IterOK (c : LC) (P : Hp) (J : It) (ds : List D) : Prop := ∃ (G : Hp → Prop) (Y : Nat → Hp → V → Hp → Prop), Walk J ds.length G Y ∧ (∀ P2 H2, Ex P P2 → Ex P2 H2 → G H2) ∧
  ∀ i P2 H2 x H3, Ex P P2 → Ex P2 H2 → i < ds.length → Y i H2 x H3 → ∃ P3 d, Gr P2 H2 P3 H3 ∧ ds[i]? = some d ∧ Rep c P3 H3 d x fz
def tI (c : LC) (E : En) (m : AM) : TI := fun σ H R => ∃ P S T ρ ds, Wd c E P S T σ H ρ ∧ m ρ = some ds ∧ ∀ J H' P', Gr P H P' H' → IterOK c P' J ds → R J H'
theorem PI_imp {X : Cx} {tg e : Expr} {t t' : TI} (h : PI X tg e t) (k : ∀ σ H R, t' σ H R → t σ H R) : PI X tg e t' := ⟨fun pins s σ H R I q => h.run pins s σ H R I (k σ H R q)⟩
theorem PI_or {X : Cx} {tg e : Expr} {t u : TI} (h : PI X tg e t) (k : PI X tg e u) : PI X tg e (fun σ H Q => t σ H Q ∨ u σ H Q) := ⟨fun pins s σ H Q I q => q.elim (h.run pins s σ H Q I) (k.run pins s σ H Q I)⟩
def strsD (s : List Nat) : List D := s.map fun k => .str [k]
def itemsD : D → Option (List D)
  | .lst false ds => if frzL ds = true then some ds else none
  | .tup ds => if frzL ds = true then some ds else none
  | .scr ns => some (ns.map .int)
  | .str s => some (strsD s)
  | _ => none
def itM (m : RM) : AM := fun ρ => (m ρ).bind itemsD
theorem rep_get0 {c : LC} {P H : Hp} {ds : List D} {xs : List V} {i : Nat} {x : V} (r : RepL c P H ds xs fz) (h : xs[i]? = some x) : ∃ d, ds[i]? = some d ∧ Rep c P H d x fz := by
  have hi : i < ds.length := by rw [r.length]; exact (List.getElem?_eq_some_iff.mp h).1
  obtain ⟨y, T, h1, h2, h3⟩ := r.get (List.getElem?_eq_getElem hi)
  rw [h1] at h
  cases h
  have : T = fz := by funext a; have := h3 a; simp only [fz] at this ⊢; omega
  subst this
  exact ⟨_, List.getElem?_eq_getElem hi, h2⟩
theorem iter_lst {c : LC} {P : Hp} {a : Addr} {xs : List V} {ds : List D} {H : Hp} (h : SqL c.K P a xs) (r : RepL c P H ds xs fz) (hp : ∀ H', RepL c P H' ds xs fz) : IterOK c P (Itl c.K a) ds := by
  refine ⟨_, _, by rw [r.length]; exact walk_list (xs := xs), fun P2 H2 e1 e2 => sql_mono e2 (sql_mono e1 h), fun i P2 H2 x H3 e1 e2 hi y => ?_⟩
  obtain ⟨rfl, hx⟩ := y
  obtain ⟨d, h1, h2⟩ := rep_get0 (hp H3) hx
  exact ⟨P2, d, .refl e2, h1, Rep.mono e1 d x fz (fun a o z _ => by simp [fz] at z) h2⟩
theorem iter_tup {c : LC} {P : Hp} {a : Addr} {xs : List V} {ds : List D} {H : Hp} (h : SqT c.K P a xs) (r : RepL c P H ds xs fz) (hp : ∀ H', RepL c P H' ds xs fz) : IterOK c P (Itt c.K a) ds := by
  refine ⟨_, _, by rw [r.length]; exact walk_tup (xs := xs), fun P2 H2 e1 e2 => sqt_mono e2 (sqt_mono e1 h), fun i P2 H2 x H3 e1 e2 hi y => ?_⟩
  obtain ⟨rfl, hx⟩ := y
  obtain ⟨d, h1, h2⟩ := rep_get0 (hp H3) hx
  exact ⟨P2, d, .refl e2, h1, Rep.mono e1 d x fz (fun a o z _ => by simp [fz] at z) h2⟩
theorem repL_h {c : LC} {P H H' : Hp} {ds : List D} {xs : List V} (r : RepL c P H ds xs fz) : RepL c P H' ds xs fz := RepL.mono (.refl _) ds xs fz (fun a o z _ => by simp [fz] at z) r
section
variable {X : Cx} {cl : Nat → Addr} {E : En} {e a b tg : Expr} {pos : Pos} {m ma mb : RM}
theorem i_seq (h : PE X e (tR ⟨X.K, cl, X.w⟩ E m)) : PI X tg e (tI ⟨X.K, cl, X.w⟩ E (itM m)) := by
  refine PI_imp (PI_or (pi_list h) (PI_or (pi_tup h) (pi_str h))) fun σ H R ⟨P, S, T, ρ, ds, w, hm, q⟩ => ?_
  unfold itM at hm
  cases ea : m ρ with
  | none => rw [ea] at hm; cases hm
  | some d =>
    rw [ea] at hm
    replace hm : itemsD d = some ds := hm
    unfold itemsD at hm
    split at hm
    · split at hm
      · rename_i hf
        cases hm
        refine .inl ⟨P, S, T, ρ, _, w, ea, fun v H1 P1 U1 g1 r1 => ?_⟩
        obtain ⟨p, xs, e1, hp, rl⟩ := r1
        have z := RepL.frz0 _ xs _ hf rl
        subst z
        exact ⟨p, e1, ⟨xs, .inl (.inl (g1.ph _ _ hp))⟩, q _ H1 P1 g1 (iter_lst (.inl (.inl hp)) rl fun _ => repL_h rl)⟩
      · cases hm
    · split at hm
      · rename_i hf
        cases hm
        refine .inr (.inl ⟨P, S, T, ρ, _, w, ea, fun v H1 P1 U1 g1 r1 => ?_⟩)
        obtain ⟨p, xs, e1, hp, rl⟩ := r1
        have z := RepL.frz0 _ xs _ hf rl
        subst z
        exact ⟨p, e1, ⟨xs, sqt_mono g1.ph hp⟩, q _ H1 P1 g1 (iter_tup hp rl fun _ => repL_h rl)⟩
      · cases hm
    · cases hm
      refine .inl ⟨P, S, T, ρ, _, w, ea, fun v H1 P1 U1 g1 r1 => ?_⟩
      obtain ⟨p, e1, hp, _⟩ := r1
      exact ⟨p, e1, ⟨_, sql_mono g1.ph hp⟩, q _ H1 P1 g1 (iter_lst (H := H1) hp (repL_ints _) fun _ => repL_ints _)⟩
    · rename_i s
      cases hm
      refine .inr (.inr ⟨P, S, T, ρ, _, w, ea, fun v H1 P1 U1 g1 r1 => ⟨_, r1.1, q _ H1 P1 g1 ?_⟩⟩)
      refine ⟨_, _, by rw [show (strsD s).length = (⟨s.toArray⟩ : Str).cps.size by simp [strsD]]; exact walk_str, fun _ _ _ _ => True.intro, fun i P2 H2 x H3 e1 e2 hi y => ?_⟩
      obtain ⟨rfl, k, hk, rfl⟩ := y
      refine ⟨P2, .str [k], .refl e2, ?_, ⟨rfl, rfl⟩⟩
      have hk' : s[i]? = some k := by simpa using hk
      simp [strsD, hk']
    · cases hm
def upD (lo : Int) (n : Nat) : List D := (List.range n).map fun (k : Nat) => D.int (lo + (k : Int))
def rng1M (m : RM) : AM := fun ρ => (m ρ).bind fun d => match d with | .int j => if -(2 ^ 62) ≤ j ∧ j < 2 ^ 62 then some (upD 0 j.toNat) else none | _ => none
def rng2M (ma mb : RM) : AM := fun ρ => (ma ρ).bind fun x => (mb ρ).bind fun y => match x, y with | .int i, .int j => if -(2 ^ 62) ≤ i ∧ i < 2 ^ 62 ∧ -(2 ^ 62) ≤ j ∧ j < 2 ^ 62 then some (upD i (j - i).toNat) else none | _, _ => none
theorem iter_rng {c : LC} {P : Hp} (lo : Int) (n : Nat) : IterOK c P (Itr lo n) (upD lo n) := by
  refine ⟨_, _, by rw [show (upD lo n).length = n by simp [upD]]; exact walk_range, fun _ _ _ _ => True.intro, fun i P2 H2 x H3 e1 e2 hi y => ?_⟩
  obtain ⟨rfl, rfl⟩ := y
  have hi' : i < n := by simpa [upD] using hi
  refine ⟨P2, .int (lo + (i : Int)), .refl e2, ?_, ⟨rfl, rfl⟩⟩
  simp [upD, hi']
theorem i_rng1 {p : Pos} (hg : Gl X "range") (hm : X.mg "range" = none) (ha : PE X a (tR ⟨X.K, cl, X.w⟩ E m)) (hs : starEach [a] X.env = [(false, eval a X.env)] := by rfl) : PI X tg (.Call (.Name "range" p) [a] [] pos) (tI ⟨X.K, cl, X.w⟩ E (rng1M m)) :=
  PI_imp (pi_range1 hg hm (pa_cons ha pa_nil hs) hs) fun σ H R ⟨P, S, T, ρ, ds, w, h, q⟩ => by
    unfold rng1M at h
    cases ea : m ρ with
    | none => rw [ea] at h; cases h
    | some d =>
      rw [ea] at h
      cases d with
      | int j =>
        simp only [Option.bind_some] at h
        split at h
        · rename_i hb
          cases h
          exact ⟨P, S, T, ρ, _, w, ea, fun v H1 P1 U1 g1 r1 => ⟨j, by rw [r1.1], hb.1, hb.2, q _ H1 P1 g1 (iter_rng 0 _)⟩⟩
        · cases h
      | _ => cases h
abbrev TgM := D → List D → Option (List D)
theorem fa_assoc (S T U : FP) : fa (fa S T) U = fa S (fa T U) := by funext a; simp only [fa]; omega
theorem fa_comm (S T : FP) : fa S T = fa T S := by funext a; simp only [fa]; omega
theorem Wd.shrink {c : LC} {P H : Hp} {S S' T T' : FP} {σ σ' : St} {ρ ρ' : List D} (w : Wd c E P S T σ H ρ) (he : RepE c P H ρ' σ' S') (hl : ∀ a, S' a + T' a ≤ S a + T a) (ht : ∀ a, T' a ≤ T a) (hk : ∀ (i : Nat) (v : V), E.kp[i]? = some true → E.vs[i]? = some v → σ'[i]? = some (some v)) : Wd c E P S' T' σ' H ρ' :=
  ⟨he, fun a => Nat.le_trans (hl a) (w.le a), fun a h => w.out a (Nat.lt_of_lt_of_le h (hl a)), fun a h => w.th a (Nat.lt_of_lt_of_le h (ht a)), w.ph, w.p0, w.fr, w.np, fun a h => w.ns a (Nat.lt_of_lt_of_le h (hl a)), hk⟩
theorem Wd.drop {c : LC} {P H : Hp} {S T U : FP} {σ : St} {ρ : List D} (w : Wd c E P S (fa T U) σ H ρ) : Wd c E P S T σ H ρ := w.shrink w.env (fun a => by simp only [fa]; omega) (fun a => by simp only [fa]; omega) w.kp
theorem RepE.set {c : LC} {P H : Hp} {d : D} {v : V} {U : FP} (r : Rep c P H d v U) : ∀ {ρ : List D} {σ : St} {S : FP} (i : Nat), RepE c P H ρ σ S → ∃ S', RepE c P H (ρ.set i d) (σ.set i (some v)) S' ∧ ∀ a, S' a ≤ S a + U a
  | [], [], S, i, h => ⟨S, h, fun a => by omega⟩
  | d0 :: ρ, v0 :: σ, S, 0, ⟨T, T2, h1, h2, f⟩ => ⟨fa U T2, ⟨U, T2, r, h2, rfl⟩, fun a => by rw [f]; simp only [fa]; omega⟩
  | d0 :: ρ, v0 :: σ, S, i + 1, ⟨T, T2, h1, h2, f⟩ => by
    obtain ⟨S', k1, k2⟩ := RepE.set r i h2
    exact ⟨fa T S', ⟨T, S', h1, k1, rfl⟩, fun a => by have := k2 a; rw [f]; simp only [fa]; omega⟩
  | [], _ :: _, _, _, h => h.elim
  | _ :: _, [], _, _, h => h.elim
theorem Wd.store {c : LC} {P H : Hp} {S T U : FP} {σ : St} {ρ : List D} {d : D} {v : V} (w : Wd c E P S (fa T U) σ H ρ) (r : Rep c P H d v U) (i : Nat) (hk : E.kp[i]? ≠ some true) : ∃ S', Wd c E P S' T (σ.set i (some v)) H (ρ.set i d) := by
  obtain ⟨S', h1, h2⟩ := RepE.set r i w.env
  refine ⟨S', w.shrink h1 (fun a => by have := h2 a; simp only [fa]; omega) (fun a => by simp only [fa]; omega) fun j u h3 h4 => ?_⟩
  have : j ≠ i := fun z => hk (z ▸ h3)
  rw [List.getElem?_set_ne (Ne.symm this)]
  exact w.kp j u h3 h4
def tPG (c : LC) (E : En) (tl : List Nat) (f : TgM) : TG := fun v σ H Q => ∃ P S T U ρ d ρ', Wd c E P S (fa T U) σ H ρ ∧ Rep c P H d v U ∧ f d ρ = some ρ' ∧
  ∀ σ' S', Wd c E P S' T σ' H ρ' → σ'.length = σ.length → (∀ j, j ∉ tl → σ'[j]? = σ[j]?) → Q σ' H
def tPGs (c : LC) (E : En) (tl : List Nat) (f : List D → List D → Option (List D)) : TGs := fun vs σ H Q => ∃ P S T U ρ ds ρ', Wd c E P S (fa T U) σ H ρ ∧ RepL c P H ds vs U ∧ f ds ρ = some ρ' ∧
  ∀ σ' S', Wd c E P S' T σ' H ρ' → σ'.length = σ.length → (∀ j, j ∉ tl → σ'[j]? = σ[j]?) → Q σ' H
theorem PG_imp {t t' : TG} (h : PG X e t) (k : ∀ v σ H Q, t' v σ H Q → t v σ H Q) : PG X e t' := ⟨fun pins s σ H v u Q I r q => h.run pins s σ H v u Q I r (k v σ H Q q)⟩
theorem PGs_imp {es : List Expr} {t t' : TGs} (h : PGs X es t) (k : ∀ v σ H Q, t' v σ H Q → t v σ H Q) : PGs X es t' := ⟨fun pins s σ H v u Q I r q => h.run pins s σ H v u Q I r (k v σ H Q q)⟩
def nameT (i : Nat) : TgM := fun d ρ => some (ρ.set i d)
def tupT (f : List D → List D → Option (List D)) : TgM := fun d ρ => match d with | .tup ds => f ds ρ | _ => none
def nilT : List D → List D → Option (List D) := fun ds ρ => match ds with | [] => some ρ | _ => none
def consT (f : TgM) (g : List D → List D → Option (List D)) : List D → List D → Option (List D) := fun ds ρ => match ds with | d :: ds => (f d ρ).bind fun ρ => g ds ρ | _ => none
theorem g_name (i : Nat) {x : Str} (hN : X.N.Nodup) (hi : X.N[i]? = some x) (hx : Loc X.env.scope x) (hk : E.kp[i]? ≠ some true) (hf : X.fn x = true ∨ X.env.scope.names.lookup x = some .local := by first | exact .inl rfl | exact .inr rfl | assumption) : PG X (.Name x pos) (tPG ⟨X.K, cl, X.w⟩ E [i] (nameT i)) :=
  PG_imp (pg_name hN hi hx hf) fun v σ H Q ⟨P, S, T, U, ρ, d, ρ', w, r, hm, q⟩ => by
    cases hm
    obtain ⟨S', w'⟩ := w.store r i hk
    exact q _ S' w' (by simp) fun j hj => List.getElem?_set_ne (fun z => hj (by simp [z]))
theorem gs_nil : PGs X [] (tPGs ⟨X.K, cl, X.w⟩ E [] nilT) := PGs_imp pgs_nil fun v σ H Q ⟨P, S, T, U, ρ, ds, ρ', w, r, hm, q⟩ => by
  cases ds with
  | nil => cases hm; exact ⟨r.1, q σ S (w.drop) rfl fun _ _ => rfl⟩
  | cons _ _ => cases hm
theorem gs_cons {es : List Expr} {tl tl2 : List Nat} {f : TgM} {g : List D → List D → Option (List D)} (h1 : PG X e (tPG ⟨X.K, cl, X.w⟩ E tl f)) (h2 : PGs X es (tPGs ⟨X.K, cl, X.w⟩ E tl2 g))
    (hs : (assignEach (e :: es) X.env).map (·.2) = assign e X.env :: (assignEach es X.env).map (·.2) := by rfl) : PGs X (e :: es) (tPGs ⟨X.K, cl, X.w⟩ E (tl ++ tl2) (consT f g)) := PGs_imp (pgs_cons h1 h2 hs) fun v σ H Q ⟨P, S, T, U, ρ, ds, ρ', w, r, hm, q⟩ => by
  cases ds with
  | nil => cases hm
  | cons d ds =>
    obtain ⟨y, ys, U1, U2, e1, r1, r2, hu⟩ := r
    subst hu
    replace hm : ((f d ρ).bind fun ρ => g ds ρ) = some ρ' := hm
    cases ef : f d ρ with
    | none => rw [ef] at hm; cases hm
    | some ρ1 =>
      rw [ef] at hm
      refine ⟨y, ys, e1, P, S, fa T U2, U1, ρ, d, ρ1, ?_, r1, ef, fun σ1 S1 w1 l1 k1 => ⟨P, S1, T, U2, ρ1, ds, ρ', w1, r2, hm, fun σ2 S2 w2 l2 k2 => q σ2 S2 w2 (l2.trans l1) fun j hj => ?_⟩⟩
      · have : fa (fa T U2) U1 = fa T (fa U1 U2) := by rw [fa_assoc, fa_comm U2 U1]
        rw [this]; exact w
      · simp only [List.mem_append, not_or] at hj
        rw [k2 j hj.2, k1 j hj.1]
theorem g_tup {es : List Expr} {k : Nat} {tl : List Nat} {f : List D → List D → Option (List D)} {n : Nat} (hc : X.calm = true) (h : PGs X es (tPGs ⟨X.K, cl, X.w⟩ E tl f))
    (hn : (assignEach es X.env).length = n := by rfl) (hst : (assignEach es X.env).findIdx? (·.1) = none := by rfl) (hlen : ∀ ds ρ ρ', f ds ρ = some ρ' → ds.length = n := by intro ds ρ ρ' h; rcases ds with _ | ⟨_, ds⟩ <;> simp_all) : PG X (.Tuple es k pos) (tPG ⟨X.K, cl, X.w⟩ E tl (tupT f)) := PG_imp (pg_tup hc h hn hst) fun v σ H Q ⟨P, S, T, U, ρ, d, ρ', w, r, hm, q⟩ => by
  cases d with
  | tup ds =>
    obtain ⟨a, xs, e1, hp, rl⟩ := r
    exact ⟨a, xs, e1, sqt_mono w.ph hp, by rw [← rl.length]; exact hlen ds ρ ρ' hm, P, S, T, U, ρ, ds, ρ', w, rl, hm, q⟩
  | _ => cases hm
theorem len_nil {ds ρ ρ' : List D} (h : nilT ds ρ = some ρ') : ds.length = 0 := by cases ds <;> first | rfl | cases h
theorem len_cons {f : TgM} {g : List D → List D → Option (List D)} {n : Nat} (hg : ∀ ds ρ ρ', g ds ρ = some ρ' → ds.length = n) (ds ρ ρ' : List D) (h : consT f g ds ρ = some ρ') : ds.length = n + 1 := by
  cases ds with
  | nil => cases h
  | cons d ds =>
    replace h : ((f d ρ).bind fun ρ => g ds ρ) = some ρ' := h
    cases ef : f d ρ with
    | none => rw [ef] at h; cases h
    | some ρ1 => rw [ef] at h; rw [List.length_cons, hg ds ρ1 ρ' h]
end

def goneAt (ρ : List D) : List Nat → List D
  | [] => ρ
  | v :: vs => (goneAt ρ vs).set v .gone
section
variable {X : Cx} {cl : Nat → Addr} {E : En} {e a b tg : Expr} {pos : Pos} {m ma mb : RM}
theorem RepE.gone {c : LC} {P H : Hp} : ∀ {ρ : List D} {σ : St} {S : FP} (i : Nat), RepE c P H ρ σ S → ∃ S', RepE c P H (ρ.set i .gone) (σ.set i none) S' ∧ ∀ a, S' a ≤ S a
  | [], [], S, i, h => ⟨S, h, fun a => Nat.le_refl _⟩
  | d0 :: ρ, v0 :: σ, S, 0, ⟨T, T2, h1, h2, f⟩ => ⟨fa fz T2, ⟨fz, T2, ⟨rfl, rfl⟩, h2, rfl⟩, fun a => by rw [f]; simp only [fa, fz]; omega⟩
  | d0 :: ρ, v0 :: σ, S, i + 1, ⟨T, T2, h1, h2, f⟩ => by
    obtain ⟨S', k1, k2⟩ := RepE.gone i h2
    exact ⟨fa T S', ⟨T, S', h1, k1, rfl⟩, fun a => by have := k2 a; rw [f]; simp only [fa]; omega⟩
  | [], _ :: _, _, _, h => h.elim
  | _ :: _, [], _, _, h => h.elim
theorem RepE.wipe {c : LC} {P H : Hp} {ρ : List D} {σ : St} {S : FP} (h : RepE c P H ρ σ S) : ∀ vs : List Nat, ∃ S', RepE c P H (goneAt ρ vs) (L2.wipe σ vs) S' ∧ ∀ a, S' a ≤ S a
  | [] => ⟨S, h, fun _ => Nat.le_refl _⟩
  | v :: vs => by
    obtain ⟨S1, h1, h2⟩ := RepE.wipe h vs
    obtain ⟨S2, h3, h4⟩ := RepE.gone v h1
    exact ⟨S2, h3, fun a => Nat.le_trans (h4 a) (h2 a)⟩
theorem wipe_at {σ : St} : ∀ {vs : List Nat} {j : Nat}, j ∉ vs → (L2.wipe σ vs)[j]? = σ[j]?
  | [], j, _ => rfl
  | v :: vs, j, h => by
    simp only [List.mem_cons, not_or] at h
    unfold L2.wipe
    rw [List.getElem?_set_ne (fun z => h.1 z.symm), wipe_at h.2]
theorem wipe_in {σ : St} : ∀ {vs : List Nat} {j : Nat}, j ∈ vs → j < σ.length → (L2.wipe σ vs)[j]? = some none
  | v :: vs, j, h, hl => by
    unfold L2.wipe
    by_cases z : v = j
    · subst z; rw [List.getElem?_set_self (by rw [wipe_length]; exact hl)]
    · rw [List.getElem?_set_ne z]
      exact wipe_in (by simpa [Ne.symm z] using h) hl
theorem wipe_eq {σ σ' : St} {vs : List Nat} (hl : σ'.length = σ.length) (h : ∀ j, j ∉ vs → σ'[j]? = σ[j]?) : L2.wipe σ' vs = L2.wipe σ vs := by
  apply List.ext_getElem?
  intro j
  by_cases hj : j ∈ vs
  · by_cases z : j < σ.length
    · rw [wipe_in hj (by omega), wipe_in hj z]
    · rw [List.getElem?_eq_none (by rw [wipe_length]; omega), List.getElem?_eq_none (by rw [wipe_length]; omega)]
  · rw [wipe_at hj, wipe_at hj, h j hj]
theorem wipe_wipe (σ : St) (vs : List Nat) : L2.wipe (L2.wipe σ vs) vs = L2.wipe σ vs := wipe_eq (wipe_length _ _) fun j hj => wipe_at hj
theorem Wd.wipe {c : LC} {P H : Hp} {S T : FP} {σ : St} {ρ : List D} (w : Wd c E P S T σ H ρ) (vs : List Nat) (hk : ∀ j ∈ vs, E.kp[j]? ≠ some true) : ∃ S', Wd c E P S' T (L2.wipe σ vs) H (goneAt ρ vs) := by
  obtain ⟨S', h1, h2⟩ := RepE.wipe w.env vs
  refine ⟨S', w.shrink h1 (fun a => by have := h2 a; omega) (fun _ => Nat.le_refl _) fun i v h3 h4 => ?_⟩
  rw [wipe_at fun z => hk i z h3]
  exact w.kp i v h3 h4
def compL (f : TgM) (mc : BM) (me : RM) (ρ0 : List D) : List D → Option (List D)
  | [] => some []
  | d :: ds => (f d ρ0).bind fun ρ1 => (mc ρ1).bind fun k => if k = true then (me ρ1).bind fun y => if frz y = true then (compL f mc me ρ0 ds).map fun ys => y :: ys else none else compL f mc me ρ0 ds
def compM (vs : List Nat) (f : TgM) (mc : BM) (me : RM) (ms : AM) : RM := fun ρ => (ms ρ).bind fun ds => if ds.length ≤ LIM then (compL f mc me (goneAt ρ vs) ds).map (.lst true) else none
def yesB : BM := fun _ => some true
theorem compL_len {f : TgM} {mc : BM} {me : RM} {ρ0 : List D} : ∀ {ds ys : List D}, compL f mc me ρ0 ds = some ys → ys.length ≤ ds.length
  | [], ys, h => by cases h; exact Nat.le_refl _
  | d :: ds, ys, h => by
    unfold compL at h
    cases e1 : f d ρ0 with
    | none => rw [e1] at h; cases h
    | some ρ1 =>
      cases e2 : mc ρ1 with
      | none => rw [e1, Option.bind_some, e2] at h; cases h
      | some k =>
        rw [e1, Option.bind_some, e2, Option.bind_some] at h
        split at h
        · cases e3 : me ρ1 with
          | none => rw [e3] at h; cases h
          | some y =>
            rw [e3, Option.bind_some] at h
            split at h
            · cases e4 : compL f mc me ρ0 ds with
              | none => rw [e4] at h; cases h
              | some zs => rw [e4] at h; cases h; have := compL_len e4; simp; omega
            · cases h
        · have := compL_len h; simp; omega
theorem compL_turn {f : TgM} {mc : BM} {me : RM} {ρ0 : List D} : ∀ {ds ys : List D} {i : Nat} {d : D}, compL f mc me ρ0 ds = some ys → ds[i]? = some d → ∃ zs ρ1 k, compL f mc me ρ0 (ds.take i) = some zs ∧ f d ρ0 = some ρ1 ∧ mc ρ1 = some k ∧
    (k = true → ∃ y, me ρ1 = some y ∧ frz y = true ∧ compL f mc me ρ0 (ds.take (i + 1)) = some (zs ++ [y])) ∧ (k = false → compL f mc me ρ0 (ds.take (i + 1)) = some zs)
  | [], ys, i, d, h, e => by simp at e
  | d0 :: ds, ys, i, d, h, e => by
    unfold compL at h
    cases e1 : f d0 ρ0 with
    | none => rw [e1] at h; cases h
    | some ρ1 =>
      cases e2 : mc ρ1 with
      | none => rw [e1, Option.bind_some, e2] at h; cases h
      | some k =>
        rw [e1, Option.bind_some, e2, Option.bind_some] at h
        cases i with
        | zero =>
          simp at e; subst e
          refine ⟨[], ρ1, k, rfl, e1, e2, fun hk => ?_, fun hk => ?_⟩
          · subst hk
            rw [if_pos rfl] at h
            cases e3 : me ρ1 with
            | none => rw [e3] at h; cases h
            | some y =>
              rw [e3, Option.bind_some] at h
              split at h
              · rename_i hf
                exact ⟨y, rfl, hf, by simp [compL, e1, e2, e3, hf]⟩
              · cases h
          · subst hk; simp [compL, e1, e2]
        | succ i =>
          have e' : ds[i]? = some d := by simpa using e
          cases k with
          | true =>
            rw [if_pos rfl] at h
            cases e3 : me ρ1 with
            | none => rw [e3] at h; cases h
            | some y =>
              rw [e3, Option.bind_some] at h
              split at h
              · rename_i hf
                cases e4 : compL f mc me ρ0 ds with
                | none => rw [e4] at h; cases h
                | some ws =>
                  obtain ⟨zs, ρ2, k2, h1, h2, h3, h4, h5⟩ := compL_turn e4 e'
                  refine ⟨y :: zs, ρ2, k2, by simp [compL, e1, e2, e3, hf, h1], h2, h3, fun z => ?_, fun z => ?_⟩
                  · obtain ⟨y2, k3, k4, k5⟩ := h4 z
                    exact ⟨y2, k3, k4, by simp [compL, e1, e2, e3, hf, k5]⟩
                  · simp [compL, e1, e2, e3, hf, h5 z]
              · cases h
          | false =>
            rw [if_neg (by decide)] at h
            obtain ⟨zs, ρ2, k2, h1, h2, h3, h4, h5⟩ := compL_turn h e'
            refine ⟨zs, ρ2, k2, by simp [compL, e1, e2, h1], h2, h3, fun z => ?_, fun z => ?_⟩
            · obtain ⟨y2, k3, k4, k5⟩ := h4 z
              exact ⟨y2, k3, k4, by simp [compL, e1, e2, k5]⟩
            · simp [compL, e1, e2, h5 z]
def tTs (c : LC) (E : En) (mc : BM) : TT := tT c E mc
theorem ts_nil : PTs X [] (tTs ⟨X.K, cl, X.w⟩ E yesB) := ⟨fun pins s σ H Q I ⟨P, S, T, ρ, b, w, hm, q⟩ => by
  cases hm
  exact pts_nil.run pins s σ H Q I (q H P (.refl w.ph))⟩
end
end LI

namespace LI
open PySem L2

inductive Fl where
  | nx | rt (d : D) | bk | ct | ex (n : Nat) (fs : List Str) (es : List D)
def XE1 (c : LC) (W : WX) (n : Nat) (fs : List Str) (vs : List V) (σ' : St) (H' : Hp) : Prop :=
  (fs = [] → W (.ref (c.cl n)) none σ' H') ∧ (fs ≠ [] → ∀ dd, H' dd = none → W (.ref (c.cl n)) (some dd) σ' (upd H' dd (.xd (fs.zip vs))))
abbrev SM := List D → Option (Fl × List D)
def SPost (c : LC) (E : En) (P : Hp) (D : Ends) : Fl → List LI.D → Prop
  | .nx, ρ' => ∀ σ' H' P' S', Wd c E P' S' fz σ' H' ρ' → Ex P P' → D.nx σ' H'
  | .rt d, ρ' => ∀ v σ' H' P' S' U, Wd c E P' S' U σ' H' ρ' → Rep c P' H' d v U → D.rt v H'
  | .bk, ρ' => ∀ σ' H' P' S', Wd c E P' S' fz σ' H' ρ' → Ex P P' → D.bk σ' H'
  | .ct, ρ' => ∀ σ' H' P' S', Wd c E P' S' fz σ' H' ρ' → Ex P P' → D.ct σ' H'
  | .ex n fs es, ρ' => ∀ vs σ' H' P' S' U, Wd c E P' S' U σ' H' ρ' → Ex P P' → RepL c P' H' es vs fz → XE1 c E.xw n fs vs σ' H'
def tS (c : LC) (E : En) (m : SM) : TS := fun D σ H => ∃ P S ρ fl ρ', Wd c E P S fz σ H ρ ∧ m ρ = some (fl, ρ') ∧ SPost c E P D fl ρ'
theorem SPost.mono {c : LC} {E : En} {P P2 : Hp} {D : Ends} {fl : Fl} {ρ' : List LI.D} (h : SPost c E P D fl ρ') (e : Ex P P2) : SPost c E P2 D fl ρ' := by
  cases fl with
  | nx => exact fun σ' H' P' S' w x => h σ' H' P' S' w (e.trans x)
  | rt d => exact h
  | bk => exact fun σ' H' P' S' w x => h σ' H' P' S' w (e.trans x)
  | ct => exact fun σ' H' P' S' w x => h σ' H' P' S' w (e.trans x)
  | ex n fs es => exact fun vs σ' H' P' S' U w x => h vs σ' H' P' S' U w (e.trans x)
section
variable {X : Cx} {cl : Nat → Addr} {E : En} {e a b tg : Expr} {pos : Pos} {m ma mb : SM} {g : GM}
def skipM : SM := fun ρ => some (.nx, ρ)
def seqM (m1 m2 : SM) : SM := fun ρ => (m1 ρ).bind fun r => match r.1 with | .nx => m2 r.2 | _ => some r
theorem s_nil : PSs X [] (tS ⟨X.K, cl, X.w⟩ E skipM) := PSs_imp pss_nil fun D σ H ⟨P, S, ρ, fl, ρ', w, hm, q⟩ => by
  cases hm
  exact q σ H P S w (.refl _)
theorem seq_run {c : LC} {D : Ends} {σ : St} {H : Hp} (h : tS c E (seqM ma mb) D σ H) : tSeq (tS c E ma) (tS c E mb) D σ H := by
  obtain ⟨P, S, ρ, fl, ρ', w, hm, q⟩ := h
  unfold seqM at hm
  cases ea : ma ρ with
  | none => rw [ea] at hm; cases hm
  | some r =>
    obtain ⟨f1, ρ1⟩ := r
    rw [ea, Option.bind_some] at hm
    refine ⟨P, S, ρ, f1, ρ1, w, ea, ?_⟩
    cases f1 with
    | nx => exact fun σ' H' P' S' w' x => ⟨P', S', ρ1, fl, ρ', w', hm, q.mono x⟩
    | rt d => cases hm; exact q
    | bk => cases hm; exact q
    | ct => cases hm; exact q
    | ex n fs es => cases hm; exact q
theorem s_cons {st : Stmt} {rest : List Stmt} (h1 : PS X st (tS ⟨X.K, cl, X.w⟩ E ma)) (h2 : PSs X rest (tS ⟨X.K, cl, X.w⟩ E mb)) : PSs X (st :: rest) (tS ⟨X.K, cl, X.w⟩ E (seqM ma mb)) := PSs_imp (pss_cons h1 h2) fun _ _ _ h => seq_run h
theorem RepE.forget {c : LC} {P H : Hp} : ∀ {ρ : List D} {σ : St} {S : FP} (i : Nat), RepE c P H ρ σ S → ∃ S', RepE c P H (ρ.set i .gone) σ S' ∧ ∀ a, S' a ≤ S a
  | [], [], S, i, h => ⟨S, h, fun a => Nat.le_refl _⟩
  | d0 :: ρ, v0 :: σ, S, 0, ⟨T, T2, h1, h2, f⟩ => ⟨fa fz T2, ⟨fz, T2, by cases v0 <;> first | exact ⟨rfl, rfl⟩ | exact rfl, h2, rfl⟩, fun a => by rw [f]; simp only [fa, fz]; omega⟩
  | d0 :: ρ, v0 :: σ, S, i + 1, ⟨T, T2, h1, h2, f⟩ => by
    obtain ⟨S', k1, k2⟩ := RepE.forget i h2
    exact ⟨fa T S', ⟨T, S', h1, k1, rfl⟩, fun a => by have := k2 a; rw [f]; simp only [fa]; omega⟩
  | [], _ :: _, _, _, h => h.elim
  | _ :: _, [], _, _, h => h.elim
theorem Wd.forget {c : LC} {P H : Hp} {S T : FP} {σ : St} {ρ : List D} (w : Wd c E P S T σ H ρ) : ∀ vs : List Nat, ∃ S', Wd c E P S' T σ H (goneAt ρ vs)
  | [] => ⟨S, w⟩
  | v :: vs => by
    obtain ⟨S1, w1⟩ := Wd.forget w vs
    obtain ⟨S2, h1, h2⟩ := RepE.forget v w1.env
    exact ⟨S2, w1.shrink h1 (fun a => by have := h2 a; omega) (fun _ => Nat.le_refl _) w1.kp⟩
def killM (vs : List Nat) (m : SM) : SM := fun ρ => m (goneAt ρ vs)
theorem s_kill (vs : List Nat) {sts : List Stmt} (h : PSs X sts (tS ⟨X.K, cl, X.w⟩ E m)) : PSs X sts (tS ⟨X.K, cl, X.w⟩ E (killM vs m)) := PSs_imp h fun D σ H ⟨P, S, ρ, fl, ρ', w, hm, q⟩ => by
  obtain ⟨S', w'⟩ := w.forget vs
  exact ⟨P, S', _, fl, ρ', w', hm, q⟩

theorem g_run {c : LC} {σ : St} {H : Hp} {Q : VK} {P : Hp} {S : FP} {ρ ρ1 : List D} {d : D} (w : Wd c E P S fz σ H ρ) (hg : g ρ = some (d, ρ1)) (q : ∀ v H' P' S' U, Wd c E P' S' U σ H' ρ1 → Ex P P' → Rep c P' H' d v U → Q v H') : tG c E g σ H Q :=
  ⟨P, S, fz, ρ, d, ρ1, w, hg, fun v H' P' S' U w' e r _ => q v H' P' S' U (by rw [fz_fa] at w'; exact w') e r⟩
def asgM (f : TgM) (g : GM) : SM := fun ρ => (g ρ).bind fun r => (f r.1 r.2).map fun ρ' => (.nx, ρ')
theorem asg_run {c : LC} {tl : List Nat} {f : TgM} {D : Ends} {σ : St} {H : Hp} (h : tS c E (asgM f g) D σ H) : tAsg (tG c E g) (tPG c E tl f) D σ H := by
  obtain ⟨P, S, ρ, fl, ρ', w, hm, q⟩ := h
  unfold asgM at hm
  cases eg : g ρ with
  | none => rw [eg] at hm; cases hm
  | some r =>
    obtain ⟨d, ρ1⟩ := r
    rw [eg, Option.bind_some] at hm
    cases ef : f d ρ1 with
    | none => rw [ef] at hm; cases hm
    | some ρ2 =>
      rw [ef] at hm
      cases hm
      exact g_run w eg fun v H' P' S' U w' e r => ⟨P', S', fz, U, ρ1, d, ρ', by rw [fz_fa]; exact w', r, ef, fun σ2 S2 w2 _ _ => q σ2 H' P' S2 w2 e⟩
theorem s_asg {tl : List Nat} {f : TgM} (he : PE X e (tG ⟨X.K, cl, X.w⟩ E g)) (hg : PG X tg (tPG ⟨X.K, cl, X.w⟩ E tl f)) (hs : swapsWithSole [tg] e pos.line X.env = pure false := by rfl) (hw : swappedStores [tg] e X.env = pure none := by rfl)
    (h1 : (assignEach [tg] X.env).map (·.2) = [assign tg X.env] := by rfl) : PS X (.Assign [tg] e pos) (tS ⟨X.K, cl, X.w⟩ E (asgM f g)) := PS_imp (ps_asg he hg hs hw h1) fun _ _ _ h => asg_run h
theorem s_set (i : Nat) {x : Str} {pos' : Pos} (hN : X.N.Nodup) (hi : X.N[i]? = some x) (hx : Loc X.env.scope x) (hk : E.kp[i]? ≠ some true) (he : PE X e (tG ⟨X.K, cl, X.w⟩ E g)) (hs : swapsWith e (some (.Name x pos')) pos.line X.env = pure false := by rfl) (hf : X.fn x = true ∨ X.env.scope.names.lookup x = some .local := by first | exact .inl rfl | exact .inr rfl | assumption) :
    PS X (.Assign [.Name x pos'] e pos) (tS ⟨X.K, cl, X.w⟩ E (asgM (nameT i) g)) := PS_imp (ps_set hN hi hx he hs hf) fun D σ H ⟨P, S, ρ, fl, ρ', w, hm, q⟩ => by
  unfold asgM at hm
  cases eg : g ρ with
  | none => rw [eg] at hm; cases hm
  | some r =>
    obtain ⟨d, ρ1⟩ := r
    rw [eg] at hm
    cases hm
    exact g_run w eg fun v H' P' S' U w' e r => by
      obtain ⟨S2, w2⟩ := (show Wd ⟨X.K, cl, X.w⟩ E P' S' (fa fz U) σ H' ρ1 by rw [fz_fa]; exact w').store r i hk
      exact q _ H' P' S2 w2 e
def exprM (g : GM) : SM := fun ρ => (g ρ).map fun r => (.nx, r.2)
theorem s_expr (he : PE X e (tG ⟨X.K, cl, X.w⟩ E g)) (hs : swapsWith e none pos.line X.env = pure false := by rfl) : PS X (.Expr e pos) (tS ⟨X.K, cl, X.w⟩ E (exprM g)) := PS_imp (ps_expr he hs) fun D σ H ⟨P, S, ρ, fl, ρ', w, hm, q⟩ => by
  unfold exprM at hm
  cases eg : g ρ with
  | none => rw [eg] at hm; cases hm
  | some r =>
    rw [eg] at hm
    cases hm
    exact g_run w eg fun v H' P' S' U w' e r => q σ H' P' S' (Wd.drop (U := U) (by rw [fz_fa]; exact w')) e
def retM (g : GM) : SM := fun ρ => (g ρ).map fun r => (.rt r.1, r.2)
theorem s_ret (he : PE X e (tG ⟨X.K, cl, X.w⟩ E g)) : PS X (.Return (some e) pos) (tS ⟨X.K, cl, X.w⟩ E (retM g)) := PS_imp (ps_ret he) fun D σ H ⟨P, S, ρ, fl, ρ', w, hm, q⟩ => by
  unfold retM at hm
  cases eg : g ρ with
  | none => rw [eg] at hm; cases hm
  | some r =>
    rw [eg] at hm
    cases hm
    exact g_run w eg fun v H' P' S' U w' e r => q v σ H' P' S' U w' r
def noM' : SM := fun _ => none
def ifM (mc : BM) (ma mb : SM) : SM := fun ρ => (mc ρ).bind fun k => if k = true then ma ρ else mb ρ
theorem s_if {mc : BM} {sa sb : List Stmt} (hc : PT X e (tT ⟨X.K, cl, X.w⟩ E mc)) (ha : PSs X sa (tS ⟨X.K, cl, X.w⟩ E ma)) (hb : PSs X sb (tS ⟨X.K, cl, X.w⟩ E mb)) : PS X (.If e sa sb pos) (tS ⟨X.K, cl, X.w⟩ E (ifM mc ma mb)) := PS_imp (ps_if hc ha hb) fun D σ H ⟨P, S, ρ, fl, ρ', w, hm, q⟩ => by
  unfold ifM at hm
  cases ec : mc ρ with
  | none => rw [ec] at hm; cases hm
  | some k =>
    rw [ec, Option.bind_some] at hm
    refine ⟨P, S, fz, ρ, k, w, ec, fun H' P' g => ?_⟩
    cases k with
    | true => exact iteT ⟨P', S, ρ, fl, ρ', w.grow g, hm, q.mono g.p⟩
    | false => exact iteF ⟨P', S, ρ, fl, ρ', w.grow g, hm, q.mono g.p⟩

def forL (f : TgM) (body : SM) (kl : List Nat) : List D → List D → Option (Fl × List D)
  | [], ρ => some (.nx, ρ)
  | d :: ds, ρ => (f d ρ).bind fun ρ1 => (body ρ1).bind fun r => match r.1 with
    | .nx => forL f body kl ds (goneAt r.2 kl)
    | .ct => forL f body kl ds (goneAt r.2 kl)
    | .bk => some (.nx, goneAt r.2 kl)
    | .rt d => some (.rt d, r.2)
    | .ex n fs es => some (.ex n fs es, r.2)
def forM (f : TgM) (body : SM) (kl : List Nat) (ms : AM) : SM := fun ρ => (ms ρ).bind fun ds => forL f body kl ds ρ
theorem for_run {c : LC} {tl kl : List Nat} {f : TgM} {body : SM} {ms : AM} {D : Ends} {σ : St} {H : Hp} (h : tS c E (forM f body kl ms) D σ H) : tFor (tI c E ms) (tPG c E tl f) (tS c E body) D σ H := by
  obtain ⟨P, S, ρ, fl, ρ', w, hm, q⟩ := h
  unfold forM at hm
  cases es : ms ρ with
  | none => rw [es] at hm; cases hm
  | some ds =>
    rw [es, Option.bind_some] at hm
    refine ⟨P, S, fz, ρ, ds, w, es, fun J H1 P1 g1 io => ?_⟩
    obtain ⟨G, Y, wk, hG, hY⟩ := io
    refine for_it wk (fun i σi Hi => ∃ P2 S2 ρi, Wd c E P2 S2 fz σi Hi ρi ∧ Ex P1 P2 ∧ forL f body kl (ds.drop i) ρi = some (fl, ρ')) ?_ ?_ ?_ ?_
    · exact ⟨P1, S, ρ, w.grow g1, .refl _, hm⟩
    · rintro i σi Hi hi ⟨P2, S2, ρi, w2, e2, _⟩
      exact hG P2 Hi e2 w2.ph
    · rintro i x σi Hi H3 hi ⟨P2, S2, ρi, w2, e2, hf⟩ y
      obtain ⟨P3, d, g3, hd, rd⟩ := hY i P2 Hi x H3 e2 w2.ph hi y
      have hdrop : ds.drop i = d :: ds.drop (i + 1) := by
        rw [List.drop_eq_getElem_cons hi]
        congr 1
        rw [List.getElem?_eq_getElem hi] at hd
        exact Option.some.inj hd
      rw [hdrop] at hf
      unfold forL at hf
      cases ef : f d ρi with
      | none => rw [ef] at hf; cases hf
      | some ρ1 =>
        cases eb : body ρ1 with
        | none => rw [ef, Option.bind_some, eb] at hf; cases hf
        | some r =>
          obtain ⟨f1, ρ2⟩ := r
          rw [ef, Option.bind_some, eb, Option.bind_some] at hf
          have w3 : Wd c E P3 S2 (fa fz fz) σi H3 ρi := by rw [fa_fz]; exact w2.grow g3
          refine ⟨P3, S2, fz, fz, ρi, d, ρ1, w3, rd, ef, fun σ4 S4 w4 _ _ => ⟨P3, S4, ρ1, f1, ρ2, w4, eb, ?_⟩⟩
          cases f1 with
          | nx =>
            intro σ' H' P' S' w' x'
            obtain ⟨S5, w5⟩ := w'.forget kl
            exact ⟨P', S5, _, w5, (e2.trans g3.p).trans x', hf⟩
          | ct =>
            intro σ' H' P' S' w' x'
            obtain ⟨S5, w5⟩ := w'.forget kl
            exact ⟨P', S5, _, w5, (e2.trans g3.p).trans x', hf⟩
          | bk =>
            cases hf
            intro σ' H' P' S' w' x'
            obtain ⟨S5, w5⟩ := w'.forget kl
            exact q σ' H' P' S5 w5 (((g1.p.trans e2).trans g3.p).trans x')
          | rt d' =>
            cases hf
            exact q
          | ex n fs es =>
            cases hf
            exact fun vs σ' H' P' S' U w' x' => q vs σ' H' P' S' U w' (((g1.p.trans e2).trans g3.p).trans x')
    · rintro σi Hi ⟨P2, S2, ρi, w2, e2, hf⟩
      rw [List.drop_length] at hf
      cases hf
      exact q σi Hi P2 S2 w2 (g1.p.trans e2)
theorem s_for {iter : Expr} {sb : List Stmt} {tl : List Nat} (kl : List Nat) {f : TgM} {body : SM} {ms : AM} (hp : PassesOwn (model X.prog X.w) X.A X.env X.xe) (hc : X.calm = true) (hi : PI X tg iter (tI ⟨X.K, cl, X.w⟩ E ms)) (hg : PG X tg (tPG ⟨X.K, cl, X.w⟩ E tl f)) (hb : PSs X sb (tS ⟨X.K, cl, X.w⟩ E body))
    (hs : ∀ x, foldedSetIterable iter X.env x = pure x := by intro _; rfl) : PS X (.For tg iter sb [] pos) (tS ⟨X.K, cl, X.w⟩ E (forM f body kl ms)) := PS_imp (ps_for hp hc hi hg hb hs) fun _ _ _ h => for_run h
end
end LI

namespace LI
open PySem L2 PyProof.Rows

structure Stp (P0 : Hp) (S0 : FP) (H0 P : Hp) (T : FP) (H : Hp) : Prop where
  p0 : Ex P0 P
  ph : Ex P H
  fr : ∀ a o, S0 a = 0 → H0 a = some o → H a = some o
  np : ∀ a, P a ≠ none → P0 a ≠ none ∨ 0 < S0 a ∨ H0 a = none
  ns : ∀ a, 0 < T a → 0 < S0 a ∨ H0 a = none
  le : ∀ a, T a ≤ 1
  out : ∀ a, 0 < T a → P a = none
abbrev FM := List D → Option (D × List D)
def spD (c : LC) (F : FM) : Sp := fun vs H Q _ => ∃ P S ds d ds', RepL c P H ds vs S ∧ Ex P H ∧ (∀ a, S a ≤ 1) ∧ (∀ a, 0 < S a → P a = none) ∧ F ds = some (d, ds') ∧
  ∀ v H' P' U S', Stp P S H P' (fa U S') H' → Rep c P' H' d v U → RepL c P' H' ds' vs S' → Q v H'
def maskL : List Bool → List D → List D
  | [], _ => []
  | _ :: bs, [] => .gone :: maskL bs []
  | b :: bs, d :: ds => (if b = true then d else .gone) :: maskL bs ds
def runM (n : Nat) (kp : List Bool) (m : SM) : FM := fun ds => if ds.length = kp.length then (m (ds ++ List.replicate (n - ds.length) .gone)).bind fun r => match r.1 with
  | .rt d => some (d, maskL kp r.2)
  | .nx => some (.non, maskL kp r.2)
  | _ => none
  else none
theorem repE_none {c : LC} {P H : Hp} : ∀ n : Nat, RepE c P H (List.replicate n .gone) (List.replicate n none) fz
  | 0 => rfl
  | n + 1 => ⟨fz, fz, ⟨rfl, rfl⟩, repE_none n, (fa_fz fz).symm⟩
theorem repE_start {c : LC} {P H : Hp} (n : Nat) : ∀ {ds : List D} {vs : List V} {S : FP}, RepL c P H ds vs S → RepE c P H (ds ++ List.replicate n .gone) (vs.map some ++ List.replicate n none) S
  | [], vs, S, r => by rw [r.1, r.2]; exact repE_none n
  | d :: ds, vs, S, ⟨y, ys, T, U, e, r, rs, f⟩ => by rw [e]; exact ⟨T, U, r, repE_start n rs, f⟩
theorem mask_rep {c : LC} {P H : Hp} : ∀ {kp : List Bool} {vs : List V} {ρ : List D} {σ : L2.St} {S : FP}, RepE c P H ρ σ S → kp.length = vs.length → (∀ (i : Nat) (v : V), kp[i]? = some true → vs[i]? = some v → σ[i]? = some (some v)) →
    ∃ S', RepL c P H (maskL kp ρ) vs S' ∧ ∀ a, S' a ≤ S a
  | [], vs, ρ, σ, S, r, h1, h3 => by
    have : vs = [] := List.length_eq_zero_iff.mp h1.symm
    subst this
    exact ⟨fz, ⟨rfl, rfl⟩, fun a => Nat.zero_le _⟩
  | b :: kp, [], ρ, σ, S, r, h1, h3 => by simp at h1
  | b :: kp, v :: vs, [], [], S, r, h1, h3 => by
    obtain ⟨S', k1, k2⟩ := mask_rep (kp := kp) (vs := vs) (ρ := []) (σ := []) r (by simpa using h1) fun i u z1 z2 => by
      have := h3 (i + 1) u (by simpa using z1) (by simpa using z2)
      simpa using this
    exact ⟨fa fz S', ⟨v, vs, fz, S', rfl, rfl, k1, rfl⟩, fun a => by have := k2 a; simp only [fa, fz]; omega⟩
  | b :: kp, v :: vs, [], _ :: _, S, r, h1, h3 => r.elim
  | b :: kp, v :: vs, d :: ρ, [], S, r, h1, h3 => r.elim
  | b :: kp, v :: vs, d :: ρ, ov :: σ, S, ⟨T, U, r, rs, f⟩, h1, h3 => by
    obtain ⟨S', k1, k2⟩ := mask_rep (kp := kp) (vs := vs) rs (by simpa using h1) fun i u z1 z2 => by
      have := h3 (i + 1) u (by simpa using z1) (by simpa using z2)
      simpa using this
    cases b with
    | false => exact ⟨fa fz S', ⟨v, vs, fz, S', rfl, rfl, k1, rfl⟩, fun a => by have := k2 a; rw [f]; simp only [fa, fz]; omega⟩
    | true =>
      have e := h3 0 v rfl rfl
      simp at e
      subst e
      exact ⟨fa T S', ⟨v, vs, T, S', rfl, r, k1, rfl⟩, fun a => by have := k2 a; rw [f]; simp only [fa]; omega⟩
section
variable {P : Program} {w : World} {K : PySem.W.Frag} {mg : Str → Option Value} {base : Heap} {cl : Nat → Addr}
theorem ok_def {x qual : Str} {st : Stmt} {f : Addr} {fd : FuncData} {N ps : List Str} {k : Nat} {kp : List Bool} {m : SM} (F : Fun K x qual st f fd) (S : FnScope N ps (defScope st)) (hk : kp.length = ps.length)
    (hbody : ∀ (cdv : Value) (A : Around) (outer : List Env) (s : Shared) (H : Hp) (E : XK) (e : En), e.kp = kp → Room k (A.deeper (envOfC qual (defScope st) s.heap.objs.size f cdv)) →
      PSs (cxOf CX0 P w K mg base N qual (defScope st) f cdv A outer s H E).nox (defBody st) (tS ⟨K, cl, w⟩ e m)) : FnOk P w K mg base CX0 (k + 1) f fd ps (spD ⟨K, cl, w⟩ (runM N.length kp m)) := by
  refine F.ok S (fun vs H Q E h => ?_) (fun cdv A outer s H vs Q E hr h => ?_)
  · obtain ⟨Pp, Sp, ds, d, ds', r, _, _, _, hm, _⟩ := h
    unfold runM at hm
    split at hm
    · rename_i hl
      rw [← r.length, hl, hk]
    · cases hm
  · obtain ⟨Pp, Sp, ds, d, ds', r, e1, e2, e3, hm, q⟩ := h
    unfold runM at hm
    split at hm
    · rename_i hl
      have hlv : vs.length = kp.length := by rw [← r.length, hl]
      have hvs : ∀ i : Nat, kp[i]? = some true → ∃ v, vs[i]? = some v := fun i hi => by
        have hi' : i < kp.length := (List.getElem?_eq_some_iff.mp hi).1
        exact ⟨_, List.getElem?_eq_getElem (by omega)⟩
      refine ⟨_, hbody cdv A outer s H E ⟨Pp, H, Sp, kp, vs, hvs, fun _ _ _ _ => False⟩ rfl hr, ?_⟩
      cases em : m (ds ++ List.replicate (N.length - ds.length) .gone) with
      | none => rw [em] at hm; cases hm
      | some rr =>
        obtain ⟨fl, ρ'⟩ := rr
        rw [em, Option.bind_some] at hm
        have w0 : Wd ⟨K, cl, w⟩ ⟨Pp, H, Sp, kp, vs, hvs, fun _ _ _ _ => False⟩ Pp Sp fz (L2.start N vs) H (ds ++ List.replicate (N.length - ds.length) .gone) := by
          refine ⟨?_, fun a => by have := e2 a; simp only [fz]; omega, fun a h => e3 a (by simpa [fz] using h), fun a h => by simp [fz] at h, e1, .refl _, fun _ _ _ h => h, fun a h => .inl h, fun a h => .inl (by simpa [fz] using h), fun i v h1 h2 => ?_⟩
          · unfold L2.start
            rw [r.length]
            exact repE_start _ r
          · unfold L2.start
            have h2 : vs[i]? = some v := h2
            rw [List.getElem?_append_left (by rw [List.length_map]; exact (List.getElem?_eq_some_iff.mp h2).1), List.getElem?_map, h2]
            rfl
        have fin : ∀ (v : V) (σ' : L2.St) (H' P' : Hp) (S' U : FP) (d1 : D), Wd ⟨K, cl, w⟩ ⟨Pp, H, Sp, kp, vs, hvs, fun _ _ _ _ => False⟩ P' S' U σ' H' ρ' → Rep ⟨K, cl, w⟩ P' H' d1 v U → some (d1, maskL kp ρ') = some (d, ds') → Q v H' := by
          intro v σ' H' P' S' U d1 w' rd hs
          cases hs
          obtain ⟨S2, k1, k2⟩ := mask_rep (kp := kp) (vs := vs) w'.env hlv.symm w'.kp
          exact q v H' P' U S2 ⟨w'.p0, w'.ph, w'.fr, w'.np, fun a h => w'.ns a (by have := k2 a; simp only [fa] at h; omega), fun a => by have := k2 a; have := w'.le a; simp only [fa]; omega, fun a h => w'.out a (by have := k2 a; simp only [fa] at h; omega)⟩ rd k1
        refine ⟨Pp, Sp, _, fl, ρ', w0, em, ?_⟩
        cases fl with
        | nx => exact fun σ' H' P' S' w' _ => fin .non σ' H' P' S' fz .non w' ⟨rfl, rfl⟩ hm
        | rt d1 => exact fun v σ' H' P' S' U w' r => fin v σ' H' P' S' U d1 w' r hm
        | bk => cases hm
        | ct => cases hm
        | ex n fs es => cases hm
    · cases hm
end
end LI

namespace LI
open PySem L2

def isFlat : D → Bool
  | .non => true | .bl _ => true | .int _ => true | .str _ => true | _ => false
theorem flat_any {c : LC} {P H P' H' : Hp} : ∀ {d : D} {v : V} {U : FP}, isFlat d = true → Rep c P H d v U → Rep c P' H' d v fz
  | .non, v, U, _, r => ⟨r.1, rfl⟩
  | .bl _, v, U, _, r => ⟨r.1, rfl⟩
  | .int _, v, U, _, r => ⟨r.1, rfl⟩
  | .str _, v, U, _, r => ⟨r.1, rfl⟩
def callM (F : FM) (ms : AM) : RM := fun ρ => (ms ρ).bind fun ds => (F (iceL ds)).bind fun r => if frzL ds = true ∨ noIce r.1 = true then some r.1 else none
def coldP (U : FP) (P H : Hp) : Hp := fun a => if 0 < U a then H a else P a
theorem coldP_p {U : FP} {P H : Hp} (e : Ex P H) : Ex P (coldP U P H) := fun a o h => by
  unfold coldP
  split
  · exact e a o h
  · exact h
theorem coldP_h {U : FP} {P H : Hp} (e : Ex P H) : Ex (coldP U P H) H := fun a o h => by
  unfold coldP at h
  split at h
  · exact h
  · exact e a o h
theorem coldP_fz {P H : Hp} : coldP fz P H = P := by funext a; simp [coldP, fz]
theorem spD_view {c : LC} {F : FM} {P H : Hp} {ds : List D} {vs : List V} {U : FP} {d : D} {ds' : List D} {Q : VK} {E : XK} (e : Ex P H) (r : RepL c P H ds vs U) (hf : F (iceL ds) = some (d, ds')) (hz : frzL ds = true ∨ noIce d = true) (q : FQ c P H d Q) : spD c F vs H Q E := by
  refine ⟨coldP U P H, fz, iceL ds, d, ds', RepL.ice (coldP_p e) ds vs U (fun a o h1 h2 => by unfold coldP; rw [if_pos h1]; exact h2) r, coldP_h e, fun _ => Nat.zero_le _, fun a h => by simp [fz] at h, hf, fun v H' P' U2 S' st rd rs => ?_⟩
  have hH : Ex H H' := fun a o h => st.fr a o rfl h
  rcases hz with hz | hz
  · have := RepL.frz0 ds vs U hz r
    subst this
    rw [coldP_fz] at st
    refine q v H' P' U2 ⟨st.p0, hH, st.ph, fun a h => by rcases st.np a h with z | z | z <;> first | exact .inl z | (simp [fz] at z; done) | exact .inr z⟩ rd (fun a => by have := st.le a; simp only [fa] at this; omega) fun a h => ?_
    refine ⟨?_, st.out a (by simp only [fa]; omega)⟩
    rcases st.ns a (by simp only [fa]; omega) with z | z
    · simp [fz] at z
    · exact z
  · have hU : ∀ a, 0 < U a → ∃ o, H a = some o ∧ notTup o = true := RepL.nt ds vs U r
    have hP : ∀ a o, P a = some o → (if 0 < U a then P a else P' a) = some o := fun a o h => by
      split
      · exact h
      · rename_i z
        exact st.p0 a o (by unfold coldP; rw [if_neg z]; exact h)
    refine q v H' (fun a => if 0 < U a then P a else P' a) U2 ⟨hP, hH, fun a o h => ?_, fun a h => ?_⟩ (Rep.thaw (fun b o h1 h2 => ?_) d v U2 hz rd) (fun a => by have := st.le a; simp only [fa] at this; omega) fun a h => ?_
    · skip
      split at h
      · exact hH a o (e a o h)
      · exact st.ph a o h
    · skip
      split at h
      · exact .inl h
      · rename_i z
        rcases st.np a h with y | y | y
        · unfold coldP at y; rw [if_neg z] at y; exact .inl y
        · simp [fz] at y
        · exact .inr y
    · skip
      rw [if_neg]
      · exact h1
      · intro z
        obtain ⟨o2, k1, k2⟩ := hU b z
        have := hH b o2 k1
        rw [st.ph b o h1] at this
        cases this
        rw [h2] at k2; cases k2
    · have hn : H a = none := by
        rcases st.ns a (by simp only [fa]; omega) with z | z
        · simp [fz] at z
        · exact z
      refine ⟨hn, ?_⟩
      skip
      rw [if_neg]
      · exact st.out a (by simp only [fa]; omega)
      · intro z
        obtain ⟨o2, k1, _⟩ := hU a z
        rw [hn] at k1; cases k1
section
variable {X : Cx} {cl : Nat → Addr} {E : En} {e a b o : Expr} {es : List Expr} {pos p apos : Pos} {m : RM} {ms : AM} {CX : CXT} {k : Nat} {f C : Addr} {fd : FuncData} {ps : List Str} {F : FM} {XE : XK} {x nm : Str}
theorem call_split {ρ : List D} {d : D} (h : callM F ms ρ = some d) : ∃ ds ds', ms ρ = some ds ∧ F (iceL ds) = some (d, ds') ∧ (frzL ds = true ∨ noIce d = true) := by
  unfold callM at h
  cases e1 : ms ρ with
  | none => rw [e1] at h; cases h
  | some ds =>
    rw [e1, Option.bind_some] at h
    cases e2 : F (iceL ds) with
    | none => rw [e2] at h; cases h
    | some r =>
      rw [e2, Option.bind_some] at h
      split at h
      · rename_i hz
        cases h
        exact ⟨ds, r.2, rfl, e2, hz⟩
      · cases h
theorem f_call (G : FnOk X.prog X.w X.K X.mg X.base CX k f fd ps (spD ⟨X.K, cl, X.w⟩ F)) (hr : Room k X.A) (hg : Gl X x) (hm : X.mg x = some (.ref f)) (hk : PySem.W.keepIn X.K (.ref f) = true) (hb : Binds X.K fd ps []) (hx : Passes CX X XE)
    (ha : PA X (e :: es) (tAR ⟨X.K, cl, X.w⟩ E ms)) (hdb : (x == ("__debug__" : Str)) = false := by decide) (he : starEach (e :: es) X.env = (false, eval e X.env) :: starEach es X.env := by rfl) (hpl : (backTo pos (starEach es X.env)).any (·.1) = false := by rfl) :
    PE X (.Call (.Name x p) (e :: es) [] pos) (tF ⟨X.K, cl, X.w⟩ E (callM F ms)) := PE_imp (pe_call G hr hg hm hk hb .nil hx ha hdb he hpl) fun σ H Q ⟨P, S, T, ρ, d, w, h, q⟩ => by
  obtain ⟨ds, ds', e1, e2, hz⟩ := call_split h
  refine ⟨P, S, T, ρ, ds, w, e1, fun vs H1 P1 U1 g1 r1 => ?_⟩
  show spD ⟨X.K, cl, X.w⟩ F (vs ++ []) H1 Q XE
  rw [List.append_nil]
  exact spD_view g1.ph r1 e2 hz (q.grow g1)
def mkM (n : Nat) (F : FM) (ms : AM) : RM := fun ρ => (ms ρ).bind fun ds => if frzL ds = true then (F (.obj true n [] [] :: ds)).bind fun r => match r with | (.non, self :: _) => some self | _ => none else none
theorem mk_run {c : LC} {n : Nat} {P H : Hp} {ds : List D} {vs : List V} {self : D} {ds' : List D} {Q : VK} {XE : XK} (e : Ex P H) (r : RepL c P H ds vs fz) (hf : F (.obj true n [] [] :: ds) = some (.non, self :: ds')) (q : FQ c P H self Q) :
    ∀ x dx, H x = none → H dx = none → dx ≠ x → spD c F (.ref x :: (vs ++ [])) (upd (upd H dx (.own x)) x (.ins (c.cl n) dx [])) (fun v H2 => v = .non ∧ Q (.ref x) H2) XE := by
  intro x dx hx hdx hne
  have ex : Ex H (upd (upd H dx (.own x)) x (.ins (c.cl n) dx [])) := fun a o z => by
    rw [upd_ne (ne_of_none z hx), upd_ne (ne_of_none z hdx)]; exact z
  have back : ∀ a, upd (upd H dx (.own x)) x (.ins (c.cl n) dx []) a = none → H a = none := fun a z => by
    cases q : H a with
    | none => rfl
    | some o => rw [ex a o q] at z; cases z
  rw [List.append_nil]
  refine ⟨P, fa (one x) fz, .obj true n [] [] :: ds, _, _, ⟨.ref x, vs, one x, fz, rfl, ⟨x, dx, [], fz, rfl, upd_same, rfl, ⟨rfl, rfl⟩, (fa_fz _).symm⟩, repL_h r, rfl⟩, e.trans ex, fun a => by rw [fa_fz]; exact one_le a, fun a z => ?_, hf, fun v H' P' U S' st rd rs => ?_⟩
  · rw [fa_fz] at z; rw [one_pos z]; exact none_of e hx
  · rw [fa_fz] at st
    obtain ⟨y, ys, T1, T2, e1, r1, _, e2⟩ := rs
    cases e1
    have hH : Ex H H' := fun a o z => st.fr a o (by unfold one; rw [if_neg (ne_of_none z hx)]) (ex a o z)
    have old : ∀ a, (0 < one x a ∨ upd (upd H dx (.own x)) x (.ins (c.cl n) dx []) a = none) → H a = none := fun a z => by
      rcases z with z | z
      · rw [one_pos z]; exact hx
      · exact back a z
    refine ⟨rd.1, q (.ref x) H' P' T1 ⟨st.p0, hH, st.ph, fun a z => ?_⟩ r1 (fun a => ?_) fun a z => ⟨old a (st.ns a ?_), st.out a ?_⟩⟩
    · rcases st.np a z with z | z | z
      · exact .inl z
      · exact .inr (old a (.inl z))
      · exact .inr (old a (.inr z))
    · have := st.le a; rw [e2] at this; simp only [fa] at this; omega
    · rw [e2]; simp only [fa]; omega
    · rw [e2]; simp only [fa]; omega
theorem mk_split {n : Nat} {ρ : List D} {d : D} (h : mkM n F ms ρ = some d) : ∃ ds ds', ms ρ = some ds ∧ frzL ds = true ∧ F (.obj true n [] [] :: ds) = some (.non, d :: ds') := by
  unfold mkM at h
  cases e1 : ms ρ with
  | none => rw [e1] at h; cases h
  | some ds =>
    rw [e1, Option.bind_some] at h
    split at h
    · rename_i hz
      cases e2 : F (.obj true n [] [] :: ds) with
      | none => rw [e2] at h; cases h
      | some r =>
        rw [e2, Option.bind_some] at h
        split at h
        · cases h; exact ⟨ds, _, rfl, hz, e2⟩
        · cases h
    · cases h
theorem f_mk (n : Nat) (M : Mk X.K (cl n) f) (G : FnOk X.prog X.w X.K X.mg X.base CX k f fd ps (spD ⟨X.K, cl, X.w⟩ F)) (hr : Room (k + 1) X.A) (hg : Gl X x) (hm : X.mg x = some (.ref (cl n))) (hb : Binds X.K fd ps []) (hx : Passes CX X XE)
    (ha : PA X (e :: es) (tAR ⟨X.K, cl, X.w⟩ E ms)) (hdb : (x == ("__debug__" : Str)) = false := by decide) (he : starEach (e :: es) X.env = (false, eval e X.env) :: starEach es X.env := by rfl) (hpl : (backTo pos (starEach es X.env)).any (·.1) = false := by rfl) :
    PE X (.Call (.Name x p) (e :: es) [] pos) (tF ⟨X.K, cl, X.w⟩ E (mkM n F ms)) := PE_imp (pe_make M G hr hg hm hb .nil hx ha hdb he hpl) fun σ H Q ⟨P, S, T, ρ, d, w, h, q⟩ => by
  obtain ⟨ds, ds', e1, hz, e2⟩ := mk_split h
  refine ⟨P, S, T, ρ, ds, w, e1, fun vs H1 P1 U1 g1 r1 => ?_⟩
  have := RepL.frz0 ds vs U1 hz r1
  subst this
  exact mk_run g1.ph r1 e2 (q.grow g1)
end

structure Lens where
  get : List D → Option D
  put : List D → D → List D
structure Loc (c : LC) (L : Lens) (P H : Hp) (σ : L2.St) (ρ : List D) (S : FP) (v : V) (d : D) (Sd R : FP) : Prop where
  sum : ∀ a, S a = Sd a + R a
  rep : Rep c P H d v Sd
  put : ∀ (P2 H2 : Hp) (d2 : D) (S2 : FP), Ex P P2 → (∀ a o, 0 < R a → H a = some o → H2 a = some o) → Rep c P2 H2 d2 v S2 → RepE c P2 H2 (L.put ρ d2) σ (fa S2 R)
theorem Loc.grow {c : LC} {L : Lens} {P H P' H' : Hp} {σ : L2.St} {ρ : List D} {S : FP} {v : V} {d : D} {Sd R : FP} (l : Loc c L P H σ ρ S v d Sd R) (g : Gr P H P' H') : Loc c L P' H' σ ρ S v d Sd R :=
  ⟨l.sum, l.rep.gr g, fun P2 H2 d2 S2 e k r => l.put P2 H2 d2 S2 (g.p.trans e) (fun a o h1 h2 => k a o h1 (g.h a o h2)) r⟩
def tPl (c : LC) (E : En) (L : Lens) : TE := fun σ H Q => ∃ P S T ρ d, Wd c E P S T σ H ρ ∧ L.get ρ = some d ∧ ∀ v Sd R, Loc c L P H σ ρ S v d Sd R → Q v H
theorem RepE.focus {c : LC} {P H : Hp} : ∀ {ρ : List D} {σ : L2.St} {S : FP} {i : Nat} {d : D}, RepE c P H ρ σ S → ρ[i]? = some d → notGone d = true → ∃ v Sd R, σ[i]? = some (some v) ∧ Rep c P H d v Sd ∧ (∀ a, S a = Sd a + R a) ∧
    ∀ (P2 H2 : Hp) (d2 : D) (S2 : FP), Ex P P2 → (∀ a o, 0 < R a → H a = some o → H2 a = some o) → Rep c P2 H2 d2 v S2 → RepE c P2 H2 (ρ.set i d2) σ (fa S2 R)
  | [], [], _, i, d, _, e, _ => by simp at e
  | d0 :: ρ, v0 :: σ, S, 0, d, ⟨T, U, r, rs, f⟩, e, n => by
    simp at e; subst e
    cases v0 with
    | none => rw [r.1] at n; cases n
    | some v =>
      exact ⟨v, T, U, rfl, r, fun a => by rw [f]; rfl, fun P2 H2 d2 S2 e1 k r2 => ⟨S2, U, r2, rs.mono e1 ρ σ U k, rfl⟩⟩
  | d0 :: ρ, v0 :: σ, S, i + 1, d, ⟨T, U, r, rs, f⟩, e, n => by
    obtain ⟨v, Sd, R, h1, h2, h3, h4⟩ := RepE.focus (i := i) (d := d) rs (by simpa using e) n
    refine ⟨v, Sd, fa T R, by simpa using h1, h2, fun a => by have := h3 a; rw [f]; simp only [fa]; omega, fun P2 H2 d2 S2 e1 k r2 => ?_⟩
    refine ⟨T, fa S2 R, RepO.mono e1 (fun a o z1 z2 => k a o (by simp only [fa]; omega) z2) r, h4 P2 H2 d2 S2 e1 (fun a o z1 z2 => k a o (by simp only [fa]; omega) z2) r2, by funext a; simp only [fa]; omega⟩
  | [], _ :: _, _, _, _, h, _, _ => h.elim
  | _ :: _, [], _, _, _, h, _, _ => h.elim
theorem RepL.focus {c : LC} {P H : Hp} : ∀ {ds : List D} {xs : List V} {S : FP} {i : Nat} {d : D}, RepL c P H ds xs S → ds[i]? = some d → ∃ v Sd R, xs[i]? = some v ∧ Rep c P H d v Sd ∧ (∀ a, S a = Sd a + R a) ∧
    ∀ (P2 H2 : Hp) (d2 : D) (y : V) (S2 : FP), Ex P P2 → (∀ a o, 0 < R a → H a = some o → H2 a = some o) → Rep c P2 H2 d2 y S2 → RepL c P2 H2 (ds.set i d2) (xs.set i y) (fa S2 R)
  | [], xs, S, i, d, h, e => by simp at e
  | d0 :: ds, xs, S, 0, d, ⟨y, ys, T, U, e1, r, rs, f⟩, e => by
    simp at e; subst e
    subst e1
    exact ⟨y, T, U, rfl, r, fun a => by rw [f]; rfl, fun P2 H2 d2 z S2 e1 k r2 => ⟨z, ys, S2, U, rfl, r2, RepL.mono e1 ds ys U k rs, rfl⟩⟩
  | d0 :: ds, xs, S, i + 1, d, ⟨y, ys, T, U, e1, r, rs, f⟩, e => by
    subst e1
    obtain ⟨v, Sd, R, h1, h2, h3, h4⟩ := RepL.focus (i := i) (d := d) rs (by simpa using e)
    refine ⟨v, Sd, fa T R, by simpa using h1, h2, fun a => by have := h3 a; rw [f]; simp only [fa]; omega, fun P2 H2 d2 z S2 e1 k r2 => ?_⟩
    refine ⟨y, ys.set i z, T, fa S2 R, rfl, Rep.mono e1 d0 y T (fun a o z1 z2 => k a o (by simp only [fa]; omega) z2) r, h4 P2 H2 d2 z S2 e1 (fun a o z1 z2 => k a o (by simp only [fa]; omega) z2) r2, by funext a; simp only [fa]; omega⟩
def vL (i : Nat) : Lens := ⟨fun ρ => (ρ[i]?).bind fun d => if notGone d = true then some d else none, fun ρ d => ρ.set i d⟩
theorem vL_get {i : Nat} {ρ : List D} {d : D} (h : (vL i).get ρ = some d) : ρ[i]? = some d ∧ notGone d = true := by
  unfold vL at h
  cases e : ρ[i]? with
  | none => simp [e] at h
  | some d1 =>
    simp only [e, Option.bind_some] at h
    split at h
    · rename_i hn; cases h; exact ⟨rfl, hn⟩
    · cases h
def fIx (f : Str) : List Str → Option Nat
  | [] => none
  | g :: gs => if f = g then some 0 else (fIx f gs).map (· + 1)
def fldL (n : Nat) (f : Str) (L : Lens) : Lens := ⟨fun ρ => (L.get ρ).bind fun d => match d with
    | .obj _ k fs ds => if k = n then (fIx f fs).bind fun j => (ds[j]?).bind fun d => if notGone d = true then some d else none else none
    | _ => none,
  fun ρ d2 => match L.get ρ with
    | some (.obj o k fs ds) => match fIx f fs with
      | some j => L.put ρ (.obj o k fs (ds.set j d2))
      | none => ρ
    | _ => ρ⟩
theorem fIx_lookup {f : Str} : ∀ {fs : List Str} {xs : List V} {j : Nat}, fIx f fs = some j → fs.length = xs.length → (fs.zip xs).lookup f = xs[j]?
  | [], xs, j, h, n => by cases h
  | g :: gs, [], j, h, n => by simp at n
  | g :: gs, x :: xs, j, h, n => by
    unfold fIx at h
    by_cases e : f = g
    · rw [if_pos e] at h; cases h
      have : (f == g) = true := by rw [e]; exact beq_self_eq_true _
      simp [List.lookup, this]
    · rw [if_neg e] at h
      cases z : fIx f gs with
      | none => rw [z] at h; cases h
      | some j' =>
        rw [z] at h; cases h
        have : (f == g) = false := beq_eq_false_iff_ne.mpr e
        simp [List.lookup, this, fIx_lookup z (by simpa using n)]
theorem obj_heap {c : LC} {P H : Hp} (e : Ex P H) {o : Bool} {k : Nat} {fs : List Str} {ds : List D} {v : V} {U : FP} (r : Rep c P H (.obj o k fs ds) v U) : ∃ a dx xs T Z, v = .ref a ∧ H a = some (.ins (c.cl k) dx (fs.zip xs)) ∧ fs.length = xs.length ∧ RepL c P H ds xs T ∧ (∀ b, U b = Z b + T b) ∧
    ∀ (P2 H2 : Hp) (ds2 : List D) (T2 : FP), Ex P P2 → (∀ b u, 0 < Z b → H b = some u → H2 b = some u) → RepL c P2 H2 ds2 xs T2 → Rep c P2 H2 (.obj o k fs ds2) v (fa Z T2) := by
  cases o with
  | true =>
    obtain ⟨a, dx, xs, T, e1, h, n, rl, f⟩ := r
    exact ⟨a, dx, xs, T, one a, e1, h, n, rl, fun b => by rw [f]; rfl, fun P2 H2 ds2 T2 _ hk r2 => ⟨a, dx, xs, T2, e1, hk a _ (by simp [one]) h, n, r2, rfl⟩⟩
  | false =>
    obtain ⟨a, dx, xs, e1, h, n, rl⟩ := r
    exact ⟨a, dx, xs, U, fz, e1, e _ _ h, n, rl, fun b => by simp [fz], fun P2 H2 ds2 T2 hp _ r2 => ⟨a, dx, xs, e1, hp _ _ h, n, by rw [fz_fa]; exact r2⟩⟩
section
variable {X : Cx} {cl : Nat → Addr} {E : En} {e a b o : Expr} {es : List Expr} {pos p apos : Pos} {m : RM} {L : Lens}
theorem p_v (i : Nat) {x : Str} (hN : X.N[i]? = some x := by rfl) (hv : Vis X.env.scope x := by first | exact Or.inl rfl | exact Or.inr (Or.inl rfl) | exact Or.inr (Or.inr rfl)) (hd : (x == ("__debug__" : Str)) = false := by decide)
    (hcd : (x == ("__classdict__" : Str)) = false := by decide) : PE X (.Name x pos) (tPl ⟨X.K, cl, X.w⟩ E (vL i)) := PE_imp (pe_var hN hv hd hcd) fun σ H Q ⟨P, S, T, ρ, d, w, hg, q⟩ => by
  obtain ⟨h1, h2⟩ := vL_get hg
  obtain ⟨v, Sd, R, k1, k2, k3, k4⟩ := w.env.focus h1 h2
  exact ⟨v, k1, q v Sd R ⟨k3, k2, k4⟩⟩
theorem fld_split {n : Nat} {f : Str} {ρ : List D} {d : D} (h : (fldL n f L).get ρ = some d) : ∃ o fs ds j, L.get ρ = some (.obj o n fs ds) ∧ fIx f fs = some j ∧ ds[j]? = some d ∧ notGone d = true ∧ ∀ d2, (fldL n f L).put ρ d2 = L.put ρ (.obj o n fs (ds.set j d2)) := by
  unfold fldL at h
  cases e1 : L.get ρ with
  | none => simp [e1] at h
  | some d0 =>
    cases d0 with
    | obj o k fs ds =>
      simp only [e1, Option.bind_some] at h
      split at h
      · rename_i hk
        subst hk
        cases e2 : fIx f fs with
        | none => rw [e2] at h; cases h
        | some j =>
          rw [e2, Option.bind_some] at h
          cases e3 : ds[j]? with
          | none => rw [e3] at h; cases h
          | some d1 =>
            rw [e3, Option.bind_some] at h
            split at h
            · rename_i hn
              cases h
              exact ⟨o, fs, ds, j, rfl, e2, e3, hn, fun d2 => by simp [fldL, e1, e2]⟩
            · cases h
      · cases h
    | _ => simp [e1] at h
theorem p_fld (n : Nat) {f : Str} (hc : Cls X.K (cl n)) (hn : NoAttr X.K (cl n) f) (he : PE X e (tPl ⟨X.K, cl, X.w⟩ E L)) (hb : attributeBase e f X.env (eval e X.env) = eval e X.env := by rfl) : PE X (.Attribute e f pos) (tPl ⟨X.K, cl, X.w⟩ E (fldL n f L)) := PE_imp (pe_fld he hb) fun σ H Q ⟨P, S, T, ρ, d, w, hg, q⟩ => by
  obtain ⟨o, fs, ds, j, h1, h2, h3, h4, h5⟩ := fld_split hg
  refine ⟨P, S, T, ρ, _, w, h1, fun v Sd R l => ?_⟩
  obtain ⟨a, dx, xs, T1, Z, e1, hh, nl, rl, hz, hput⟩ := obj_heap w.ph l.rep
  obtain ⟨y, S1, R1, k1, k2, k3, k4⟩ := rl.focus h3
  refine ⟨a, cl n, dx, _, y, e1, hh, hc, hn, by rw [fIx_lookup h2 nl]; exact k1, q y S1 (fa (fa Z R1) R) ⟨fun b => ?_, k2, fun P2 H2 d2 S2 ep kr r2 => ?_⟩⟩
  · have := l.sum b; have := hz b; have := k3 b; simp only [fa]; omega
  · rw [h5]
    have rl2 := k4 P2 H2 d2 y S2 ep (fun b u z1 z2 => kr b u (by simp only [fa]; omega) z2) r2
    have e2 : xs.set j y = xs := by
      apply List.ext_getElem?
      intro t
      by_cases ht : t = j
      · subst ht; rw [k1, List.getElem?_set_self (List.getElem?_eq_some_iff.mp k1).1]
      · rw [List.getElem?_set_ne (Ne.symm ht)]
    rw [e2] at rl2
    have := l.put P2 H2 _ _ ep (fun b u z1 z2 => kr b u (by simp only [fa]; omega) z2) (hput P2 H2 _ _ ep (fun b u z1 z2 => kr b u (by simp only [fa]; omega) z2) rl2)
    have e3 : fa (fa Z (fa S2 R1)) R = fa S2 (fa (fa Z R1) R) := by funext b; simp only [fa]; omega
    rw [e3] at this
    exact this
theorem r_pl (h : PE X e (tPl ⟨X.K, cl, X.w⟩ E L)) : PE X e (tR ⟨X.K, cl, X.w⟩ E L.get) := PE_imp h fun σ H Q ⟨P, S, T, ρ, d, w, hm, q⟩ => ⟨P, S, T, ρ, d, w, hm, fun v Sd R l => q v H P Sd (.refl w.ph) l.rep⟩
end
end LI

namespace LI
open PySem L2

section
variable {c : LC} {E : En} {P P' : Hp} {S T : FP} {σ : L2.St} {H H' : Hp} {ρ ρ' : List D}
end

section
variable {X : Cx} {cl : Nat → Addr} {E : En} {e a b o : Expr} {es : List Expr} {pos p apos : Pos} {m : RM} {ms : AM} {CX : CXT} {k n : Nat} {f C : Addr} {fd : FuncData} {ps : List Str} {F : FM} {XE : XK} {x nm : Str} {L : Lens}
def isObjK (n : Nat) (nm : Str) : D → Bool
  | .obj _ k fs _ => decide (k = n) && !fs.contains nm
  | _ => false
theorem lookup_zip_none {nm : Str} : ∀ {fs : List Str} {xs : List V}, fs.contains nm = false → (fs.zip xs).lookup nm = none
  | [], _, _ => rfl
  | _ :: _, [], _ => rfl
  | g :: gs, y :: ys, h => by
    simp only [List.contains_cons, Bool.or_eq_false_iff] at h
    rw [List.zip_cons_cons]
    show (match nm == g with | true => some y | false => List.lookup nm (gs.zip ys)) = none
    rw [h.1]
    exact lookup_zip_none h.2
theorem isObj_v {c : LC} {P H : Hp} (e : Ex P H) {d : D} {v : V} {U : FP} (h : isObjK n nm d = true) (r : Rep c P H d v U) : ∃ a dx fs, v = .ref a ∧ H a = some (.ins (c.cl n) dx fs) ∧ fs.lookup nm = none := by
  cases d with
  | obj o k fs ds =>
    simp only [isObjK, Bool.and_eq_true, decide_eq_true_eq, Bool.not_eq_true'] at h
    obtain ⟨rfl, hn⟩ := h
    obtain ⟨a, dx, xs, T, Z, e1, hh, nl, _⟩ := obj_heap e r
    exact ⟨a, dx, _, e1, hh, lookup_zip_none hn⟩
  | _ => cases h
def lookM (n : Nat) (nm : Str) (mo : RM) (F : FM) (ms : AM) : RM := fun ρ => (mo ρ).bind fun self => (ms ρ).bind fun ds => if isObjK n nm self = true then (F (iceL (self :: ds))).bind fun r => if frzL (self :: ds) = true ∨ noIce r.1 = true then some r.1 else none else none
theorem look_run {mo : RM} (h : tF ⟨X.K, cl, X.w⟩ E (lookM n nm mo F ms) σ H Q) : tMeth (cl n) nm (spD ⟨X.K, cl, X.w⟩ F) [] XE (tR ⟨X.K, cl, X.w⟩ E mo) (tAR ⟨X.K, cl, X.w⟩ E ms) σ H Q := by
  obtain ⟨P, S, T, ρ, d, w, hm, q⟩ := h
  unfold lookM at hm
  cases e1 : mo ρ with
  | none => rw [e1] at hm; cases hm
  | some self =>
    cases e2 : ms ρ with
    | none => rw [e1, e2] at hm; cases hm
    | some ds =>
      rw [e1, e2, Option.bind_some, Option.bind_some] at hm
      split at hm
      · rename_i hc
        cases e3 : F (iceL (self :: ds)) with
        | none => rw [e3] at hm; cases hm
        | some r =>
          rw [e3, Option.bind_some] at hm
          split at hm
          · rename_i hz
            cases hm
            refine ⟨P, S, T, ρ, self, w, e1, fun v H1 P1 U1 g1 r1 => ?_⟩
            obtain ⟨a, dx, fs, ev, hh, hl⟩ := isObj_v g1.ph hc r1
            refine ⟨a, dx, fs, ev, hh, hl, P1, S, T, ρ, ds, w.grow g1, e2, fun vs H2 P2 U2 g2 r2 => ?_⟩
            show spD ⟨X.K, cl, X.w⟩ F (v :: (vs ++ [])) H2 Q XE
            rw [List.append_nil]
            exact spD_view (ds' := r.2) g2.ph (show RepL ⟨X.K, cl, X.w⟩ P2 H2 (self :: ds) (v :: vs) (fa U1 U2) from ⟨v, vs, U1, U2, rfl, r1.gr g2, r2, rfl⟩) e3 hz (q.grow (g1.trans g2))
          · cases hm
      · cases hm
theorem f_look0 {pl : Sem Bool} {mo : RM} (n : Nat) (he : PE X o (tR ⟨X.K, cl, X.w⟩ E mo)) (c : Cls X.K (cl n)) (hm : Meth X.K (cl n) nm f) (G : FnOk X.prog X.w X.K X.mg X.base CX k f fd ps (spD ⟨X.K, cl, X.w⟩ F)) (hr : Room k X.A) (hb : Binds X.K fd ps []) (hx : Passes CX X XE)
    (ht : eval (.Call (.Attribute o nm apos) [] [] pos) X.env = (do
      let ov ← eval o X.env
      standAt apos.atName
      let (f, first) ← holding [ov] (getMethod ov nm pl)
      callWith pos f first (backTo pos (starEach [] X.env)) (backToKw pos (keywordEach [] X.env))) := by rfl) :
    PE X (.Call (.Attribute o nm apos) [] [] pos) (tF ⟨X.K, cl, X.w⟩ E (lookM n nm mo F nilM)) := PE_imp (pe_meth0 he c hm G hr hb .nil hx ht) fun σ H Q h => by
  obtain ⟨P, S, T, ρ, d, w, hg, q⟩ := look_run (XE := XE) h
  refine ⟨P, S, T, ρ, d, w, hg, fun v H1 P1 U1 g1 r1 => ?_⟩
  obtain ⟨a, dx, fs, ev, hh, hl, P2, S2, T2, ρ2, ds, w2, hn, q2⟩ := q v H1 P1 U1 g1 r1
  cases hn
  exact ⟨a, dx, fs, ev, hh, hl, q2 [] H1 P2 fz (.refl w2.ph) ⟨rfl, rfl⟩⟩

theorem loc_lst {c : LC} {P H : Hp} {S T U : FP} {ρ : List D} {v : V} {ds : List D} {Sd R : FP} (w : Wd c E P S (fa T U) σ H ρ) (l : Loc c L P H σ ρ S v (.lst true ds) Sd R) : ∃ a xs T1, v = .ref a ∧ H a = some (.lst xs) ∧ RepL c P H ds xs T1 ∧ (∀ b, Sd b = one a b + T1 b) ∧
    ∀ (ys : List V) (es : List D) (T2 U2 : FP), RepL c P (upd H a (.lst ys)) es ys T2 → (∀ b, T2 b + U2 b ≤ T1 b + U b) → Wd c E P (fa (fa (one a) T2) R) (fa T U2) σ (upd H a (.lst ys)) (L.put ρ (.lst true es)) := by
  obtain ⟨a, xs, T1, e1, hh, rl, f⟩ := l.rep
  have hSd : ∀ b, Sd b = one a b + T1 b := fun b => by rw [f]; rfl
  refine ⟨a, xs, T1, e1, hh, rl, hSd, fun ys es T2 U2 r2 hb => ?_⟩
  have ha : 0 < S a := by have := l.sum a; have := hSd a; simp [one] at *; omega
  have henv := l.put P (upd H a (.lst ys)) (.lst true es) (fa (one a) T2) (.refl _) (fun b u hb hu => by
    have hne : b ≠ a := fun z => by
      subst z
      have := w.le b; have := l.sum b; have := hSd b
      simp [one] at *; omega
    rw [upd_ne hne]; exact hu) ⟨a, ys, T2, e1, upd_same, r2, rfl⟩
  have wT : Wd c E P S (fa T U) σ H ρ := w
  -- the part aside may give to the slots
  have hP : P a = none := w.out a (by omega)
  refine ⟨henv, fun b => ?_, fun b z => ?_, fun b z => ?_, fun b u z => ?_, w.p0, fun b u z1 z2 => ?_, w.np, fun b z => ?_, w.kp⟩
  · have := w.le b; have := l.sum b; have := hSd b; have := hb b; simp only [fa] at *; omega
  · refine w.out b ?_; have := l.sum b; have := hSd b; have := hb b; simp only [fa] at *; omega
  · by_cases e : b = a
    · subst e; rw [upd_same]; simp
    · rw [upd_ne e]
      by_cases hT : 0 < fa T U b
      · exact w.th b hT
      · refine RepE.there ρ σ S w.env b ?_
        have := l.sum b; have := hSd b; have := hb b; simp only [fa] at *; omega
  · have e : b ≠ a := fun q => by subst q; rw [hP] at z; cases z
    rw [upd_ne e]; exact w.ph b u z
  · have e : b ≠ a := fun q => by
      subst q
      rcases w.ns b (by omega) with y | y
      · omega
      · rw [y] at z2; cases z2
    rw [upd_ne e]; exact w.fr b u z1 z2
  · refine w.ns b ?_; have := l.sum b; have := hSd b; have := hb b; simp only [fa] at *; omega
def appL (L : Lens) (m : RM) : GM := fun ρ => (L.get ρ).bind fun d => (m ρ).bind fun y => match d with | .lst true ds => if ds.length < LIM then some (.non, L.put ρ (.lst true (ds ++ [y]))) else none | _ => none
theorem repL_h' {c : LC} {P H H' : Hp} {ds : List D} {xs : List V} {S : FP} (r : RepL c P H ds xs S) (k : ∀ a o, 0 < S a → H a = some o → H' a = some o) : RepL c P H' ds xs S := RepL.mono (.refl _) ds xs S k r
theorem g_app (he : PE X o (tPl ⟨X.K, cl, X.w⟩ E L)) (ha : PE X e (tF ⟨X.K, cl, X.w⟩ E m))
    (hbase : attributeBase o "append" X.env (eval o X.env) = eval o X.env := by rfl)
    (hfew : ((backTo pos (starEach [e] X.env)).all (fun x => !x.1) && (backToKw pos (keywordEach [] X.env)).all (fun x => x.1.isSome)
      && decide ([e].length + ([] : List Keyword).length + (if ([] : List Keyword).isEmpty then 0 else 1) < 30)) = true := by rfl)
    (hline : (apos.endLine == pos.line) = true := by rfl) (hs : starEach [e] X.env = (false, eval e X.env) :: starEach [] X.env := by rfl) : PE X (.Call (.Attribute o "append" apos) [e] [] pos) (tG ⟨X.K, cl, X.w⟩ E (appL L m)) := by
  refine PE_imp (pe_bm PySem.F.plainAttrs_list PySem.F.slot_list_append PySem.F.type_list_append mt_append he (pa_cons ha pa_nil hs) hbase hfew hline hs) fun σ H Q ⟨P, S, T, ρ, d, ρ', w, hm, q⟩ => ?_
  unfold appL at hm
  cases e1 : L.get ρ with
  | none => rw [e1] at hm; cases hm
  | some d0 =>
    cases e2 : m ρ with
    | none => rw [e1, e2] at hm; cases hm
    | some y =>
      rw [e1, e2, Option.bind_some, Option.bind_some] at hm
      split at hm
      · rename_i ds
        split at hm
        · rename_i hl
          cases hm
          refine ⟨P, S, T, ρ, _, w, e1, fun v Sd R l => ?_⟩
          obtain ⟨a0, xs0, T0, e0, h0, _⟩ := l.rep
          refine ⟨by rw [e0]; exact .inl ⟨rfl, xs0, .inl (.inl h0)⟩, P, S, T, ρ, y, w, e2, fun z H1 P1 U1 g1 r1 u1 u2 => ?_⟩
          have w1 := w.aside g1 u1 u2 (Rep.there y z U1 r1)
          obtain ⟨a, xs, T1, ev, hh, rl, hS, k⟩ := loc_lst w1 (l.grow g1)
          have hl' : xs.length < sizeLine := by rw [← rl.length]; exact lim_lt hl
          have ha0 : 0 < S a := by have := l.sum a; have := hS a; simp [one] at *; omega
          refine ⟨a, xs, z, ev, rfl, hh, hl', ?_⟩
          have keepT : ∀ b u, 0 < T1 b + U1 b → H1 b = some u → upd H1 a (.lst (xs ++ [z])) b = some u := fun b u hb hu => by
            have : b ≠ a := fun q => by
              subst q
              have := w1.le b; have := l.sum b; have := hS b
              simp [one, fa] at *; omega
            rw [upd_ne this]; exact hu
          have r2 : RepL ⟨X.K, cl, X.w⟩ P1 (upd H1 a (.lst (xs ++ [z]))) (ds ++ [y]) (xs ++ [z]) (fa T1 (fa U1 fz)) :=
            RepL.append (repL_h' rl fun b u hb hu => keepT b u (by omega) hu) ⟨z, [], U1, fz, rfl, Rep.mono (.refl _) y z U1 (fun b u hb hu => keepT b u (by omega) hu) r1, ⟨rfl, rfl⟩, rfl⟩
          have w2 := k _ _ _ fz r2 fun b => by simp only [fa, fz]; omega
          exact q .non _ P1 _ fz w2 g1.p ⟨rfl, rfl⟩ fun b u hb hu => by
            have : b ≠ a := fun z2 => by subst z2; have := w.le b; omega
            rw [upd_ne this]; exact g1.h b u hu
        · cases hm
      · cases hm
end
end LI

namespace LI
open PySem L2

section
variable {X : Cx} {cl : Nat → Addr} {E : En} {e a b o : Expr} {es : List Expr} {pos pos' p apos : Pos} {m : RM} {g : GM} {ms : AM} {n : Nat} {f nm : Str} {L : Lens} {σ : L2.St}
theorem loc_own {c : LC} {P H : Hp} {S T U : FP} {ρ : List D} {v : V} {d : D} {Sd R T1 : FP} {a : Addr} (w : Wd c E P S (fa T U) σ H ρ) (l : Loc c L P H σ ρ S v d Sd R) (hSd : ∀ b, Sd b = one a b + T1 b) (hu : ∀ b, 0 < T1 b + U b → H b ≠ none) :
    ∀ (o : HO) (d2 : D) (T2 U2 : FP), Rep c P (upd H a o) d2 v (fa (one a) T2) → (∀ b, T2 b + U2 b ≤ T1 b + U b) → Wd c E P (fa (fa (one a) T2) R) (fa T U2) σ (upd H a o) (L.put ρ d2) := by
  intro o d2 T2 U2 r2 hb
  have ha : 0 < S a := by have := l.sum a; have := hSd a; simp [one] at *; omega
  have henv := l.put P (upd H a o) d2 (fa (one a) T2) (.refl _) (fun b u hb hu => by
    have hne : b ≠ a := fun z => by
      subst z
      have := w.le b; have := l.sum b; have := hSd b
      simp [one] at *; omega
    rw [upd_ne hne]; exact hu) r2
  have hP : P a = none := w.out a (by omega)
  refine ⟨henv, fun b => ?_, fun b z => ?_, fun b z => ?_, fun b u z => ?_, w.p0, fun b u z1 z2 => ?_, w.np, fun b z => ?_, w.kp⟩
  · have := w.le b; have := l.sum b; have := hSd b; have := hb b; simp only [fa] at *; omega
  · refine w.out b ?_; have := l.sum b; have := hSd b; have := hb b; simp only [fa] at *; omega
  · by_cases e : b = a
    · subst e; rw [upd_same]; simp
    · rw [upd_ne e]
      by_cases hT : 0 < fa T U b
      · exact w.th b hT
      · refine hu b ?_
        have := hb b; simp only [fa] at *; omega
  · have e : b ≠ a := fun q => by subst q; rw [hP] at z; cases z
    rw [upd_ne e]; exact w.ph b u z
  · have e : b ≠ a := fun q => by
      subst q
      rcases w.ns b (by omega) with y | y
      · omega
      · rw [y] at z2; cases z2
    rw [upd_ne e]; exact w.fr b u z1 z2
  · refine w.ns b ?_; have := l.sum b; have := hSd b; have := hb b; simp only [fa] at *; omega
theorem keep_own {c : LC} {P H : Hp} {S T : FP} {ρ : List D} {v : V} {d : D} {Sd R T1 : FP} {a : Addr} (w : Wd c E P S T σ H ρ) (l : Loc c L P H σ ρ S v d Sd R) (hSd : ∀ b, Sd b = one a b + T1 b) (o : HO) : ∀ b u, 0 < T1 b + T b → H b = some u → upd H a o b = some u := fun b u hb hu => by
  have : b ≠ a := fun q => by
    subst q
    have := w.le b; have := l.sum b; have := hSd b
    simp [one] at *; omega
  rw [upd_ne this]; exact hu

def setFD (n : Nat) (f : Str) (d : D) : D → Option D
  | .obj true k fs ds => if k = n ∧ fs.length < 1000 then some (match fIx f fs with | some j => .obj true k fs (ds.set j d) | none => .obj true k (fs ++ [f]) (ds ++ [d])) else none
  | _ => none
def fldM (n : Nat) (f : Str) (L : Lens) (g : GM) : SM := fun ρ => (g ρ).bind fun r => (L.get r.2).bind fun self => (setFD n f r.1 self).map fun self' => (.nx, L.put r.2 self')
theorem fIx_lt {f : Str} : ∀ {fs : List Str} {j : Nat}, fIx f fs = some j → j < fs.length
  | [], j, h => by cases h
  | g :: gs, j, h => by
    unfold fIx at h
    by_cases e : f = g
    · rw [if_pos e] at h; cases h; simp
    · rw [if_neg e] at h
      cases z : fIx f gs with
      | none => rw [z] at h; cases h
      | some j' => rw [z] at h; cases h; have := fIx_lt z; simp; omega
theorem putF_some {f : Str} {y : V} : ∀ {fs : List Str} {xs : List V} {j : Nat}, fIx f fs = some j → fs.length = xs.length → putF f y (fs.zip xs) = fs.zip (xs.set j y)
  | [], xs, j, h, n => by cases h
  | g :: gs, [], j, h, n => by simp at n
  | g :: gs, x :: xs, j, h, n => by
    unfold fIx at h
    by_cases e : f = g
    · rw [if_pos e] at h; cases h
      rw [List.zip_cons_cons]
      show (if g = f then (g, y) :: gs.zip xs else _) = _
      rw [if_pos e.symm]; rfl
    · rw [if_neg e] at h
      cases z : fIx f gs with
      | none => rw [z] at h; cases h
      | some j' =>
        rw [z] at h; cases h
        rw [List.zip_cons_cons]
        show (if g = f then _ else (g, x) :: putF f y (gs.zip xs)) = _
        rw [if_neg (fun q => e q.symm), putF_some z (by simpa using n)]; rfl
theorem putF_none {f : Str} {y : V} : ∀ {fs : List Str} {xs : List V}, fIx f fs = none → fs.length = xs.length → putF f y (fs.zip xs) = (fs ++ [f]).zip (xs ++ [y])
  | [], xs, h, n => by
    have : xs = [] := List.length_eq_zero_iff.mp n.symm
    subst this; rfl
  | g :: gs, [], h, n => by simp at n
  | g :: gs, x :: xs, h, n => by
    unfold fIx at h
    by_cases e : f = g
    · rw [if_pos e] at h; cases h
    · rw [if_neg e] at h
      have z : fIx f gs = none := by cases z : fIx f gs with | none => rfl | some j' => rw [z] at h; cases h
      rw [List.zip_cons_cons]
      show (if g = f then _ else (g, x) :: putF f y (gs.zip xs)) = _
      rw [if_neg (fun q => e q.symm), putF_none z (by simpa using n)]; rfl
theorem s_fld (n : Nat) {value : Expr} (hc : Cls X.K (cl n)) (hn : NoAttr X.K (cl n) f) (he : PE X value (tG ⟨X.K, cl, X.w⟩ E g)) (ho : PE X o (tPl ⟨X.K, cl, X.w⟩ E L)) (hs : swapsWith value (some (.Attribute o f pos')) pos.line X.env = pure false := by rfl) :
    PS X (.Assign [.Attribute o f pos'] value pos) (tS ⟨X.K, cl, X.w⟩ E (fldM n f L g)) := PS_imp (ps_fld ho he hs) fun D σ H ⟨P, S, ρ, fl, ρ', w, hm, q⟩ => by
  unfold fldM at hm
  cases eg : g ρ with
  | none => rw [eg] at hm; cases hm
  | some r =>
    obtain ⟨d, ρ1⟩ := r
    rw [eg, Option.bind_some] at hm
    cases el : L.get ρ1 with
    | none => rw [el] at hm; cases hm
    | some self =>
      rw [el, Option.bind_some] at hm
      cases ef : setFD n f d self with
      | none => rw [ef] at hm; cases hm
      | some self' =>
        rw [ef] at hm
        cases hm
        refine g_run w eg fun y H1 P1 S1 U w1 e1 r1 => ⟨P1, S1, U, ρ1, self, w1, el, fun v Sd R l => ?_⟩
        unfold setFD at ef
        split at ef
        · rename_i k fs ds
          split at ef
          · rename_i hk
            obtain ⟨rfl, hl⟩ := hk
            cases ef
            obtain ⟨a, dx, xs, T1, ev, hh, nl, rl, hf⟩ := l.rep
            have hS : ∀ b, Sd b = one a b + T1 b := fun b => by rw [hf]; rfl
            have w1' : Wd ⟨X.K, cl, X.w⟩ E P1 S1 (fa fz U) σ H1 ρ1 := by rw [fz_fa]; exact w1
            refine ⟨a, cl k, dx, _, ev, hh, hc, hn, by rw [List.length_zip]; omega, ?_⟩
            have kp := fun o => keep_own w1 l hS o
            have hu : ∀ b, 0 < T1 b + U b → H1 b ≠ none := fun b hb => by
              by_cases hU : 0 < U b
              · exact w1.th b hU
              · exact RepL.there ds xs T1 rl b (by omega)
            cases ej : fIx f fs with
            | some j =>
              have hj : j < xs.length := by
                have := fIx_lt ej
                omega
              obtain ⟨x0, hx0⟩ : ∃ x0, ds[j]? = some x0 := ⟨_, List.getElem?_eq_getElem (by rw [rl.length]; exact hj)⟩
              obtain ⟨v0, S0, R0, k1, k2, k3, k4⟩ := rl.focus hx0
              rw [putF_some ej nl]
              have rnew := k4 P1 (upd H1 a (.ins (cl k) dx (fs.zip (xs.set j y)))) d y U (.refl _) (fun b u hb hu => kp _ b u (by have := k3 b; omega) hu) (Rep.mono (.refl _) d y U (fun b u hb hu => kp _ b u (by omega) hu) r1)
              have w2 := loc_own w1' l hS hu (.ins (cl k) dx (fs.zip (xs.set j y))) (.obj true k fs (ds.set j d)) (fa U R0) fz ⟨a, dx, _, fa U R0, ev, upd_same, by rw [List.length_set]; exact nl, rnew, rfl⟩ (fun b => by have := k3 b; simp only [fa, fz]; omega)
              rw [fa_fz] at w2
              simp only [ej] at q
              exact q σ _ P1 _ w2 e1
            | none =>
              rw [putF_none ej nl]
              have rnew : RepL ⟨X.K, cl, X.w⟩ P1 (upd H1 a (.ins (cl k) dx ((fs ++ [f]).zip (xs ++ [y])))) (ds ++ [d]) (xs ++ [y]) (fa T1 (fa U fz)) :=
                RepL.append (repL_h' rl fun b u hb hu => kp _ b u (by omega) hu) ⟨y, [], U, fz, rfl, Rep.mono (.refl _) d y U (fun b u hb hu => kp _ b u (by omega) hu) r1, ⟨rfl, rfl⟩, rfl⟩
              have w2 := loc_own w1' l hS hu (.ins (cl k) dx ((fs ++ [f]).zip (xs ++ [y]))) (.obj true k (fs ++ [f]) (ds ++ [d])) (fa T1 (fa U fz)) fz ⟨a, dx, _, _, ev, upd_same, by simp [nl], rnew, rfl⟩ (fun b => by simp only [fa, fz]; omega)
              rw [fa_fz] at w2
              simp only [ej] at q
              exact q σ _ P1 _ w2 e1
          · cases ef
        · cases ef

end
end LI

namespace LI
open PySem L2

section
variable {X : Cx} {cl : Nat → Addr} {E : En} {e a b o : Expr} {es : List Expr} {pos pos' p apos : Pos} {m mo : RM} {g : GM} {ms : AM} {n : Nat} {f nm : Str} {L : Lens} {σ : L2.St}
def frM (m : RM) : RM := fun ρ => (m ρ).bind fun d => if frz d = true then some d else none
theorem f_fr (h : PE X e (tR ⟨X.K, cl, X.w⟩ E m)) : PE X e (tF ⟨X.K, cl, X.w⟩ E (frM m)) := PE_imp h fun σ H Q ⟨P, S, T, ρ, d, w, hm, q⟩ => by
  unfold frM at hm
  cases hd : m ρ with
  | none => rw [hd] at hm; cases hm
  | some d1 =>
    rw [hd, Option.bind_some] at hm
    split at hm
    · rename_i hf
      cases hm
      refine ⟨P, S, T, ρ, d, w, hd, fun v H' P' U g r => ?_⟩
      have z := Rep.frz0 d v U hf r
      subst z
      exact q v H' P' fz g r (fun _ => Nat.zero_le _) fun a z => by simp [fz] at z
    · cases hm

end

def spLaw (K : PySem.W.Frag) : Sp := fun vs H Q _ => ∃ (a : Addr) (ns : List Int), vs = [.ref a] ∧ SqL K H a (ns.map V.int) ∧ ns.length ≤ 63 ∧ (∀ z ∈ ns, Builtin.Int.intBits z ≤ 1048576) ∧ ∀ H', Q (.bl true) H'
theorem law_ok {P : Program} {w : World} {K : PySem.W.Frag} {mg : Str → Option Value} {base : Heap} {CX : CXT} {k : Nat} {f : Addr} {fd : FuncData} {ps : List Str} {F : FM} {cl : Nat → Addr} (G : FnOk P w K mg base CX k f fd ps (spD ⟨K, cl, w⟩ F))
    (h : ∀ ns : List Int, ns.length ≤ 63 → (∀ z ∈ ns, Builtin.Int.intBits z ≤ 1048576) → ∃ ds', F [.scr ns] = some (.bl true, ds')) : FnOk P w K mg base CX k f fd ps (spLaw K) :=
  G.imp fun vs H Q E ⟨a, ns, e, hs, hl, hb, q⟩ => by
    obtain ⟨ds', hF⟩ := h ns hl hb
    refine ⟨H, fz, [.scr ns], .bl true, ds', ⟨.ref a, [], fz, fz, e, ⟨a, rfl, hs, rfl⟩, ⟨rfl, rfl⟩, (fa_fz fz).symm⟩, .refl _, fun _ => Nat.zero_le _, fun a z => by simp [fz] at z, hF, fun v H' P' U S' st rd _ => ?_⟩
    rw [rd.1]
    exact q H'
end LI

namespace LI
open PySem L2

section
variable {X : Cx} {cl : Nat → Addr} {E : En} {e a b o : Expr} {es : List Expr} {pos pos' p apos : Pos} {m mo ma mb : RM} {g : GM} {ms : AM} {n : Nat} {nm x : Str} {L : Lens} {σ : L2.St} {CX : CXT} {k : Nat} {fa' : Addr} {fd : FuncData} {ps : List Str} {F : FM} {XE : XK}
def VQ (c : LC) (P H : Hp) (d : D) (Q : VK) : Prop := ∀ v H' P' U, Gr P H P' H' → Rep c H' H' d v U → Q v H'
def tV (c : LC) (E : En) (m : RM) : TE := fun σ H Q => ∃ P S T ρ d, Wd c E P S T σ H ρ ∧ m ρ = some d ∧ VQ c P H d Q
theorem v_r (h : PE X e (tR ⟨X.K, cl, X.w⟩ E m)) : PE X e (tV ⟨X.K, cl, X.w⟩ E m) := PE_imp h fun σ H Q ⟨P, S, T, ρ, d, w, hm, q⟩ => ⟨P, S, T, ρ, d, w, hm, fun v H' P' U g r => q v H' P' U g (Rep.mono g.ph d v U (fun _ _ _ h => h) r)⟩
theorem FQ.flatV {c : LC} {P H : Hp} {d : D} {Q : VK} (hp : Ex P H) (hd : isFlat d = true) (h : FQ c P H d Q) : FQ c H H d Q := fun v H' P' U g r _ _ =>
  h v H' P fz ⟨.refl _, g.h, hp.trans g.h, fun _ z => .inl z⟩ (flat_any (c := c) hd r) (fun _ => Nat.zero_le _) fun a z => by simp [fz] at z
def FlatOp (f : D → D → Option D) : Prop := ∀ a b d, f a b = some d → isFlat d = true
theorem op2_runW {r : R2} {f : D → D → Option D} (hf : Op2 ⟨X.K, cl, X.w⟩ r f) (hz : FlatOp f) {H : Hp} {Q : VK} (h : tF ⟨X.K, cl, X.w⟩ E (m2 f ma mb) σ H Q) : tOp r (tV ⟨X.K, cl, X.w⟩ E ma) (tV ⟨X.K, cl, X.w⟩ E mb) σ H Q := by
  obtain ⟨P, S, T, ρ, d, w, hm, q⟩ := h
  obtain ⟨da, db, ea, eb, hm⟩ := m2_split hm
  refine ⟨P, S, T, ρ, da, w, ea, fun x H1 P1 U1 g1 r1 => ⟨P1, S, T, ρ, db, w.grow g1, eb, fun y H2 P2 U2 g2 r2 => ?_⟩⟩
  exact hf H2 H2 (.refl _) _ _ _ _ _ _ _ hm (Rep.mono g2.h da x U1 (fun a o _ h => g2.h a o h) r1) r2 Q ((q.grow (g1.trans g2)).flatV g2.ph (hz _ _ _ hm))
theorem v_cmp {op : CmpOp} {r : R2} {f : D → D → Option D} (ho : OpR X (compareOp op) r) (hf : Op2 ⟨X.K, cl, X.w⟩ r f) (hz : FlatOp f) (ha : PE X a (tV ⟨X.K, cl, X.w⟩ E ma)) (hb : PE X b (tV ⟨X.K, cl, X.w⟩ E mb)) (hm : behindInMarks op b = false) : PE X (.Compare a [op] [b] pos) (tF ⟨X.K, cl, X.w⟩ E (m2 f ma mb)) :=
  PE_imp (pe_cmpR ho ha hb hm) fun _ _ _ h => op2_runW hf hz h
theorem tv_cmp {op : CmpOp} {r : R2} {f : D → D → Option D} (ho : OpR X (compareOp op) r) (hf : Op2 ⟨X.K, cl, X.w⟩ r f) (hz : FlatOp f) (ha : PE X a (tV ⟨X.K, cl, X.w⟩ E ma)) (hb : PE X b (tV ⟨X.K, cl, X.w⟩ E mb)) (hm : behindInMarks op b = false) : PT X (.Compare a [op] [b] pos) (tT ⟨X.K, cl, X.w⟩ E (bM (m2 f ma mb))) :=
  t_test (pt_cmpR ho ha hb hm) fun _ _ _ h => op2_runW hf hz h
theorem flat_eq : FlatOp eqD := fun a b d h => by
  unfold eqD at h
  cases z : eqB a b with
  | none => rw [z] at h; cases h
  | some k => rw [z] at h; cases h; rfl
theorem flat_ne : FlatOp neD := fun a b d h => by
  unfold neD at h
  cases z : eqB a b with
  | none => rw [z] at h; cases h
  | some k => rw [z] at h; cases h; rfl
def callVM (F : FM) (ms : AM) : RM := fun ρ => (ms ρ).bind fun ds => (F (iceL ds)).map (·.1)
theorem f_gl {v : V} (d : D) (h : ∃ u, X.mg x = some u ∧ RelV v u) (hr : ∀ P H, Ex P H → Rep ⟨X.K, cl, X.w⟩ P H d v fz) (hg : Gl X x := by rfl) (hd : (x == ("__debug__" : Str)) = false := by decide) : PE X (.Name x pos) (tF ⟨X.K, cl, X.w⟩ E (kM d)) := by
  obtain ⟨u, h1, h2⟩ := h
  exact f_glob d hg h1 h2 hr hd
theorem f_glS (s : List Nat) (h : ∃ u, X.mg x = some u ∧ RelV (.str ⟨s.toArray⟩) u) (hg : Gl X x := by rfl) (hd : (x == ("__debug__" : Str)) = false := by decide) : PE X (.Name x pos) (tF ⟨X.K, cl, X.w⟩ E (kM (.str s))) := f_gl (.str s) h (fun _ _ _ => ⟨rfl, rfl⟩) hg hd
theorem f_glI (i : Int) (h : ∃ u, X.mg x = some u ∧ RelV (.int i) u) (hg : Gl X x := by rfl) (hd : (x == ("__debug__" : Str)) = false := by decide) : PE X (.Name x pos) (tF ⟨X.K, cl, X.w⟩ E (kM (.int i))) := f_gl (.int i) h (fun _ _ _ => ⟨rfl, rfl⟩) hg hd
theorem f_isi' {ty : String} {b0 : Expr} (ha : PE X a (tR ⟨X.K, cl, X.w⟩ E ma)) (hb : PE X b0 (tC (.ty ty))) (hm : X.mg "isinstance" = none) (hg : Gl X "isinstance" := by rfl)
    (hs1 : starEach [a, b0] X.env = (false, eval a X.env) :: starEach [b0] X.env := by rfl) (hs2 : starEach [b0] X.env = (false, eval b0 X.env) :: starEach [] X.env := by rfl) (hpl : (backTo pos (starEach [b0] X.env)).any (·.1) = false := by rfl) : PE X (.Call (.Name "isinstance" p) [a, b0] [] pos) (tF ⟨X.K, cl, X.w⟩ E (isiM ty ma)) :=
  f_isi hg hm (by decide +kernel) ha hb (by decide) (by decide) hs1 hs2 hpl
end
end LI

namespace LI
open PySem L2

def mvM (L : Lens) : GM := fun ρ => (L.get ρ).bind fun d => some (d, L.put ρ .gone)
def iceAt (i : Nat) (ρ : List D) : List D := match ρ[i]? with
  | some d => ρ.set i (ice d)
  | none => ρ
section
variable {X : Cx} {cl : Nat → Addr} {E : En} {e a b tg : Expr} {pos : Pos} {L : Lens} {m ma mb : RM}
theorem g_mv (h : PE X e (tPl ⟨X.K, cl, X.w⟩ E L)) : PE X e (tG ⟨X.K, cl, X.w⟩ E (mvM L)) := PE_imp h fun σ H Q ⟨P, S, T, ρ, d, ρ', w, hm, q⟩ => by
  unfold mvM at hm
  cases hd : L.get ρ with
  | none => rw [hd] at hm; cases hm
  | some d1 =>
    rw [hd] at hm
    cases hm
    refine ⟨P, S, T, ρ, d, w, hd, fun v Sd R l => ?_⟩
    have henv := l.put P H .gone fz (.refl P) (fun _ _ _ h => h) rfl
    refine q v H P (fa fz R) Sd ?_ (.refl P) l.rep (fun _ _ _ h => h)
    have hs := l.sum
    refine ⟨henv, fun x => ?_, fun x hx => ?_, fun x hx => ?_, w.ph, w.p0, w.fr, w.np, fun x hx => ?_, w.kp⟩
    · have := w.le x; have := hs x; simp only [fa, fz] at *; omega
    · exact w.out x (by have := hs x; simp only [fa, fz] at *; omega)
    · by_cases z : 0 < T x
      · exact w.th x z
      · exact Rep.there d v Sd l.rep x (by simp only [fa] at hx; omega)
    · exact w.ns x (by have := hs x; simp only [fa, fz] at *; omega)
theorem RepE.iceAt {c : LC} {P H : Hp} : ∀ {ρ : List D} {σ : St} {S : FP} (i : Nat), RepE c P H ρ σ S → ∃ (U R : FP), (∀ a, S a = U a + R a) ∧ (∀ a, 0 < U a → H a ≠ none) ∧
    ∀ (P2 H2 : Hp), Ex P P2 → (∀ a o, 0 < U a → H a = some o → P2 a = some o) → (∀ a o, 0 < R a → H a = some o → H2 a = some o) → RepE c P2 H2 (LI.iceAt i ρ) σ R
  | [], [], S, i, h => ⟨fz, S, fun a => by simp [fz], fun a p => by simp [fz] at p, fun P2 H2 _ _ _ => h⟩
  | d0 :: ρ, v0 :: σ, S, 0, ⟨T, U, r, rs, f⟩ => ⟨T, U, fun a => by rw [f]; rfl, r.there, fun P2 H2 e k1 k2 => by
      refine ⟨fz, U, ?_, rs.mono e ρ σ U k2, by funext a; simp [fa, fz]⟩
      cases v0 with
      | none => obtain ⟨rfl, _⟩ := r; exact ⟨rfl, rfl⟩
      | some v => exact Rep.ice e d0 v T k1 r⟩
  | d0 :: ρ, v0 :: σ, S, i + 1, ⟨T, T2, r, rs, f⟩ => by
    obtain ⟨U, R, h1, h0, h2⟩ := RepE.iceAt i rs
    refine ⟨U, fa T R, fun a => by have := h1 a; rw [f]; simp only [fa]; omega, h0, fun P2 H2 e k1 k2 => ?_⟩
    have := h2 P2 H2 e k1 (fun a o z1 z2 => k2 a o (by simp only [fa]; omega) z2)
    have e2 : LI.iceAt (i + 1) (d0 :: ρ) = d0 :: LI.iceAt i ρ := by
      simp only [LI.iceAt, List.getElem?_cons_succ]
      cases ρ[i]? <;> rfl
    rw [e2]
    exact ⟨T, R, RepO.mono e (fun a o z1 z2 => k2 a o (by simp only [fa]; omega) z2) r, this, rfl⟩
  | [], _ :: _, _, _, h => h.elim
  | _ :: _, [], _, _, h => h.elim
theorem Wd.iceAt {c : LC} {P H : Hp} {S T : FP} {σ : St} {ρ : List D} (w : Wd c E P S T σ H ρ) (i : Nat) : ∃ P' S', Wd c E P' S' T σ H (LI.iceAt i ρ) ∧ Ex P P' := by
  obtain ⟨U, R, h1, h0, h2⟩ := RepE.iceAt i w.env
  have hP : ∀ a, 0 < U a → P a = none := fun a z => w.out a (by have := h1 a; omega)
  have ex : Ex P (fun a => if 0 < U a then H a else P a) := fun a o z => by
    by_cases hu : 0 < U a
    · rw [hP a hu] at z; cases z
    · simp [hu, z]
  refine ⟨fun a => if 0 < U a then H a else P a, R, ⟨h2 _ H ex (fun a o z1 z2 => by simp [z1, z2]) (fun _ _ _ h => h), fun a => ?_, fun a z => ?_, w.th, fun a o z => ?_, w.p0.trans ex, w.fr, fun a z => ?_, fun a z => w.ns a (by have := h1 a; omega), w.kp⟩, ex⟩
  · have := w.le a; have := h1 a; omega
  · have l := w.le a; have s := h1 a
    have hu : ¬ 0 < U a := by omega
    simp only [hu, if_false]
    exact w.out a (by omega)
  · by_cases hu : 0 < U a
    · simpa [hu] using z
    · exact w.ph a o (by simpa [hu] using z)
  · by_cases hu : 0 < U a
    · exact .inr (w.ns a (by have := h1 a; omega))
    · exact w.np a (by simpa [hu] using z)
def enumFrom (n : Nat) : List D → List D
  | [] => []
  | d :: ds => .tup [.int (n : Int), d] :: enumFrom (n + 1) ds
def lstD : D → Option (List D)
  | .lst false ds => if frzL ds = true then some ds else none
  | .scr ns => some (ns.map .int)
  | _ => none
def enumM (m : RM) : AM := fun ρ => (m ρ).bind fun d => (lstD d).map (enumFrom 0)
def zipD : List D → List D → List D
  | a :: as, b :: bs => .tup [a, b] :: zipD as bs
  | _, _ => []
def zipM (m1 m2 : RM) : AM := fun ρ => (m1 ρ).bind fun d1 => (m2 ρ).bind fun d2 => (lstD d1).bind fun a => (lstD d2).map fun b => zipD a b
def revM (m : RM) : AM := fun ρ => (m ρ).bind fun d => (lstD d).map List.reverse
theorem enumFrom_get : ∀ (ds : List D) (n i : Nat) (d : D), ds[i]? = some d → (enumFrom n ds)[i]? = some (.tup [.int ((n + i : Nat) : Int), d])
  | [], n, i, d, h => by simp at h
  | d0 :: ds, n, 0, d, h => by simp at h; subst h; rfl
  | d0 :: ds, n, i + 1, d, h => by
    have := enumFrom_get ds (n + 1) i d (by simpa using h)
    simp only [enumFrom, List.getElem?_cons_succ, this]
    congr 4; omega
theorem enumFrom_len : ∀ (ds : List D) (n : Nat), (enumFrom n ds).length = ds.length
  | [], n => rfl
  | d :: ds, n => by simp [enumFrom, enumFrom_len ds]
theorem lst_sq {c : LC} {P H : Hp} {d : D} {ds : List D} {v : V} {U : FP} (h : lstD d = some ds) (r : Rep c P H d v U) : ∃ p xs, v = .ref p ∧ SqL c.K P p xs ∧ ∀ H', RepL c P H' ds xs fz := by
  unfold lstD at h
  split at h
  · split at h
    · rename_i hf
      cases h
      obtain ⟨p, xs, e1, hp, rl⟩ := r
      have z := RepL.frz0 _ xs _ hf rl
      subst z
      exact ⟨p, xs, e1, .inl (.inl hp), fun _ => repL_h rl⟩
    · cases h
  · cases h
    obtain ⟨p, e1, hp, _⟩ := r
    exact ⟨p, _, e1, hp, fun _ => repL_ints _⟩
  · cases h
theorem pair_gr {c : LC} {P H H3 : Hp} {T : Addr} {x y : V} {d1 d2 : D} (ph : Ex P H) (hT : H T = none) (e : H3 = upd H T (.tup [x, y])) (r1 : Rep c P H d1 x fz) (r2 : Rep c P H d2 y fz) :
    ∃ P3, Gr P H P3 H3 ∧ Rep c P3 H3 (.tup [d1, d2]) (.ref T) fz := by
  subst e
  have hP := none_of ph hT
  have eP : Ex P (upd P T (.tup [x, y])) := fun a o z => by rw [upd_ne (ne_of_none z hP)]; exact z
  refine ⟨upd P T (.tup [x, y]), ⟨eP, fun a o z => by rw [upd_ne (ne_of_none z hT)]; exact z, fun a o z => ?_, fun a z => ?_⟩, T, [x, y], rfl, .inl (.inl upd_same), x, [y], fz, fz, rfl, ?_, ⟨y, [], fz, fz, rfl, ?_, ⟨rfl, rfl⟩, (fa_fz fz).symm⟩, (fa_fz fz).symm⟩
  · by_cases q : a = T
    · subst q; rw [upd_same] at z ⊢; exact z
    · rw [upd_ne q] at z ⊢; exact ph a o z
  · by_cases q : a = T
    · subst q; exact .inr hT
    · rw [upd_ne q] at z; exact .inl z
  · exact Rep.mono eP d1 x fz (fun a o z _ => by simp [fz] at z) r1
  · exact Rep.mono eP d2 y fz (fun a o z _ => by simp [fz] at z) r2
theorem rep_ph {c : LC} {P P2 H H2 : Hp} {d : D} {x : V} (e : Ex P P2) (r : Rep c P H d x fz) : Rep c P2 H2 d x fz := Rep.mono e d x fz (fun a o z _ => by simp [fz] at z) r
theorem i_enum {elts : List Expr} {kk : Nat} {p tpos : Pos} (hg : Gl X "enumerate") (hm : X.mg "enumerate" = none) (h : PE X e (tR ⟨X.K, cl, X.w⟩ E m)) (hs : starEach [e] X.env = (false, eval e X.env) :: starEach [] X.env := by rfl) :
    PI X (.Tuple elts kk tpos) (.Call (.Name "enumerate" p) [e] [] pos) (tI ⟨X.K, cl, X.w⟩ E (enumM m)) := PI_imp (pi_enum hg hm (a_cons h a_nil hs) hs) fun σ H R ⟨P, S, T, ρ, ds, w, hm, q⟩ => by
  unfold enumM at hm
  cases ea : m ρ with
  | none => rw [ea] at hm; cases hm
  | some d =>
    rw [ea, Option.bind_some] at hm
    cases el : lstD d with
    | none => rw [el] at hm; cases hm
    | some es =>
      rw [el] at hm
      cases hm
      refine ⟨P, S, T, ρ, [d], w, by simp [consM, nilM, ea], fun vs H1 P1 U1 g1 ⟨y, ys, T1, T2, e1, r1, r2, f⟩ => ?_⟩
      obtain ⟨p, xs, e2, hp, rl⟩ := lst_sq el r1
      refine ⟨p, xs, by rw [e1, e2, r2.1], sql_mono g1.ph hp, q _ H1 P1 g1 ⟨_, _, by rw [enumFrom_len, (rl H1).length]; exact walk_enum (xs := xs), fun P2 H2 e1 e2 => sql_mono e2 (sql_mono e1 hp), fun i P2 H2 x H3 e1 e2 hi y => ?_⟩⟩
      obtain ⟨T, x1, y1, h1, h2, h3, h4, h5⟩ := y
      cases h4
      obtain ⟨d1, k1, k2⟩ := rep_get0 (rl H2) h5
      obtain ⟨P3, g3, r3⟩ := pair_gr (c := ⟨X.K, cl, X.w⟩) (d1 := .int ((0 + i : Nat) : Int)) e2 h2 h3 ⟨by simp, rfl⟩ (rep_ph (H2 := H2) e1 k2)
      exact ⟨P3, _, g3, enumFrom_get es 0 i d1 k1, h1 ▸ r3⟩
end
def IterV (c : LC) (P H : Hp) (J : It) (ds : List D) : Prop := ∃ (G : Hp → Prop) (Y : Nat → Hp → V → Hp → Prop), Walk J ds.length G Y ∧ (∀ P2 H2, Gr P H P2 H2 → G H2) ∧
  ∀ i P2 H2 x H3, Gr P H P2 H2 → i < ds.length → Y i H2 x H3 → ∃ P3 d, Gr P2 H2 P3 H3 ∧ ds[i]? = some d ∧ Rep c P3 H3 d x fz
def tIV (c : LC) (E : En) (m : AM) : TI := fun σ H R => ∃ P S T ρ ds, Wd c E P S T σ H ρ ∧ m ρ = some ds ∧ ∀ J H' P', Gr P H P' H' → IterV c P' H' J ds → R J H'
def itemsV : D → Option (List D)
  | .lst _ ds => if frzL ds = true then some ds else none
  | d => itemsD d
def itV (m : RM) : AM := fun ρ => (m ρ).bind itemsV
section
variable {X : Cx} {cl : Nat → Addr} {E : En} {e a b tg : Expr} {pos : Pos} {m ma mb : RM}
theorem i_up {ms : AM} (h : PI X tg e (tI ⟨X.K, cl, X.w⟩ E ms)) : PI X tg e (tIV ⟨X.K, cl, X.w⟩ E ms) := PI_imp h fun σ H R ⟨P, S, T, ρ, ds, w, hm, q⟩ =>
  ⟨P, S, T, ρ, ds, w, hm, fun J H1 P1 g1 ⟨G, Y, wk, hG, hY⟩ => q J H1 P1 g1 ⟨G, Y, wk, fun P2 H2 g2 => hG P2 H2 g2.p g2.ph, fun i P2 H2 x H3 g2 hi y => hY i P2 H2 x H3 g2.p g2.ph hi y⟩⟩
theorem i_seqV (h : PE X e (tR ⟨X.K, cl, X.w⟩ E m)) : PI X tg e (tIV ⟨X.K, cl, X.w⟩ E (itV m)) := by
  refine PI_imp (PI_or (pi_list h) (i_up (i_seq h))) fun σ H R ⟨P, S, T, ρ, ds, w, hm, q⟩ => ?_
  unfold itV at hm
  cases ea : m ρ with
  | none => rw [ea] at hm; cases hm
  | some d =>
    rw [ea] at hm
    replace hm : itemsV d = some ds := hm
    cases d with
    | lst o es =>
      replace hm : (if frzL es = true then some es else none) = some ds := hm
      split at hm
      · rename_i hf
        cases hm
        refine .inl ⟨P, S, T, ρ, _, w, ea, fun v H1 P1 U1 g1 r1 => ?_⟩
        obtain ⟨p, xs, T', e1, hp, rl, _⟩ := lst_heap g1.ph r1
        have z := RepL.frz0 _ xs _ hf rl
        subst z
        refine ⟨p, e1, ⟨xs, .inl (.inl hp)⟩, q _ H1 P1 g1 ⟨_, _, by rw [rl.length]; exact walk_list (K := X.K) (a := p) (xs := xs), fun P2 H2 g2 => Or.inl (Or.inl (g2.h _ _ hp)), fun i P2 H2 x H3 g2 hi y => ?_⟩⟩
        obtain ⟨rfl, hx⟩ := y
        obtain ⟨d, h1, h2⟩ := rep_get0 (repL_h (H' := H3) rl) hx
        exact ⟨P2, d, .refl g2.ph, h1, Rep.mono g2.p d x fz (fun a o z _ => by simp [fz] at z) h2⟩
      · cases hm
    | _ => exact .inr ⟨P, S, T, ρ, ds, w, by unfold itM; rw [ea]; exact hm, q⟩
theorem lcV_run {c : LC} {vs tl : List Nat} {f : TgM} {mc : BM} {me : RM} {ms : AM} (ht : ∀ j ∈ tl, j ∈ vs) (hk : ∀ j ∈ vs, E.kp[j]? ≠ some true) {σ : St} {H : Hp} {Q : VK} (h : tF c E (compM vs f mc me ms) σ H Q) :
    tLc (tIV c E ms) (tPG c E tl f) (tTs c E mc) (tR c E me) vs σ H Q := by
  obtain ⟨P, S, T, ρ, d, w, hm, q⟩ := h
  unfold compM at hm
  cases es : ms ρ with
  | none => rw [es] at hm; cases hm
  | some ds =>
    rw [es, Option.bind_some] at hm
    split at hm
    · rename_i hlim
      cases ec : compL f mc me (goneAt ρ vs) ds with
      | none => rw [ec] at hm; cases hm
      | some ys =>
        rw [ec] at hm
        cases hm
        refine ⟨P, S, T, ρ, ds, w, es, fun J H1 P1 g1 io => ?_⟩
        intro Dl hD
        obtain ⟨G, Y, wk, hG, hY⟩ := io
        have hP1 : P1 Dl = none := none_of g1.ph hD
        -- the invariant
        refine lc_it wk (fun i Hh => ∃ P2 zs acc, compL f mc me (goneAt ρ vs) (ds.take i) = some zs ∧ Gr P1 H1 P2 Hh ∧ P2 Dl = none ∧ Hh Dl = some (.lst acc) ∧ RepL c P2 Hh zs acc fz) ?_ ?_ ?_ ?_
        · exact ⟨P1, [], [], rfl, ⟨.refl _, ex_new hD, g1.ph.trans (ex_new hD), fun a z => .inl z⟩, hP1, upd_same, rfl, rfl⟩
        · rintro i Hh hi ⟨P2, zs, acc, h1, g2, _, _, _⟩
          exact hG P2 Hh g2
        · rintro i x Hh H3 hi ⟨P2, zs, acc, h1, g2, hD2, hDl, rl⟩ y
          obtain ⟨P3, d, g3, hd, rd⟩ := hY i P2 Hh x H3 g2 hi y
          obtain ⟨zs', ρ1, k, t1, t2, t3, t4, t5⟩ := compL_turn ec hd
          rw [h1] at t1
          cases t1
          obtain ⟨S3, w3⟩ := (((w.grow g1).grow g2).grow g3).wipe vs hk
          have w3' : Wd c E P3 S3 (fa T fz) (L2.wipe σ vs) H3 (goneAt ρ vs) := by rw [fa_fz]; exact w3
          have hD3 : P3 Dl = none := by
            cases z : P3 Dl with
            | none => rfl
            | some o =>
              rcases g3.new Dl (by rw [z]; simp) with q' | q'
              · exact absurd hD2 q'
              · rw [hDl] at q'; cases q'
          refine ⟨P3, S3, T, fz, _, d, ρ1, w3', rd, t2, fun σ' S' w4 l4 k4 => ⟨?_, P3, S', T, ρ1, k, w4, t3, fun H4 P4 g4 => ?_⟩⟩
          · rw [wipe_eq (vs := vs) l4 fun j hj => k4 j fun z => hj (ht j z)]
            exact wipe_wipe σ vs
          · have hD4 : P4 Dl = none := by
              cases z : P4 Dl with
              | none => rfl
              | some o =>
                rcases g4.new Dl (by rw [z]; simp) with q' | q'
                · exact absurd hD3 q'
                · rw [g3.h _ _ hDl] at q'; cases q'
            cases k with
            | true =>
              obtain ⟨y', e1, e2, e3⟩ := t4 rfl
              refine iteT ⟨P4, S', T, ρ1, y', w4.grow g4, e1, fun v H5 P5 U5 g5 r5 => ?_⟩
              have hU := Rep.frz0 y' v U5 e2 r5
              subst hU
              have hD5 : P5 Dl = none := by
                cases z : P5 Dl with
                | none => rfl
                | some o =>
                  rcases g5.new Dl (by rw [z]; simp) with q' | q'
                  · exact absurd hD4 q'
                  · rw [g4.h _ _ (g3.h _ _ hDl)] at q'; cases q'
              have gg := ((g2.trans g3).trans g4).trans g5
              have hDl5 : H5 Dl = some (.lst acc) := g5.h _ _ (g4.h _ _ (g3.h _ _ hDl))
              refine ⟨acc, hDl5, ?_, P5, zs ++ [y'], acc ++ [v], e3, ⟨gg.p, fun a o z => ?_, fun a o z => ?_, gg.new⟩, hD5, upd_same, ?_⟩
              · have h2 := compL_len h1
                have h3 := rl.length
                have : zs.length ≤ ds.length := Nat.le_trans h2 (by rw [List.length_take]; omega)
                have : (zs ++ [y']).length ≤ (ds.take (i + 1)).length := compL_len e3
                rw [List.length_append, List.length_take] at this
                have e4 : acc.length < LIM := by
                  simp only [List.length_cons, List.length_nil] at this
                  omega
                exact lim_lt e4
              · by_cases z2 : a = Dl
                · subst z2; rw [hD] at z; cases z
                · rw [upd_ne z2]; exact gg.h a o z
              · by_cases z2 : a = Dl
                · subst z2; rw [hD5] at z; cases z
                · rw [upd_ne z2]; exact g5.ph a o z
              · have r6 := RepL.append (repL_h (H' := upd H5 Dl (.lst (acc ++ [v]))) (((rl.gr g3).gr g4).gr g5)) (show RepL c P5 (upd H5 Dl (.lst (acc ++ [v]))) [y'] [v] fz from ⟨v, [], fz, fz, rfl, Rep.mono (.refl _) y' v fz (fun a o z _ => by simp [fz] at z) r5, ⟨rfl, rfl⟩, (fa_fz fz).symm⟩)
                rwa [fa_fz] at r6
            | false =>
              refine iteF ⟨P4, zs, acc, t5 rfl, (g2.trans g3).trans g4, hD4, g4.h _ _ (g3.h _ _ hDl), (rl.gr g3).gr g4⟩
        · rintro Hh ⟨P2, zs, acc, h1, g2, hD2, hDl, rl⟩
          rw [List.take_length, ec] at h1
          cases h1
          refine q _ Hh P2 (one Dl) (g1.trans g2) ⟨Dl, acc, fz, rfl, hDl, rl, (fa_fz _).symm⟩ one_le fun a z => ?_
          rw [one_pos z]
          refine ⟨?_, hD2⟩
          cases z : H Dl with
          | none => rfl
          | some o => rw [g1.h _ _ z] at hD; cases hD
    · cases hm
theorem f_lcV {elt tg iter : Expr} {ifs : List Expr} {scope : Scope} (own : List (Str × Nat)) {vs : List Nat} {tl : List Nat} {f : TgM} {mc : BM} {me : RM} {ms : AM} (hvs : own.map (·.2) = vs) (hc : X.calm = true) (hN : X.N.Nodup) (hi : PI X tg iter (tIV ⟨X.K, cl, X.w⟩ E ms)) (ok : BlkOk X.N X.env.scope scope own)
    (hg : ∀ (s : Shared) (H : Hp) (C : Addr) (c : List (Str × Addr)) (fp : List Addr), PG (X.blk s H scope (compEnvC scope c C X.env) fp) tg (tPG ⟨X.K, cl, X.w⟩ E tl f)) (ht : ∀ (s : Shared) (H : Hp) (C : Addr) (c : List (Str × Addr)) (fp : List Addr), PTs (X.blk s H scope (compEnvC scope c C X.env) fp) ifs (tTs ⟨X.K, cl, X.w⟩ E mc))
    (he : ∀ (s : Shared) (H : Hp) (C : Addr) (c : List (Str × Addr)) (fp : List Addr), PE (X.blk s H scope (compEnvC scope c C X.env) fp) elt (tR ⟨X.K, cl, X.w⟩ E me)) (h1 : ∀ j ∈ tl, j ∈ vs) (h2 : ∀ j ∈ vs, E.kp[j]? ≠ some true) (hs : ∀ x, foldedSetIterable iter X.env x = pure x := by intro _; rfl) :
    PE X (.ListComp elt [⟨tg, iter, ifs, 0⟩] scope pos) (tF ⟨X.K, cl, X.w⟩ E (compM vs f mc me ms)) := by
  subst hvs
  exact PE_imp (pe_lc hc hN hi ok hg ht he hs) fun _ _ _ h => lcV_run h1 h2 h
end
end LI

namespace LI
open PySem L2

theorem FQ.dK {c : LC} {P H : Hp} {Q : VK} {ks : List Key} {ds : List D} {xs : List V} (h : FQ c P H (.dK true ks ds) Q) (e : Ex P H) (n : ks.length = xs.length) (r : RepL c P H ds xs fz) : ∀ p, H p = none → Q (.ref p) (upd H p (.dK (ks.zip xs))) := fun p hp => by
  refine h _ _ P (one p) ⟨.refl _, ex_new hp, e.trans (ex_new hp), fun _ z => .inl z⟩ ⟨p, xs, fz, rfl, upd_same, n, RepL.mono (.refl _) ds xs fz (fun a o z _ => by simp [fz] at z) r, (fa_fz _).symm⟩ one_le fun a z => ?_
  rw [one_pos z]
  exact ⟨hp, none_of e hp⟩
section
variable {X : Cx} {cl : Nat → Addr} {E : En} {pos : Pos}
def dispM (mk mv : AM) : RM := fun ρ => (mk ρ).bind fun kds => (mv ρ).bind fun vds => (keyDs kds).bind fun ks => if ks.Nodup ∧ frzL vds = true ∧ ks.length ≤ 15 ∧ ks.length = vds.length then some (.dK true ks vds) else none
theorem f_dnew : PE X (.Dict [] [] pos) (tF ⟨X.K, cl, X.w⟩ E (dispM nilM nilM)) := PE_imp pe_dnewK fun σ H Q ⟨P, S, T, ρ, d, w, hm, q⟩ => by
  cases hm
  exact fun p hp => q.dK (ks := []) (ds := []) (xs := []) w.ph rfl ⟨rfl, rfl⟩ p hp
end
end LI

namespace LI
open PySem PySem.Spec PyProof.Rows L2

def Iten (x : Str) : It :=
  ⟨fun i _ => i < x.cps.size, fun i H v H' => ∃ T c, v = .ref T ∧ H T = none ∧ H' = upd H T (.tup [.int (i : Nat), .str ⟨#[c]⟩]) ∧ x.cps[i]? = some c, fun i _ => x.cps.size ≤ i⟩
theorem turn_enumS {P : Program} {w : World} {K : PySem.W.Frag} {elts : List Expr} {kk : Nat} {tpos : Pos} (x : Str) (t : Tok) (ty : String) (hty : ty = "str_ascii_iterator" ∨ ty = "str_iterator") (e it : Addr) :
    Turn P w K (.Tuple elts kk tpos) (Iten x) [e, it] e (fun i h => (∃ old, IsEnum h e it ((i : Nat) : Int) old) ∧ h.IsStrIter it ty x t i ∧ e ≠ it ∧ i ≤ x.cps.size) where
  mem := by simp
  obj := fun i h st b hb => by
    obtain ⟨⟨old, he⟩, ⟨o, ho, hc, hd⟩, _⟩ := st
    have e' : b = e ∨ b = it := by simpa using hb
    rcases e' with z | z
    · rw [z]; exact ⟨_, he, fun v q => nomatch q⟩
    · rw [z]; exact ⟨o, ho, fun v q => by rw [hd] at q; cases q⟩
  keep := fun i h h' st k => let ⟨⟨old, he⟩, ⟨o, ho, r⟩, hne⟩ := st; ⟨⟨old, k e (by simp) _ he⟩, ⟨o, k it (by simp) o ho, r⟩, hne⟩
  item := by
    intro X hP hw hK hc i pins s σ H E I hf st hg
    subst hP hw hK
    obtain ⟨⟨old, he⟩, hit, hne, _⟩ := st
    replace hg : i < x.cps.size := hg
    have hel : e < s.heap.objs.size := Heap.lt_size he
    have hil : it < s.heap.objs.size := by obtain ⟨_, q, _⟩ := hit; exact Heap.lt_size q
    have D : Draws X.prog X.w X.A.in1 it [it] x.cps.size (fun i v => ∃ c u, x.cps[i]? = some c ∧ v = .str ⟨#[c]⟩ u) (fun i h => h.IsStrIter it ty x t i) := by
      rcases hty with q | q
      · rw [q]; exact Draws.strAscii (A := X.A.in1) (I.ok.hd hc) it x t
      · rw [q]; exact Draws.strWide (A := X.A.in1) (I.ok.hd hc) it x t
    refine wpAny_pyNext_enum_itemD D he hit hg hne (by simpa using hne) fun v h' tk hv ho hit' hT hsz hk => ?_
    obtain ⟨c, u, hcx, rfl⟩ := hv
    refine ⟨_, rfl, wpAny_letOwnedTupleGo_enum (s := { s with heap := h', toks := tk + 1 }) ho fun h'' he' sb => ?_⟩
    have hT2 : h''.get? s.heap.objs.size = some { cls := .type "tuple", data := .seq #[.int i tk, .str ⟨#[c]⟩ u] } := (sb.2 _ (Nat.ne_of_gt hel)).trans hT
    have new : ObjOk X.prog X.w (upd H s.heap.objs.size (.tup [.int (i : Nat), .str ⟨#[c]⟩])) h'' s.heap.objs.size (.tup [.int (i : Nat), .str ⟨#[c]⟩]) :=
      ⟨by show 2 ≤ sizeLine; decide, [.int i tk, .str ⟨#[c]⟩ u], .cons ⟨_, rfl⟩ (.cons ⟨_, rfl⟩ .nil), ⟨_, hT2, rfl, _, rfl⟩⟩
    have I1 : Inv X pins σ (upd H s.heap.objs.size (.tup [.int (i : Nat), .str ⟨#[c]⟩])) { s with heap := h'', toks := tk + 1 } :=
      I.turnedNew (ch := [e, it]) (fun b ob hb q => (sb.2 b (fun z => hb (by simp [z]))).trans (hk b ob (fun z => hb (by simp [z])) (fun z => hb (by simp [z])) q)) hf (Nat.le_refl _) new
    obtain ⟨oi, q1, q2⟩ := hit'
    refine ⟨.ref s.heap.objs.size, _, I1, rfl, ⟨_, c, rfl, I.hok.fresh (Nat.le_refl _), rfl, hcx⟩, ⟨⟨.str ⟨#[c]⟩ u, ?_⟩, ⟨oi, (sb.2 it (Ne.symm hne)).trans q1, q2⟩, hne, hg⟩, fun b hb => ?_⟩
    · have e1 : ((i + 1 : Nat) : Int) = (i : Int) + 1 := by omega
      rw [e1]; exact he'
    · have hb' : b < s.heap.objs.size := by
        have e' : b = e ∨ b = it := by simpa using hb
        rcases e' with z | z
        · rw [z]; exact hel
        · rw [z]; exact hil
      rw [upd_ne (Nat.ne_of_lt hb')]
      exact (hf b hb).1
  done := by
    intro X hP hw hK hc i pins s σ H E I hf st hg
    subst hP hw hK
    obtain ⟨⟨old, he⟩, hit, hne, hle⟩ := st
    replace hg : x.cps.size ≤ i := hg
    have hi : i = x.cps.size := Nat.le_antisymm hle hg
    subst hi
    have D : Draws X.prog X.w X.A.in1 it [it] x.cps.size (fun i v => ∃ c u, x.cps[i]? = some c ∧ v = .str ⟨#[c]⟩ u) (fun i h => h.IsStrIter it ty x t i) := by
      rcases hty with q | q
      · rw [q]; exact Draws.strAscii (A := X.A.in1) (I.ok.hd hc) it x t
      · rw [q]; exact Draws.strWide (A := X.A.in1) (I.ok.hd hc) it x t
    obtain ⟨f0, f1, f2, f3, f4, f5⟩ := hf it (by simp)
    exact wpAny_pyNext_enum_endD D he hit fun h' eb => ⟨rfl, I.turned (t' := s.toks) (fun b o hb q => eb b o hb q) f0 f1 f3 f4 f5⟩
  self := fun A i s Q E st h => let ⟨⟨_, he⟩, _⟩ := st; wpAny_pyIter_enum he h
def iEnumS (ta : TA) : TI := fun σ H R => ta σ H fun vs H1 => ∃ x, vs = [.str x] ∧ R (Iten x) H1
theorem pi_enumS {X : Cx} {e : Expr} {ta : TA} {p pos tpos : Pos} {elts : List Expr} {kk : Nat} (hg : Gl X "enumerate") (hm : X.mg "enumerate" = none) (ha : PA X [e] ta) (hs : starEach [e] X.env = [(false, eval e X.env)] := by rfl) :
    PI X (.Tuple elts kk tpos) (.Call (.Name "enumerate" p) [e] [] pos) (iEnumS ta) := by
  refine ⟨fun pins s σ H R I h => ?_⟩
  refine Call_ (ld_blt I hg hm boot_enumerate (PyProof.Rows.callWith_type1 (thn (ha.run pos pins s σ H _ I h) fun us s1 ⟨vs, H1, I1, r1, q1⟩ => ?_) hs rfl))
  obtain ⟨x, ex, q⟩ := q1
  subst ex
  cases r1 with
  | cons r rr =>
    cases rr
    obtain ⟨t, rfl⟩ := r
    refine call_enumerate_str fun h' he hit hsz hk => wpAny_pyIter_enum he ?_
    have I2 : Inv X pins σ H1 { s1 with heap := h' } := I1.kept (t' := s1.toks) hk
    have hty : strIterType x = "str_ascii_iterator" ∨ strIterType x = "str_iterator" := by
      unfold strIterType
      split
      · exact .inl rfl
      · exact .inr rfl
    refine ⟨s1.heap.objs.size + 1, [s1.heap.objs.size + 1, s1.heap.objs.size], _, _, H1, rfl, I2, turn_enumS x t _ hty (s1.heap.objs.size + 1) s1.heap.objs.size, ⟨⟨.none, he⟩, hit, Nat.succ_ne_self _, Nat.zero_le _⟩, fun b hb => ?_, q⟩
    have e' : b = s1.heap.objs.size + 1 ∨ b = s1.heap.objs.size := by simpa using hb
    have hle : s1.heap.objs.size ≤ b := by
      rcases e' with z | z
      · rw [z]; exact Nat.le_add_right _ _
      · rw [z]; exact Nat.le_refl _
    exact I1.fpOk hle (I1.hok.fresh hle)
theorem walk_enumS {x : Str} : Walk (Iten x) x.cps.size (fun _ => True) (fun i H v H' => ∃ T c, v = .ref T ∧ H T = none ∧ H' = upd H T (.tup [.int (i : Nat), .str ⟨#[c]⟩]) ∧ x.cps[i]? = some c) :=
  ⟨fun _ _ hi _ => hi, fun _ _ => Nat.le_refl _, fun _ _ _ _ _ _ y => y⟩
def enumSM (m : RM) : AM := fun ρ => (m ρ).bind fun d => match d with
  | .str s => some (enumFrom 0 (strsD s))
  | d => (lstD d).map (enumFrom 0)
section
variable {X : Cx} {cl : Nat → Addr} {E : En} {e a b tg : Expr} {pos : Pos} {m : RM}
theorem i_enumS {elts : List Expr} {kk : Nat} {p tpos : Pos} (hg : Gl X "enumerate") (hm : X.mg "enumerate" = none) (h : PE X e (tR ⟨X.K, cl, X.w⟩ E m)) (hs : starEach [e] X.env = (false, eval e X.env) :: starEach [] X.env := by rfl) :
    PI X (.Tuple elts kk tpos) (.Call (.Name "enumerate" p) [e] [] pos) (tI ⟨X.K, cl, X.w⟩ E (enumSM m)) := PI_imp (PI_or (pi_enumS hg hm (a_cons h a_nil hs) hs) (i_enum hg hm h hs)) fun σ H R ⟨P, S, T, ρ, ds, w, hm, q⟩ => by
  unfold enumSM at hm
  cases ea : m ρ with
  | none => rw [ea] at hm; cases hm
  | some d =>
    rw [ea, Option.bind_some] at hm
    cases d with
    | str s =>
      cases hm
      refine .inl ⟨P, S, T, ρ, [.str s], w, by simp [consM, nilM, ea], fun vs H1 P1 U1 g1 ⟨y, ys, T1, T2, e1, r1, r2, f⟩ => ?_⟩
      refine ⟨⟨s.toArray⟩, by rw [e1, r1.1, r2.1], q _ H1 P1 g1 ⟨_, _, by rw [enumFrom_len, show (strsD s).length = (⟨s.toArray⟩ : Str).cps.size by simp [strsD]]; exact walk_enumS, fun _ _ _ _ => True.intro, fun i P2 H2 x H3 e1 e2 hi y => ?_⟩⟩
      obtain ⟨T, c, h1, h2, h3, h4⟩ := y
      have hk : s[i]? = some c := by simpa using h4
      obtain ⟨P3, g3, r3⟩ := pair_gr (c := ⟨X.K, cl, X.w⟩) (d1 := .int ((0 + i : Nat) : Int)) (d2 := .str [c]) e2 h2 h3 ⟨by simp, rfl⟩ ⟨rfl, rfl⟩
      exact ⟨P3, _, g3, enumFrom_get (strsD s) 0 i (.str [c]) (by simp [strsD, hk]), h1 ▸ r3⟩
    | _ => exact .inr ⟨P, S, T, ρ, ds, w, by unfold enumM; rw [ea]; exact hm, q⟩
end
end LI

namespace LI
open PySem PySem.Spec PyProof.Rows L2

def kdGet : List (List Nat × List Nat) → List Nat → Option (List Nat)
  | [], _ => none
  | kv :: kvs, z => if kv.1 = z then some kv.2 else kdGet kvs z
def inK (kvs : List (List Nat × List Nat)) : D → Option D
  | .str z => some (.bl (kdGet kvs z).isSome)
  | _ => none
def ninK (kvs : List (List Nat × List Nat)) : D → Option D
  | .str z => some (.bl (!(kdGet kvs z).isSome))
  | _ => none
def ixK (kvs : List (List Nat × List Nat)) : D → Option D
  | .str z => (kdGet kvs z).map .str
  | _ => none
section
variable {X : Cx} {cl : Nat → Addr} {E : En} {e a b : Expr} {pos p : Pos} {m : RM} {x : Str} {kvs : List (List Nat × List Nat)}
end
end LI

namespace LI
open PySem L2
def binVG (f : D → D → Option D) (i : Nat) (g : GM) : GM := fun ρ => (vM i ρ).bind fun _ => (g ρ).bind fun r => (vM i r.2).bind fun x => (f x r.1).map fun d => (d, r.2)
section
variable {X : Cx} {cl : Nat → Addr} {E : En} {a b : Expr} {pos p : Pos} {g : GM} {r : R2} {f : D → D → Option D}
end
end LI

namespace LI
open PySem L2

def rng1D : D → Option (List D) := fun d => match d with | .int j => if -(2 ^ 62) ≤ j ∧ j < 2 ^ 62 then some (upD 0 j.toNat) else none | _ => none
def rng2D : D → D → Option (List D) := fun x y => match x, y with | .int i, .int j => if -(2 ^ 62) ≤ i ∧ i < 2 ^ 62 ∧ -(2 ^ 62) ≤ j ∧ j < 2 ^ 62 then some (upD i (j - i).toNat) else none | _, _ => none
section
variable {ρ : List D} {i n : Nat} {d : D} {m ma mb mc : RM} {ms : AM} {f : D → D → Option D} {g : D → Option D} {F : FM}
@[simp] theorem ev_v : vM i ρ = (ρ[i]?).bind fun d => if notGone d = true then some d else none := (rfl)
@[simp] theorem ev_k : kM d ρ = some d := (rfl)
@[simp] theorem ev_m2 : m2 f ma mb ρ = (ma ρ).bind fun x => (mb ρ).bind fun y => f x y := (rfl)
@[simp] theorem ev_m1 : m1 g ma ρ = (ma ρ).bind g := (rfl)
@[simp] theorem ev_nil : nilM ρ = some [] := (rfl)
@[simp] theorem ev_cons : consM m ms ρ = (m ρ).bind fun d => (ms ρ).map fun ds => d :: ds := (rfl)
@[simp] theorem ev_tup : tupM ms ρ = (ms ρ).bind fun ds => if frzL ds = true ∧ ds.length ≤ LIM then some (.tup ds) else none := (rfl)
@[simp] theorem ev_lst : lstM ms ρ = (ms ρ).bind fun ds => if frzL ds = true ∧ ds.length ≤ LIM then some (.lst true ds) else none := (rfl)
@[simp] theorem ev_call : callM F ms ρ = (ms ρ).bind fun ds => (F (iceL ds)).bind fun r => if frzL ds = true ∨ noIce r.1 = true then some r.1 else none := (rfl)
@[simp] theorem ev_callV : callVM F ms ρ = (ms ρ).bind fun ds => (F (iceL ds)).map (·.1) := (rfl)
@[simp] theorem ev_upF : upF m ρ = (m ρ).map fun d => (d, ρ) := (rfl)
@[simp] theorem ev_upR : upR m ρ = (m ρ).bind fun d => if frz d = true then some (d, ρ) else none := (rfl)
@[simp] theorem ev_cold : coldM m ρ = (m ρ).map ice := (rfl)
@[simp] theorem ev_fr : frM m ρ = (m ρ).bind fun d => if frz d = true then some d else none := (rfl)
@[simp] theorem ev_tru : truM m ρ = (m ρ).bind truD := (rfl)
@[simp] theorem ev_bM : bM m ρ = (m ρ).bind fun d => match d with | .bl b => some b | _ => none := (rfl)
@[simp] theorem ev_notB {b : BM} : notB b ρ = (b ρ).map not := (rfl)
@[simp] theorem ev_andB {a b : BM} : andB a b ρ = (a ρ).bind fun k => if k = true then b ρ else some false := (rfl)
@[simp] theorem ev_orB {a b : BM} : orB a b ρ = (a ρ).bind fun k => if k = true then some true else b ρ := (rfl)
@[simp] theorem ev_notD : notD m ρ = ((m ρ).bind truD).map fun k => .bl (!k) := (rfl)
@[simp] theorem ev_andM : andM ma mb ρ = (bM ma ρ).bind fun k => if k = true then mb ρ else some (.bl false) := (rfl)
@[simp] theorem ev_orM : orM ma mb ρ = (bM ma ρ).bind fun k => if k = true then some (.bl true) else mb ρ := (rfl)
@[simp] theorem ev_iteM {b : BM} : iteM b ma mb ρ = (b ρ).bind fun k => if k = true then ma ρ else mb ρ := (rfl)
@[simp] theorem ev_ch {f g : D → D → Option D} : chM f g ma mb mc ρ = (ma ρ).bind fun x => (mb ρ).bind fun y => (f x y).bind fun z => match z with | .bl true => (mc ρ).bind fun u => g y u | .bl false => some (.bl false) | _ => none := (rfl)
@[simp] theorem ev_mA {f : List D → Option D} : mA f ms ρ = (ms ρ).bind f := (rfl)
@[simp] theorem ev_isi {ty : String} : isiM ty m ρ = (m ρ).bind fun d => (tyD d).bind fun t => (kitB t ty).map .bl := (rfl)
@[simp] theorem ev_noM : noM ρ = some none := (rfl)
@[simp] theorem ev_soM : soM m ρ = (m ρ).bind fun d => match d with | .int i => some (some i) | _ => none := (rfl)
@[simp] theorem ev_slM {lo hi : OM} : slM m lo hi ρ = (m ρ).bind fun d => (lo ρ).bind fun l => (hi ρ).bind fun h => slD l h d := (rfl)
@[simp] theorem ev_it : itM m ρ = (m ρ).bind itemsD := (rfl)
@[simp] theorem ev_itV : itV m ρ = (m ρ).bind itemsV := (rfl)
@[simp] theorem ev_disp {mk mv : AM} : dispM mk mv ρ = (mk ρ).bind fun kds => (mv ρ).bind fun vds => (keyDs kds).bind fun ks => if ks.Nodup ∧ frzL vds = true ∧ ks.length ≤ 15 ∧ ks.length = vds.length then some (.dK true ks vds) else none := (rfl)
@[simp] theorem keyDs_nil : keyDs [] = some [] := (rfl)
@[simp] theorem keyDs_cons {d : D} {ds : List D} : keyDs (d :: ds) = (keyD d).bind fun k => (keyDs ds).map fun ks => k :: ks := (rfl)
@[simp] theorem keyD_int {i : Int} : keyD (.int i) = some (.inl i) := (rfl)
@[simp] theorem keyD_str {s : List Nat} : keyD (.str s) = some (.inr ⟨s.toArray⟩) := (rfl)
@[simp] theorem ev_enumS : enumSM m ρ = (m ρ).bind fun d => match d with | .str s => some (enumFrom 0 (strsD s)) | d => (lstD d).map (enumFrom 0) := (rfl)
@[simp] theorem ev_binV {g : GM} : binVG f i g ρ = (vM i ρ).bind fun _ => (g ρ).bind fun r => (vM i r.2).bind fun x => (f x r.1).map fun d => (d, r.2) := (rfl)
@[simp] theorem ev_rng1 : rng1M m ρ = (m ρ).bind rng1D := (rfl)
@[simp] theorem ev_rng2 : rng2M ma mb ρ = (ma ρ).bind fun x => (mb ρ).bind fun y => rng2D x y := (rfl)
@[simp] theorem ev_enum : enumM m ρ = (m ρ).bind fun d => (lstD d).map (enumFrom 0) := (rfl)
@[simp] theorem ev_zip : zipM ma mb ρ = (ma ρ).bind fun d1 => (mb ρ).bind fun d2 => (lstD d1).bind fun a => (lstD d2).map fun b => zipD a b := (rfl)
@[simp] theorem ev_rev : revM m ρ = (m ρ).bind fun d => (lstD d).map List.reverse := (rfl)
@[simp] theorem ev_comp {vs : List Nat} {f : TgM} {mc : BM} : compM vs f mc m ms ρ = (ms ρ).bind fun ds => if ds.length ≤ LIM then (compL f mc m (goneAt ρ vs) ds).map (.lst true) else none := (rfl)
@[simp] theorem ev_yes : yesB ρ = some true := (rfl)
@[simp] theorem ev_name : nameT i d ρ = some (ρ.set i d) := (rfl)
@[simp] theorem ev_tupT {f : List D → List D → Option (List D)} {ds : List D} : tupT f (.tup ds) ρ = f ds ρ := (rfl)
@[simp] theorem ev_consT {f : TgM} {g : List D → List D → Option (List D)} {ds : List D} : consT f g (d :: ds) ρ = (f d ρ).bind fun ρ => g ds ρ := (rfl)
@[simp] theorem ev_nilT : nilT [] ρ = some ρ := (rfl)
@[simp] theorem ev_gone0 : goneAt ρ [] = ρ := (rfl)
@[simp] theorem ev_gone1 {v : Nat} {vs : List Nat} : goneAt ρ (v :: vs) = (goneAt ρ vs).set v .gone := (rfl)
@[simp] theorem ev_vLget : (vL i).get ρ = (ρ[i]?).bind fun d => if notGone d = true then some d else none := (rfl)
@[simp] theorem ev_vLput : (vL i).put ρ d = ρ.set i d := (rfl)
@[simp] theorem ev_mv {L : Lens} : mvM L ρ = (L.get ρ).bind fun d => some (d, L.put ρ .gone) := (rfl)
@[simp] theorem ev_app {L : Lens} : appL L m ρ = (L.get ρ).bind fun d => (m ρ).bind fun y => match d with | .lst true ds => if ds.length < LIM then some (.non, L.put ρ (.lst true (ds ++ [y]))) else none | _ => none := (rfl)
@[simp] theorem ev_iceAt : iceAt i ρ = match ρ[i]? with | some d => ρ.set i (ice d) | none => ρ := (rfl)
@[simp] theorem ev_spNx {ρ' : List D} : maskL [] ρ' = [] := (rfl)
@[simp] theorem ev_mask {b : Bool} {bs : List Bool} {ds : List D} : maskL (b :: bs) (d :: ds) = (if b = true then d else .gone) :: maskL bs ds := (rfl)
@[simp] theorem ev_mask0 {b : Bool} {bs : List Bool} : maskL (b :: bs) [] = .gone :: maskL bs [] := (rfl)
end
@[simp] theorem ng_non : notGone .non = true := (rfl)
@[simp] theorem ng_gone : notGone .gone = false := (rfl)
@[simp] theorem ng_bl {b} : notGone (.bl b) = true := (rfl)
@[simp] theorem ng_int {b} : notGone (.int b) = true := (rfl)
@[simp] theorem ng_str {b} : notGone (.str b) = true := (rfl)
@[simp] theorem ng_scr {b} : notGone (.scr b) = true := (rfl)
@[simp] theorem ng_kst {b} : notGone (.kst b) = true := (rfl)
@[simp] theorem ng_tup {b} : notGone (.tup b) = true := (rfl)
@[simp] theorem ng_lst {o b} : notGone (.lst o b) = true := (rfl)
@[simp] theorem ng_dK {o k b} : notGone (.dK o k b) = true := (rfl)
@[simp] theorem ng_dT {o k b} : notGone (.dT o k b) = true := (rfl)
@[simp] theorem ng_dN {o k b} : notGone (.dN o k b) = true := (rfl)
@[simp] theorem ng_obj {o k f b} : notGone (.obj o k f b) = true := (rfl)
@[simp] theorem fl_non : isFlat .non = true := (rfl)
@[simp] theorem fl_bl {b} : isFlat (.bl b) = true := (rfl)
@[simp] theorem fl_int {b} : isFlat (.int b) = true := (rfl)
@[simp] theorem fl_str {b} : isFlat (.str b) = true := (rfl)

@[simp] theorem inK_str {kvs z} : inK kvs (.str z) = some (.bl (kdGet kvs z).isSome) := (rfl)
@[simp] theorem ninK_str {kvs z} : ninK kvs (.str z) = some (.bl (!(kdGet kvs z).isSome)) := (rfl)
@[simp] theorem ixK_str {kvs z} : ixK kvs (.str z) = (kdGet kvs z).map D.str := (rfl)
@[simp] theorem fz_gone : frz .gone = true := (rfl)
@[simp] theorem fz_non : frz .non = true := (rfl)
@[simp] theorem fz_bl {b} : frz (.bl b) = true := (rfl)
@[simp] theorem fz_int {b} : frz (.int b) = true := (rfl)
@[simp] theorem fz_str {b} : frz (.str b) = true := (rfl)
@[simp] theorem fz_scr {b} : frz (.scr b) = true := (rfl)
@[simp] theorem fz_kst {b} : frz (.kst b) = true := (rfl)
@[simp] theorem fz_tup {b} : frz (.tup b) = frzL b := (rfl)
@[simp] theorem fz_lst {o b} : frz (.lst o b) = (!o && frzL b) := (rfl)
@[simp] theorem fz_dK {o k b} : frz (.dK o k b) = (!o && frzL b) := (rfl)
@[simp] theorem fz_dT {o k b} : frz (.dT o k b) = (!o && frzL b) := (rfl)
@[simp] theorem fz_dN {o k b} : frz (.dN o k b) = (!o && frzL b) := (rfl)
@[simp] theorem fz_obj {o k f b} : frz (.obj o k f b) = (!o && frzL b) := (rfl)
@[simp] theorem fzL_nil : frzL [] = true := (rfl)
@[simp] theorem fzL_cons {d ds} : frzL (d :: ds) = (frz d && frzL ds) := (rfl)
@[simp] theorem frzL_map {α : Type} {f : α → D} {xs : List α} : frzL (xs.map f) = true ↔ ∀ x ∈ xs, frz (f x) = true := by simp [frzL_iff]
@[simp] theorem frzL_app {a b : List D} : frzL (a ++ b) = (frzL a && frzL b) := by
  rw [Bool.eq_iff_iff]; simp only [frzL_iff, List.mem_append, Bool.and_eq_true]
  exact ⟨fun h => ⟨fun d q => h d (.inl q), fun d q => h d (.inr q)⟩, fun h d q => q.elim (h.1 d) (h.2 d)⟩
@[simp] theorem ice_gone : ice .gone = .gone := (rfl)
@[simp] theorem ice_non : ice .non = .non := (rfl)
@[simp] theorem ice_bl {b} : ice (.bl b) = .bl b := (rfl)
@[simp] theorem ice_int {b} : ice (.int b) = .int b := (rfl)
@[simp] theorem ice_str {b} : ice (.str b) = .str b := (rfl)
@[simp] theorem ice_scr {b} : ice (.scr b) = .scr b := (rfl)
@[simp] theorem ice_kst {b} : ice (.kst b) = .kst b := (rfl)
@[simp] theorem ice_tup {b} : ice (.tup b) = .tup (iceL b) := (rfl)
@[simp] theorem ice_lst {o b} : ice (.lst o b) = .lst false (iceL b) := (rfl)
@[simp] theorem ice_dK {o k b} : ice (.dK o k b) = .dK false k (iceL b) := (rfl)
@[simp] theorem ice_dT {o k b} : ice (.dT o k b) = .dT false k (iceL b) := (rfl)
@[simp] theorem ice_dN {o k b} : ice (.dN o k b) = .dN false k (iceL b) := (rfl)
@[simp] theorem ice_obj {o k f b} : ice (.obj o k f b) = .obj false k f (iceL b) := (rfl)
@[simp] theorem iceL_nil : iceL [] = [] := (rfl)
@[simp] theorem iceL_cons {d ds} : iceL (d :: ds) = ice d :: iceL ds := (rfl)
theorem iceL_eq : ∀ {ds : List D}, iceL ds = ds.map ice
  | [] => rfl
  | d :: ds => by simp [iceL_eq (ds := ds)]
mutual
theorem ice_frz : ∀ d : D, frz d = true → ice d = d
  | .gone, _ | .non, _ | .bl _, _ | .int _, _ | .str _, _ | .scr _, _ | .kst _, _ | .key _, _ => rfl
  | .tup ds, h => by rw [ice_tup, iceL_frz ds h]
  | .lst true ds, h => by simp at h
  | .lst false ds, h => by rw [ice_lst, iceL_frz ds (by simpa using h)]
  | .dK true k ds, h => by simp at h
  | .dK false k ds, h => by rw [ice_dK, iceL_frz ds (by simpa using h)]
  | .dT true k ds, h => by simp at h
  | .dT false k ds, h => by rw [ice_dT, iceL_frz ds (by simpa using h)]
  | .dN true k ds, h => by simp at h
  | .dN false k ds, h => by rw [ice_dN, iceL_frz ds (by simpa using h)]
  | .obj true k f ds, h => by simp at h
  | .obj false k f ds, h => by rw [ice_obj, iceL_frz ds (by simpa using h)]
theorem iceL_frz : ∀ ds : List D, frzL ds = true → iceL ds = ds
  | [], _ => rfl
  | d :: ds, h => by
    simp at h
    rw [iceL_cons, ice_frz d h.1, iceL_frz ds h.2]
end
@[simp] theorem iceL_map {α : Type} {f : α → D} {xs : List α} : iceL (xs.map f) = xs.map fun x => ice (f x) := by rw [iceL_eq, List.map_map]; rfl
@[simp] theorem iceL_app {a b : List D} : iceL (a ++ b) = iceL a ++ iceL b := by simp [iceL_eq]
mutual
theorem toP_ice : ∀ d : D, toP (ice d) = toP d
  | .gone | .non | .bl _ | .int _ | .str _ | .scr _ | .kst _ | .key _ => rfl
  | .tup ds => by simp only [ice_tup, toP, toPL_iceL ds]
  | .lst _ ds => by simp only [ice_lst, toP, toPL_iceL ds]
  | .dK _ k ds => rfl
  | .dT _ k ds => rfl
  | .dN _ k ds => rfl
  | .obj _ k f ds => rfl
theorem toPL_iceL : ∀ ds : List D, toPL (iceL ds) = toPL ds
  | [] => rfl
  | d :: ds => by simp only [iceL_cons, toPL, toP_ice d, toPL_iceL ds]
end
def good (n : Nat) (d : D) : Bool := match toP d with
  | some p => p.canLay0 && decide (p.depth ≤ n)
  | none => false
@[simp] theorem good_non {n} : good n .non = true := by simp [good, toP, PyData.canLay0, PyData.depth]
@[simp] theorem good_bl {n b} : good n (.bl b) = true := by simp [good, toP, PyData.canLay0, PyData.depth]
@[simp] theorem good_int {n b} : good n (.int b) = true := by simp [good, toP, PyData.canLay0, PyData.depth]
@[simp] theorem eqB_int {a b : Int} : eqB (.int a) (.int b) = some (a == b) := by simp [eqB, toP, SeqAt.shaped, PyData.canLay0, PyData.depth, PyData.eqv]
@[simp] theorem eqD_int {a b : Int} : eqD (.int a) (.int b) = some (.bl (a == b)) := by simp [eqD]
@[simp] theorem neD_int {a b : Int} : neD (.int a) (.int b) = some (.bl (a != b)) := by simp [neD, bne]
@[simp] theorem good_str {n : Nat} {b : List Nat} : good n (.str b) = b.all (fun k => decide (k < 0x110000)) := by
  simp [good, toP, PyData.canLay0, PyData.depth, PyData.strOk]
@[simp] theorem add_int {a b : Int} : addD (.int a) (.int b) = some (.int (a + b)) := (rfl)
@[simp] theorem sub_int {a b : Int} : subD (.int a) (.int b) = some (.int (a - b)) := (rfl)
@[simp] theorem add_str {a b : List Nat} : addD (.str a) (.str b) = if a.length + b.length ≤ LIM then some (.str (a ++ b)) else none := (rfl)
@[simp] theorem add_lst {o p : Bool} {a b : List D} : addD (.lst o a) (.lst p b) = if (frzL a && frzL b) = true ∧ a.length + b.length ≤ LIM then some (.lst true (a ++ b)) else none := (rfl)
@[simp] theorem add_tup {a b : List D} : addD (.tup a) (.tup b) = if (frzL a && frzL b) = true ∧ a.length + b.length ≤ LIM then some (.tup (a ++ b)) else none := (rfl)
@[simp] theorem mul_int {a b : Int} : mulD (.int a) (.int b) = if (-(2 ^ 64) < a ∧ a < 2 ^ 64) ∨ (-(2 ^ 64) < b ∧ b < 2 ^ 64) then some (.int (a * b)) else none := (rfl)
@[simp] theorem mul_lst {o : Bool} {a : List D} {k : Int} : mulD (.lst o a) (.int k) = if frzL a = true ∧ k ≤ 1000000 ∧ -1000000 ≤ k ∧ a.length * k.toNat ≤ LIM then some (.lst true (List.replicate k.toNat a).flatten) else none := (rfl)
@[simp] theorem mul_str {a : List Nat} {k : Int} : mulD (.str a) (.int k) = if k ≤ 1000000 ∧ -1000000 ≤ k ∧ a.length * k.toNat ≤ LIM then some (.str (List.replicate k.toNat a).flatten) else none := (rfl)
@[simp] theorem fdiv_int {a b : Int} : fdivD (.int a) (.int b) = if 0 < b ∧ b.natAbs.log2 < 9000 then some (.int (a / b)) else none := (rfl)
@[simp] theorem mod_int {a b : Int} : modD (.int a) (.int b) = if 0 < b then some (.int (a % b)) else none := (rfl)
@[simp] theorem pow_int {a b : Int} : powD (.int a) (.int b) = if 0 ≤ b ∧ b ≤ 1000000 ∧ a.natAbs < 2 ^ 64 then some (.int (a ^ b.toNat)) else none := (rfl)
@[simp] theorem neg_int {a : Int} : negD (.int a) = some (.int (-a)) := (rfl)
@[simp] theorem lt_int {a b : Int} : ltD (.int a) (.int b) = some (.bl (decide (a < b))) := (rfl)
@[simp] theorem le_int {a b : Int} : leD (.int a) (.int b) = some (.bl (decide (a ≤ b))) := (rfl)
@[simp] theorem gt_int {a b : Int} : gtD (.int a) (.int b) = some (.bl (decide (b < a))) := (rfl)
@[simp] theorem ge_int {a b : Int} : geD (.int a) (.int b) = some (.bl (decide (b ≤ a))) := (rfl)
@[simp] theorem lt_str {a b : List Nat} : ltD (.str a) (.str b) = some (.bl (decide (a < b))) := (rfl)
@[simp] theorem le_str {a b : List Nat} : leD (.str a) (.str b) = some (.bl (!decide (b < a))) := (rfl)
@[simp] theorem ix_lst {o : Bool} {ds : List D} {i : Int} : ixD (.lst o ds) (.int i) = atI ds i := (rfl)
@[simp] theorem ix_tup {ds : List D} {i : Int} : ixD (.tup ds) (.int i) = atI ds i := (rfl)
@[simp] theorem ix_scr {ds : List Int} {i : Int} : ixD (.scr ds) (.int i) = (atI ds i).map .int := (rfl)
@[simp] theorem ix_str {s : List Nat} {i : Int} : ixD (.str s) (.int i) = if s.length ≤ LIM then (atI s i).map fun k => .str [k] else none := (rfl)
theorem atI_at {α : Type} {xs : List α} {i : Int} (h : 0 ≤ i) (hl : i.toNat < xs.length) : atI xs i = some (xs[i.toNat]) := by
  unfold atI ixN
  have h1 : ¬ i < 0 := by omega
  have h2 : i < xs.length := by omega
  simp [h1, h, h2, hl]
@[simp] theorem atI_0 {α : Type} {x : α} {xs : List α} : atI (x :: xs) 0 = some x := by rw [atI_at (by omega) (by simp)]; rfl
@[simp] theorem atI_1 {α : Type} {x y : α} {xs : List α} : atI (x :: y :: xs) 1 = some y := by rw [atI_at (by omega) (by simp)]; rfl
@[simp] theorem atI_2 {α : Type} {x y z : α} {xs : List α} : atI (x :: y :: z :: xs) 2 = some z := by rw [atI_at (by omega) (by simp)]; rfl
@[simp] theorem atI_3 {α : Type} {x y z u : α} {xs : List α} : atI (x :: y :: z :: u :: xs) 3 = some u := by rw [atI_at (by omega) (by simp)]; rfl
@[simp] theorem atI_4 {α : Type} {x y z u v : α} {xs : List α} : atI (x :: y :: z :: u :: v :: xs) 4 = some v := by rw [atI_at (by omega) (by simp)]; rfl
@[simp] theorem len_tup {ds : List D} : lenD [.tup ds] = some (.int ds.length) := (rfl)
@[simp] theorem len_lst {o : Bool} {ds : List D} : lenD [.lst o ds] = some (.int ds.length) := (rfl)
@[simp] theorem len_scr {ds : List Int} : lenD [.scr ds] = some (.int ds.length) := (rfl)
@[simp] theorem len_dK {o k ds} : lenD [.dK o k ds] = some (.int k.length) := (rfl)
@[simp] theorem len_str {s : List Nat} : lenD [.str s] = if s.length ≤ LIM then some (.int s.length) else none := (rfl)
@[simp] theorem max2_int {i j : Int} : max2D [.int i, .int j] = some (.int (if j > i then j else i)) := (rfl)
@[simp] theorem min2_int {i j : Int} : min2D [.int i, .int j] = some (.int (if j < i then j else i)) := (rfl)
@[simp] theorem intD_int {i : Int} : intD [.int i] = some (.int i) := (rfl)
@[simp] theorem intD_bl {b : Bool} : intD [.bl b] = some (.int (if b then 1 else 0)) := (rfl)
@[simp] theorem sum_lst {o : Bool} {ds : List D} : sumD [.lst o ds] = (intsD ds).map fun is => .int is.sum := (rfl)
@[simp] theorem ints_nil : intsD [] = some [] := (rfl)
@[simp] theorem ints_cons {i : Int} {ds : List D} : intsD (.int i :: ds) = (intsD ds).map fun is => i :: is := (rfl)
@[simp] theorem ints_map {α : Type} {f : α → Int} : ∀ {xs : List α}, intsD (xs.map fun x => .int (f x)) = some (xs.map f)
  | [] => rfl
  | x :: xs => by simp [ints_map (xs := xs)]
@[simp] theorem list_lst {o : Bool} {ds : List D} : listD [.lst o ds] = if frzL ds = true then some (.lst true ds) else none := (rfl)
@[simp] theorem list_tup {ds : List D} : listD [.tup ds] = if frzL ds = true then some (.lst true ds) else none := (rfl)
@[simp] theorem list_scr {ns : List Int} : listD [.scr ns] = some (.lst true (ns.map .int)) := (rfl)
@[simp] theorem tru_bl {b : Bool} : truD (.bl b) = some b := (rfl)
@[simp] theorem tru_non : truD .non = some false := (rfl)
@[simp] theorem tru_int {i : Int} : truD (.int i) = some (i != 0) := (rfl)
@[simp] theorem tru_str {s : List Nat} : truD (.str s) = if s.length ≤ LIM then some (!s.isEmpty) else none := (rfl)
@[simp] theorem tru_tup {s : List D} : truD (.tup s) = some (!s.isEmpty) := (rfl)
@[simp] theorem tru_lst {o : Bool} {s : List D} : truD (.lst o s) = some (!s.isEmpty) := (rfl)
@[simp] theorem tru_scr {s : List Int} : truD (.scr s) = some (!s.isEmpty) := (rfl)
@[simp] theorem ty_non : tyD .non = some "NoneType" := (rfl)
@[simp] theorem ty_bl {b} : tyD (.bl b) = some "bool" := (rfl)
@[simp] theorem ty_int {b} : tyD (.int b) = some "int" := (rfl)
@[simp] theorem ty_str {b} : tyD (.str b) = some "str" := (rfl)
@[simp] theorem ty_scr {b} : tyD (.scr b) = some "list" := (rfl)
@[simp] theorem ty_lst {o b} : tyD (.lst o b) = some "list" := (rfl)
@[simp] theorem ty_tup {b} : tyD (.tup b) = some "tuple" := (rfl)
@[simp] theorem ty_dK {o k b} : tyD (.dK o k b) = some "dict" := (rfl)
@[simp] theorem ty_dT {o k b} : tyD (.dT o k b) = some "dict" := (rfl)
@[simp] theorem in_1 {k : Nat} {z : List Nat} : inB (.str [k]) (.str z) = some (decide (k ∈ z)) := (rfl)
@[simp] theorem inD_eq {x y : D} : inD x y = (inB x y).map .bl := (rfl)
@[simp] theorem ninD_eq {x y : D} : ninD x y = (inB x y).map fun k => .bl (!k) := (rfl)
@[simp] theorem itemsV_lst {o : Bool} {ds : List D} : itemsV (.lst o ds) = if frzL ds = true then some ds else none := (rfl)
@[simp] theorem itemsV_tup {ds : List D} : itemsV (.tup ds) = if frzL ds = true then some ds else none := (rfl)
@[simp] theorem itemsV_scr {ds : List Int} : itemsV (.scr ds) = some (ds.map .int) := (rfl)
@[simp] theorem itemsV_str {s : List Nat} : itemsV (.str s) = some (s.map fun k => .str [k]) := (rfl)
@[simp] theorem items_lst {ds : List D} : itemsD (.lst false ds) = if frzL ds = true then some ds else none := (rfl)
@[simp] theorem items_tup {ds : List D} : itemsD (.tup ds) = if frzL ds = true then some ds else none := (rfl)
@[simp] theorem items_scr {ds : List Int} : itemsD (.scr ds) = some (ds.map .int) := (rfl)
@[simp] theorem items_str {s : List Nat} : itemsD (.str s) = some (s.map fun k => .str [k]) := (rfl)
@[simp] theorem lstD_lst {ds : List D} : lstD (.lst false ds) = if frzL ds = true then some ds else none := (rfl)
@[simp] theorem lstD_scr {ds : List Int} : lstD (.scr ds) = some (ds.map .int) := (rfl)
@[simp] theorem sl_lst {o : Bool} {lo hi : Option Int} {ds : List D} : slD lo hi (.lst o ds) = if frzL ds = true then some (.lst true (cutL ds lo hi)) else none := (rfl)
@[simp] theorem sl_tup {lo hi : Option Int} {ds : List D} : slD lo hi (.tup ds) = if frzL ds = true then some (.tup (cutL ds lo hi)) else none := (rfl)
@[simp] theorem sl_scr {lo hi : Option Int} {ds : List Int} : slD lo hi (.scr ds) = some (.lst true ((cutL ds lo hi).map .int)) := (rfl)
@[simp] theorem sl_str {lo hi : Option Int} {ds : List Nat} : slD lo hi (.str ds) = if ds.length ≤ LIM then some (.str (cutL ds lo hi)) else none := (rfl)
theorem cut_to {α : Type} {xs : List α} {k : Int} (h : 0 ≤ k) : cutL xs none (some k) = xs.take k.toNat := by
  have : HT.sIx xs.length xs.length (some k) = min k.toNat xs.length := by
    unfold HT.sIx
    split <;> rename_i e <;> cases e <;> first | omega | (simp; omega) | skip
  unfold cutL
  rw [this]
  have e0 : HT.sIx xs.length 0 none = 0 := rfl
  rw [e0, List.drop_zero, Nat.sub_zero]
  rcases Nat.le_total k.toNat xs.length with q | q
  · rw [Nat.min_eq_left q]
  · rw [Nat.min_eq_right q, List.take_length, List.take_of_length_le q]
theorem cut_from {α : Type} {xs : List α} {k : Int} (h : 0 ≤ k) : cutL xs (some k) none = xs.drop k.toNat := by
  have : HT.sIx xs.length 0 (some k) = min k.toNat xs.length := by
    unfold HT.sIx
    split <;> rename_i e <;> cases e <;> first | omega | (simp; omega) | skip
  unfold cutL
  rw [this]
  have e0 : HT.sIx xs.length xs.length none = xs.length := rfl
  rw [e0]
  rcases Nat.le_total k.toNat xs.length with q | q
  · rw [Nat.min_eq_left q]; exact List.take_of_length_le (by simp)
  · rw [Nat.min_eq_right q]; simp [List.drop_of_length_le q]
theorem seq_nx {a b : SM} {ρ ρ1 : List D} (h : a ρ = some (.nx, ρ1)) : seqM a b ρ = b ρ1 := by simp [seqM, h]
theorem seq_rt {a b : SM} {ρ ρ1 : List D} {d : D} (h : a ρ = some (.rt d, ρ1)) : seqM a b ρ = some (.rt d, ρ1) := by simp [seqM, h]
theorem run_eq {n : Nat} {kp : List Bool} {m : SM} {ds ρ' : List D} {d : D} (hl : ds.length = kp.length) (h : m (ds ++ List.replicate (n - ds.length) .gone) = some (.rt d, ρ')) : runM n kp m ds = some (d, maskL kp ρ') := by unfold runM; rw [if_pos hl, h]; rfl
section
variable {f : TgM} {body : SM} {kl : List Nat}
end

end LI

namespace LI
open PySem L2

theorem upD_eq (lo : Int) (n : Nat) : upD lo n = (List.range n).map fun (k : Nat) => D.int (lo + (k : Int)) := rfl
theorem for_at {f : TgM} {body : SM} {kl : List Nat} {ms : AM} {ρ ds : List D} (h : ms ρ = some ds) : forM f body kl ms ρ = forL f body kl ds ρ := by
  unfold forM; rw [h]; rfl
def cellF : FM := runM 2 [true, true] (seqM (ifM (bM (m2 ltD (vM 1) (mA lenD (consM (vM 0) nilM)))) (retM (upR (m2 ixD (vM 0) (vM 1)))) skipM)
  (retM (upF (kM (.int 0)))))
theorem cell_eq (ns : List Int) (k : Nat) : cellF [.scr ns, .int k] = some (.int (ns.getD k 0), [.scr ns, .int k]) := by
  unfold cellF
  refine run_eq (ρ' := [.scr ns, .int k]) rfl ?_
  by_cases h : k < ns.length
  · refine seq_rt ?_
    simp -implicitDefEqProofs [ifM, retM, h, atI_at, List.getD_eq_getElem?_getD]
  · rw [seq_nx (ρ1 := [.scr ns, .int k]) (by simp -implicitDefEqProofs [ifM, skipM, h])]
    simp -implicitDefEqProofs [retM, h, List.getD_eq_getElem?_getD]
theorem upD0 (n : Nat) : upD 0 n = (List.range n).map fun (k : Nat) => D.int (k : Int) := by
  rw [upD_eq]; simp
theorem atI_nat {α : Type} {xs : List α} {k : Nat} (h : k < xs.length) : atI xs (k : Int) = some xs[k] := atI_at (by omega) (by simpa using h)
theorem if_F {mc : BM} {a b : SM} {ρ : List D} (h : mc ρ = some false) : ifM mc a b ρ = b ρ := by unfold ifM; rw [h]; rfl
theorem if_T {mc : BM} {a b : SM} {ρ : List D} (h : mc ρ = some true) : ifM mc a b ρ = a ρ := by unfold ifM; rw [h]; rfl
@[simp] theorem kit_int_int : kitB "int" "int" = some true := by decide +kernel
@[simp] theorem kit_int_bool : kitB "int" "bool" = some false := by decide +kernel
@[simp] theorem kit_int_str : kitB "int" "str" = some false := by decide +kernel
@[simp] theorem kit_int_list : kitB "int" "list" = some false := by decide +kernel
@[simp] theorem kit_int_tuple : kitB "int" "tuple" = some false := by decide +kernel
@[simp] theorem kit_int_dict : kitB "int" "dict" = some false := by decide +kernel
@[simp] theorem kit_bool_int : kitB "bool" "int" = some true := by decide +kernel
@[simp] theorem kit_bool_bool : kitB "bool" "bool" = some true := by decide +kernel
@[simp] theorem kit_bool_str : kitB "bool" "str" = some false := by decide +kernel
@[simp] theorem kit_bool_list : kitB "bool" "list" = some false := by decide +kernel
@[simp] theorem kit_bool_tuple : kitB "bool" "tuple" = some false := by decide +kernel
@[simp] theorem kit_bool_dict : kitB "bool" "dict" = some false := by decide +kernel
@[simp] theorem kit_str_int : kitB "str" "int" = some false := by decide +kernel
@[simp] theorem kit_str_bool : kitB "str" "bool" = some false := by decide +kernel
@[simp] theorem kit_str_str : kitB "str" "str" = some true := by decide +kernel
@[simp] theorem kit_str_list : kitB "str" "list" = some false := by decide +kernel
@[simp] theorem kit_str_tuple : kitB "str" "tuple" = some false := by decide +kernel
@[simp] theorem kit_str_dict : kitB "str" "dict" = some false := by decide +kernel
@[simp] theorem kit_list_int : kitB "list" "int" = some false := by decide +kernel
@[simp] theorem kit_list_bool : kitB "list" "bool" = some false := by decide +kernel
@[simp] theorem kit_list_str : kitB "list" "str" = some false := by decide +kernel
@[simp] theorem kit_list_list : kitB "list" "list" = some true := by decide +kernel
@[simp] theorem kit_list_tuple : kitB "list" "tuple" = some false := by decide +kernel
@[simp] theorem kit_list_dict : kitB "list" "dict" = some false := by decide +kernel
@[simp] theorem kit_tuple_int : kitB "tuple" "int" = some false := by decide +kernel
@[simp] theorem kit_tuple_bool : kitB "tuple" "bool" = some false := by decide +kernel
@[simp] theorem kit_tuple_str : kitB "tuple" "str" = some false := by decide +kernel
@[simp] theorem kit_tuple_list : kitB "tuple" "list" = some false := by decide +kernel
@[simp] theorem kit_tuple_tuple : kitB "tuple" "tuple" = some true := by decide +kernel
@[simp] theorem kit_tuple_dict : kitB "tuple" "dict" = some false := by decide +kernel
@[simp] theorem kit_dict_int : kitB "dict" "int" = some false := by decide +kernel
@[simp] theorem kit_dict_bool : kitB "dict" "bool" = some false := by decide +kernel
@[simp] theorem kit_dict_str : kitB "dict" "str" = some false := by decide +kernel
@[simp] theorem kit_dict_list : kitB "dict" "list" = some false := by decide +kernel
@[simp] theorem kit_dict_tuple : kitB "dict" "tuple" = some false := by decide +kernel
@[simp] theorem kit_dict_dict : kitB "dict" "dict" = some true := by decide +kernel
@[simp] theorem kit_NoneType_int : kitB "NoneType" "int" = some false := by decide +kernel
@[simp] theorem kit_NoneType_bool : kitB "NoneType" "bool" = some false := by decide +kernel
@[simp] theorem kit_NoneType_str : kitB "NoneType" "str" = some false := by decide +kernel
@[simp] theorem kit_NoneType_list : kitB "NoneType" "list" = some false := by decide +kernel
@[simp] theorem kit_NoneType_tuple : kitB "NoneType" "tuple" = some false := by decide +kernel
@[simp] theorem kit_NoneType_dict : kitB "NoneType" "dict" = some false := by decide +kernel
@[simp] theorem lim_ge (n : Nat) : (OfNat.ofNat n : Nat) ≤ LIM ↔ n ≤ 4000000 := Iff.rfl
@[simp] theorem lim_0 : 0 ≤ LIM := by decide
@[simp] theorem lim_1 : 1 ≤ LIM := by decide
end LI

namespace LI
open PySem L2

section
variable {X : Cx} {cl : Nat → Addr} {E : En} {e e0 a b o tg : Expr} {es : List Expr} {pos pos' p apos : Pos} {m mo ma mb : RM} {g : GM} {ms : AM} {n : Nat} {f nm x : Str} {L : Lens} {σ : L2.St}
def frzM (i : Nat) (m : SM) : SM := fun ρ => m (iceAt i ρ)
theorem s_frz (i : Nat) {m : SM} {sts : List Stmt} (h : PSs X sts (tS ⟨X.K, cl, X.w⟩ E m)) : PSs X sts (tS ⟨X.K, cl, X.w⟩ E (frzM i m)) := PSs_imp h fun D σ H ⟨P, S, ρ, fl, ρ', w, hm, q⟩ => by
  obtain ⟨P', S', w', ex⟩ := w.iceAt i
  exact ⟨P', S', _, fl, ρ', w', hm, q.mono ex⟩
theorem lst_upd {c : LC} {P H : Hp} {S T : FP} {ρ : List D} {v : V} {ds : List D} {Sd R : FP} (w : Wd c E P S T σ H ρ) (l : Loc c L P H σ ρ S v (.lst true ds) Sd R) (hz : frzL ds = true) : ∃ a xs, v = .ref a ∧ H a = some (.lst xs) ∧ RepL c P H ds xs fz ∧
    ∀ (ys : List V) (es : List D), (∀ H', RepL c P H' es ys fz) → ∃ S', Wd c E P S' T σ (upd H a (.lst ys)) (L.put ρ (.lst true es)) ∧ ∀ b u, 0 < T b → H b = some u → upd H a (.lst ys) b = some u := by
  have w' : Wd c E P S (fa T fz) σ H ρ := by rw [fa_fz]; exact w
  obtain ⟨a, xs, T1, e1, hh, rl, hS, k⟩ := loc_lst w' l
  have z := RepL.frz0 ds xs T1 hz rl
  subst z
  refine ⟨a, xs, e1, hh, rl, fun ys es hr => ?_⟩
  have w2 := k ys es fz fz (hr _) fun b => by simp only [fz]; omega
  rw [fa_fz] at w2
  refine ⟨_, w2, fun b u hb hu => ?_⟩
  have : b ≠ a := fun q => by
    subst q
    have := w.le b; have := l.sum b; have := hS b
    simp [one] at *; omega
  rw [upd_ne this]; exact hu
theorem repL_any {c : LC} {P H : Hp} {ds : List D} {xs : List V} (r : RepL c P H ds xs fz) : ∀ H', RepL c P H' ds xs fz := fun H' => RepL.mono (.refl _) ds xs fz (fun a o h => by simp [fz] at h) r
theorem repL_set {c : LC} {P H : Hp} {ds : List D} {xs : List V} {i : Nat} {d : D} {v : V} (r : RepL c P H ds xs fz) (h : i < ds.length) (hv : Rep c P H d v fz) : RepL c P H (ds.set i d) (xs.set i v) fz := by
  obtain ⟨v0, Sd, R, h1, h2, h3, h4⟩ := r.focus (List.getElem?_eq_getElem h)
  have : R = fz := by funext b; have := h3 b; simp only [fz] at this ⊢; omega
  subst this
  have := h4 P H d v fz (.refl _) (fun _ _ h => by simp [fz] at h) hv
  rwa [fa_fz] at this
end
end LI

namespace LI
open PySem L2

section
variable {X : Cx} {cl : Nat → Addr} {E : En} {e e0 a b o i tg : Expr} {es : List Expr} {pos pos' p apos : Pos} {m mo ma mb mi : RM} {g : GM} {ms ms1 ms2 : AM} {n : Nat} {f nm x : Str} {L : Lens} {σ : L2.St} {CX : CXT} {k : Nat} {fad : Addr} {fd : FuncData} {ps : List Str} {F : FM} {XE : XK}
def storeM (L : Lens) (mi : RM) (g : GM) : SM := fun ρ => (g ρ).bind fun r => (L.get r.2).bind fun l => (mi r.2).bind fun k => match l, k with
  | .lst true ds, .int j => if frzL ds = true ∧ frz r.1 = true then (ixN ds.length j).map fun j => (.nx, L.put r.2 (.lst true (ds.set j r.1))) else none
  | _, _ => none
theorem store_split {ρ : List D} {r : Fl × List D} (h : storeM L mi g ρ = some r) : ∃ d ρ1 ds k j, g ρ = some (d, ρ1) ∧ L.get ρ1 = some (.lst true ds) ∧ mi ρ1 = some (.int k) ∧ frzL ds = true ∧ frz d = true ∧ ixN ds.length k = some j ∧ r = (.nx, L.put ρ1 (.lst true (ds.set j d))) := by
  unfold storeM at h
  cases e1 : g ρ with
  | none => rw [e1] at h; cases h
  | some r1 =>
    obtain ⟨d, ρ1⟩ := r1
    rw [e1, Option.bind_some] at h
    dsimp only at h
    cases e2 : L.get ρ1 with
    | none => rw [e2] at h; cases h
    | some l =>
      cases e3 : mi ρ1 with
      | none => rw [e2, e3] at h; cases h
      | some k =>
        rw [e2, e3, Option.bind_some, Option.bind_some] at h
        split at h
        · rename_i ds j
          split at h
          · rename_i hc
            cases e4 : ixN ds.length j with
            | none => rw [e4] at h; cases h
            | some j' => rw [e4] at h; cases h; exact ⟨d, ρ1, ds, j, j', rfl, e2, e3, hc.1, hc.2, e4, rfl⟩
          · cases h
        · cases h
theorem ixN_lt {n : Nat} {i : Int} {j : Nat} (h : ixN n i = some j) : j < n := (ixN_seq h).2.1
theorem s_store (he : PE X e (tG ⟨X.K, cl, X.w⟩ E g)) (ho : PE X o (tPl ⟨X.K, cl, X.w⟩ E L)) (hi : PE X i (tR ⟨X.K, cl, X.w⟩ E mi)) (hs : swapsWithSole [.Subscript o i pos'] e pos.line X.env = pure false := by rfl) (hw : swappedStores [.Subscript o i pos'] e X.env = pure none := by rfl)
    (h1 : (assignEach [.Subscript o i pos'] X.env).map (·.2) = [assign (.Subscript o i pos') X.env] := by rfl)
    (hsub : ∀ v, assign (.Subscript o i pos') X.env v = (do
      let ov ← holding [v] (eval o X.env)
      let iv ← holding [v, ov] (eval i X.env)
      standAt pos'
      holding [v, ov, iv] (setItem ov iv v)
      release [v, ov, iv] []) := by intro _; rfl) : PS X (.Assign [.Subscript o i pos'] e pos) (tS ⟨X.K, cl, X.w⟩ E (storeM L mi g)) :=
  PS_imp (ps_asg he (pg_sub ho hi set_list hsub) hs hw h1) fun D σ H ⟨P, S, ρ, fl, ρ', w, hm, q⟩ => by
    obtain ⟨d, ρ1, ds, k, j, eg, el, ei, hz, hd, hj, e3⟩ := store_split hm
    cases e3
    refine g_run w eg fun y H1 P1 S1 U w1 ex r1 => ?_
    have hU := Rep.frz0 d y U hd r1
    subst hU
    refine ⟨P1, S1, fz, ρ1, _, w1, el, fun v Sd R l => ?_⟩
    refine ⟨P1, S1, fz, ρ1, _, w1, ei, fun iv H2 P2 U2 g2 r2 => ?_⟩
    obtain ⟨a, xs, ev, hh, rl, kk⟩ := lst_upd (w1.grow g2) (l.grow g2) hz
    have hjl := ixN_lt hj
    obtain ⟨S', w2, kT⟩ := kk (xs.set j y) (ds.set j d) fun H' => repL_set (repL_any rl H') hjl (Rep.mono g2.p d y fz (fun _ _ h => by simp [fz] at h) r1)
    refine ⟨a, xs, k, j, ev, r2.1, hh, by rw [← rl.length]; exact hj, ?_⟩
    exact q σ _ P2 S' w2 (ex.trans g2.p)
end
end LI

namespace LI
open PySem L2

section
variable {X : Cx} {cl : Nat → Addr} {E : En} {e a b o i : Expr} {pos p apos cpos : Pos} {g ga gb : GM} {m ma mb mc mk mv : RM} {r : R2} {f : D → D → Option D}
end
end LI

namespace LI
open PySem L2

section
variable {c : LC} {P H : Hp}
end
section
variable {X : Cx} {cl : Nat → Addr} {E : En} {e a b o i f0 : Expr} {pos p apos cpos pos' : Pos} {m ma mb mc mk mv mi : RM} {g : GM} {L : Lens}
end
end LI

namespace LI
open PySem L2

theorem Wd.iceL {c : LC} {P H : Hp} {S T : FP} {σ : L2.St} {ρ : List D} {L : Lens} {v : V} {d : D} {Sd R : FP} (w : Wd c E P S T σ H ρ) (l : Loc c L P H σ ρ S v d Sd R) : ∃ P' S', Wd c E P' S' T σ H (L.put ρ (ice d)) ∧ Ex P P' := by
  have h1 := l.sum
  have hP : ∀ a, 0 < Sd a → P a = none := fun a z => w.out a (by have := h1 a; omega)
  have ex : Ex P (fun a => if 0 < Sd a then H a else P a) := fun a o z => by
    by_cases hu : 0 < Sd a
    · rw [hP a hu] at z; cases z
    · simp [hu, z]
  have hr : Rep c (fun a => if 0 < Sd a then H a else P a) H (ice d) v fz := Rep.ice ex d v Sd (fun a o z1 z2 => by simp [z1, z2]) l.rep
  have henv := l.put _ H _ fz ex (fun _ _ _ h => h) hr
  rw [fz_fa] at henv
  refine ⟨fun a => if 0 < Sd a then H a else P a, R, ⟨henv, fun a => ?_, fun a z => ?_, w.th, fun a o z => ?_, w.p0.trans ex, w.fr, fun a z => ?_, fun a z => w.ns a (by have := h1 a; omega), w.kp⟩, ex⟩
  · have := w.le a; have := h1 a; omega
  · have l2 := w.le a; have s := h1 a
    have hu : ¬ 0 < Sd a := by omega
    simp only [hu, if_false]
    exact w.out a (by omega)
  · by_cases hu : 0 < Sd a
    · simpa [hu] using z
    · exact w.ph a o (by simpa [hu] using z)
  · by_cases hu : 0 < Sd a
    · exact .inr (w.ns a (by have := h1 a; omega))
    · exact w.np a (by simpa [hu] using z)
abbrev AGM := List D → Option (List D × List D)
section
variable {X : Cx} {cl : Nat → Addr} {E : En} {e : Expr} {es : List Expr} {pos p : Pos} {g : GM} {ms : AGM} {CX : CXT} {k : Nat} {f : Addr} {fd : FuncData} {ps : List Str} {F : FM} {XE : XK} {x : Str}
end
end LI

namespace LI
open PySem L2

section
variable {X : Cx} {cl : Nat → Addr} {E : En} {e a b : Expr} {pos : Pos} {m ma mb mi : RM} {L : Lens}
end
end LI
namespace LI
open PySem L2
section
variable {X : Cx} {cl : Nat → Addr} {E : En} {e : Expr} {es : List Expr} {pos p : Pos} {g : GM} {ms : AGM}
end
end LI

namespace LI
open PySem L2

section
variable {X : Cx} {cl : Nat → Addr} {E : En} {e a b o i : Expr} {es : List Expr} {pos p apos : Pos} {m ma mb : RM} {ms : AM} {L : Lens}
theorem FQ.key {c : LC} {P H : Hp} {Q : VK} {ks : List Key} (h : FQ c P H (.key ks) Q) (e : Ex P H) : ∀ p, H p = none → Q (.ref p) (upd H p (.tup (ks.map kV))) := fun p hp => by
  have hP := none_of e hp
  refine h _ _ (upd P p (.tup (ks.map kV))) fz ⟨ex_new hP, ex_new hp, fun a o z => ?_, fun a z => ?_⟩ ⟨p, rfl, upd_same, rfl⟩ (fun _ => Nat.zero_le _) (fun a z => by simp [fz] at z)
  · by_cases q : a = p
    · subst q; rw [upd_same] at z ⊢; exact z
    · rw [upd_ne q] at z ⊢; exact e a o z
  · by_cases q : a = p
    · subst q; exact .inr hp
    · rw [upd_ne q] at z; exact .inl z
end
end LI

namespace LI
open PySem L2

abbrev Ts := List Char
def eU : Unit → D := fun _ => .non
def eI : Int → D := .int
def eB : Bool → D := .bl
def eS (s : Ts) : D := .str (s.map Char.toNat)
def eC : List Int → D := .scr
def eK (ss : List Ts) : D := .kst (ss.map fun s => s.map Char.toNat)
def eO {α : Type} (e : α → D) : Option α → D
  | none => .non
  | some x => e x
def eL {α : Type} (o : Bool) (e : α → D) (xs : List α) : D := .lst o (xs.map e)
def e1 {α : Type} (a : α → D) (t : α) : D := .tup [a t]
def e2 {α β : Type} (a : α → D) (b : β → D) (t : α × β) : D := .tup [a t.1, b t.2]
def e3 {α β γ : Type} (a : α → D) (b : β → D) (c : γ → D) (t : α × β × γ) : D := .tup [a t.1, b t.2.1, c t.2.2]
def e4 {α β γ δ : Type} (a : α → D) (b : β → D) (c : γ → D) (d : δ → D) (t : α × β × γ × δ) : D := .tup [a t.1, b t.2.1, c t.2.2.1, d t.2.2.2]
def e5 {α β γ δ ε : Type} (a : α → D) (b : β → D) (c : γ → D) (d : δ → D) (e : ε → D) (t : α × β × γ × δ × ε) : D := .tup [a t.1, b t.2.1, c t.2.2.1, d t.2.2.2.1, e t.2.2.2.2]
def e6 {α β γ δ ε ζ : Type} (a : α → D) (b : β → D) (c : γ → D) (d : δ → D) (e : ε → D) (f : ζ → D) (t : α × β × γ × δ × ε × ζ) : D := .tup [a t.1, b t.2.1, c t.2.2.1, d t.2.2.2.1, e t.2.2.2.2.1, f t.2.2.2.2.2]
structure An where
  d : D
  ng : notGone d = true
  fz : frz d = true
def eA (a : An) : D := a.d

class Ng {α : Type} (e : α → D) : Prop where
  ng : ∀ x, notGone (e x) = true
class Fz {α : Type} (e : α → D) : Prop where
  fz : ∀ x, frz (e x) = true
class Ic {α : Type} (e : α → D) (e' : outParam (α → D)) : Prop where
  ic : ∀ x, ice (e x) = e' x
class Nic {α : Type} (e : α → D) : Prop where
  ni : ∀ x, noIce (e x) = true
section
variable {α β γ δ ε ζ : Type} {a : α → D} {b : β → D} {c : γ → D} {d : δ → D} {e : ε → D} {f : ζ → D} {a' : α → D} {b' : β → D} {c' : γ → D} {d' : δ → D} {e' : ε → D} {f' : ζ → D} {o : Bool}
instance : Ng eU := ⟨fun _ => rfl⟩
instance : Ng eI := ⟨fun _ => rfl⟩
instance : Ng eB := ⟨fun _ => rfl⟩
instance : Ng eS := ⟨fun _ => rfl⟩
instance : Ng eC := ⟨fun _ => rfl⟩
instance [Ng a] : Ng (eO a) := ⟨fun x => by cases x with | none => rfl | some x => exact Ng.ng x⟩
instance : Ng (eL o a) := ⟨fun _ => rfl⟩
instance : Ng (e1 a) := ⟨fun _ => rfl⟩
instance : Ng (e3 a b c) := ⟨fun _ => rfl⟩
instance : Ng (e4 a b c d) := ⟨fun _ => rfl⟩
instance : Ng (e5 a b c d e) := ⟨fun _ => rfl⟩
instance : Ng (e6 a b c d e f) := ⟨fun _ => rfl⟩
instance : Ng eA := ⟨fun x => x.ng⟩
instance : Nic eB := ⟨fun _ => rfl⟩
instance : Fz eU := ⟨fun _ => rfl⟩
instance : Fz eI := ⟨fun _ => rfl⟩
instance : Fz eB := ⟨fun _ => rfl⟩
instance : Fz eS := ⟨fun _ => rfl⟩
instance : Fz eC := ⟨fun _ => rfl⟩
instance : Fz eA := ⟨fun x => x.fz⟩
theorem fz_map [Fz a] (xs : List α) : frzL (xs.map a) = true := frzL_map.mpr fun x _ => Fz.fz x
instance [Fz a] : Fz (eL false a) := ⟨fun x => by simp [eL, Fz.fz]⟩
instance [Fz a] : Fz (e1 a) := ⟨fun x => by simp [e1, Fz.fz]⟩
instance [Fz a] [Fz b] [Fz c] : Fz (e3 a b c) := ⟨fun x => by simp [e3, Fz.fz]⟩
instance [Fz a] [Fz b] [Fz c] [Fz d] : Fz (e4 a b c d) := ⟨fun x => by simp [e4, Fz.fz]⟩
instance [Fz a] [Fz b] [Fz c] [Fz d] [Fz e] : Fz (e5 a b c d e) := ⟨fun x => by simp [e5, Fz.fz]⟩
instance [Fz a] [Fz b] [Fz c] [Fz d] [Fz e] [Fz f] : Fz (e6 a b c d e f) := ⟨fun x => by simp [e6, Fz.fz]⟩
instance : Ic eU eU := ⟨fun _ => rfl⟩
instance : Ic eI eI := ⟨fun _ => rfl⟩
instance : Ic eB eB := ⟨fun _ => rfl⟩
instance : Ic eS eS := ⟨fun _ => rfl⟩
instance : Ic eC eC := ⟨fun _ => rfl⟩
instance : Ic eA eA := ⟨fun x => ice_frz _ x.fz⟩
instance [Ic a a'] : Ic (eO a) (eO a') := ⟨fun x => by cases x with | none => rfl | some x => exact Ic.ic x⟩
instance [Ic a a'] : Ic (eL o a) (eL false a') := ⟨fun x => by simp [eL, Ic.ic (e := a)]⟩
instance [Ic a a'] [Ic b b'] [Ic c c'] : Ic (e3 a b c) (e3 a' b' c') := ⟨fun x => by simp [e3, Ic.ic (e := a), Ic.ic (e := b), Ic.ic (e := c)]⟩
instance [Ic a a'] [Ic b b'] [Ic c c'] [Ic d d'] : Ic (e4 a b c d) (e4 a' b' c' d') := ⟨fun x => by simp [e4, Ic.ic (e := a), Ic.ic (e := b), Ic.ic (e := c), Ic.ic (e := d)]⟩
instance [Ic a a'] [Ic b b'] [Ic c c'] [Ic d d'] [Ic e e'] [Ic f f'] : Ic (e6 a b c d e f) (e6 a' b' c' d' e' f') := ⟨fun x => by simp [e6, Ic.ic (e := a), Ic.ic (e := b), Ic.ic (e := c), Ic.ic (e := d), Ic.ic (e := e), Ic.ic (e := f)]⟩
end

theorem toNat_lt (c : Char) : c.toNat < 1114112 := by
  rcases c.valid with h | ⟨_, h⟩
  · have : c.toNat < 55296 := h
    omega
  · exact h
theorem toNat_inj {a b : Char} (h : a.toNat = b.toNat) : a = b := Char.toNat_inj.mp h
class Pe {α : Type} (e : α → D) (n : outParam Nat) where
  p : α → PyData
  to : ∀ x, toP (e x) = some (p x)
  lay : ∀ x, (p x).canLay0 = true
  dep : ∀ x, (p x).depth ≤ n
  eq : ∀ x y, (p x).eqv (p y) = true ↔ x = y
instance : Pe eU 0 := ⟨fun _ => .none, fun _ => rfl, fun _ => by simp [PyData.canLay0], fun _ => by simp [PyData.depth], fun _ _ => by simp [PyData.eqv]⟩
instance : Pe eI 0 := ⟨.int, fun _ => rfl, fun _ => by simp [PyData.canLay0], fun _ => by simp [PyData.depth], fun _ _ => by simp [PyData.eqv]⟩
instance : Pe eB 0 := ⟨.bool, fun _ => rfl, fun _ => by simp [PyData.canLay0], fun _ => by simp [PyData.depth], fun _ _ => by simp [PyData.eqv]⟩
theorem ts_map_inj {x y : Ts} : x.map Char.toNat = y.map Char.toNat ↔ x = y :=
  ⟨fun h => List.map_inj_right (fun _ _ => toNat_inj) |>.mp h, fun h => by rw [h]⟩
instance : Pe eS 0 := ⟨fun s => .str ⟨(s.map Char.toNat).toArray⟩, fun _ => rfl, fun s => by
    simp [PyData.canLay0, PyData.strOk, toNat_lt], fun _ => by simp [PyData.depth], fun x y => by
    have : ((⟨(x.map Char.toNat).toArray⟩ : Str) == ⟨(y.map Char.toNat).toArray⟩) = (x.map Char.toNat == y.map Char.toNat) := str_beq _ _
    simp only [PyData.eqv, this, beq_iff_eq, ts_map_inj]⟩
theorem pe_toL {α : Type} {e : α → D} {n : Nat} [Pe e n] : ∀ xs : List α, toPL (xs.map e) = some (xs.map (Pe.p e))
  | [] => rfl
  | x :: xs => by simp [toPL, Pe.to (e := e) x, pe_toL xs]
theorem pe_lays {α : Type} {e : α → D} {n : Nat} [Pe e n] : ∀ xs : List α, PyData.canLayAll0 (xs.map (Pe.p e)) = true
  | [] => rfl
  | x :: xs => by simp [PyData.canLayAll0, Pe.lay (e := e) x, pe_lays xs]
theorem pe_deps {α : Type} {e : α → D} {n : Nat} [Pe e n] : ∀ xs : List α, PyData.depthAll (xs.map (Pe.p e)) ≤ n
  | [] => Nat.zero_le _
  | x :: xs => by have := Pe.dep (e := e) x; have := pe_deps (e := e) xs; simp [PyData.depthAll]; omega
theorem pe_eqs {α : Type} {e : α → D} {n : Nat} [Pe e n] : ∀ xs ys : List α, PyData.eqvAll (xs.map (Pe.p e)) (ys.map (Pe.p e)) = true ↔ xs = ys
  | [], [] => by simp [PyData.eqvAll]
  | [], y :: ys => by simp [PyData.eqvAll]
  | x :: xs, [] => by simp [PyData.eqvAll]
  | x :: xs, y :: ys => by simp [PyData.eqvAll, Pe.eq (e := e), pe_eqs xs ys]
instance {α : Type} {e : α → D} {n : Nat} {o : Bool} [Pe e n] : Pe (eL o e) (n + 1) := ⟨fun xs => .list (xs.map (Pe.p e)), fun xs => by simp [eL, toP, pe_toL], fun xs => by simp [PyData.canLay0, pe_lays], fun xs => by
  have := pe_deps (e := e) xs; simp [PyData.depth]; omega, fun x y => by simp [PyData.eqv, pe_eqs]⟩
section
variable {α β γ δ ε ζ : Type} {a : α → D} {b : β → D} {c : γ → D} {d : δ → D} {e : ε → D} {f : ζ → D} {na nb nc nd ne nf : Nat}
class Nn {α : Type} (e : α → D) : Prop where
  nn : ∀ x, ∀ p, toP (e x) = some p → p.eqv .none = false ∧ PyData.eqv .none p = false
theorem nn_tup {ds : List D} {p : PyData} (h : toP (.tup ds) = some p) : p.eqv .none = false ∧ PyData.eqv .none p = false := by
  simp only [toP] at h
  cases z : toPL ds with
  | none => rw [z] at h; cases h
  | some q => rw [z] at h; cases h; simp [PyData.eqv]
instance : Nn (e3 a b c) := ⟨fun x p h => nn_tup h⟩
instance [Nn a] [Pe a na] : Pe (eO a) na := ⟨fun x => match x with | none => .none | some x => Pe.p a x, fun x => by cases x with | none => rfl | some x => exact Pe.to (e := a) x,
  fun x => by cases x with | none => simp [PyData.canLay0] | some x => exact Pe.lay (e := a) x, fun x => by cases x with | none => simp [PyData.depth] | some x => exact Pe.dep (e := a) x, fun x y => by
    cases x with
    | none => cases y with
      | none => simp [PyData.eqv]
      | some y => have := (Nn.nn (e := a) y _ (Pe.to (e := a) y)).2; simp [this]
    | some x => cases y with
      | none => have := (Nn.nn (e := a) x _ (Pe.to (e := a) x)).1; simp [this]
      | some y => simp [Pe.eq (e := a)]⟩
instance [Pe a na] : Pe (e1 a) (na + 1) := ⟨fun t => .tuple [Pe.p a t], fun t => by simp [e1, toP, toPL, Pe.to (e := a)], fun t => by simp [PyData.canLay0, PyData.canLayAll0, Pe.lay (e := a)], fun t => by
  have h1 := Pe.dep (e := a) t; simp [PyData.depth, PyData.depthAll]; omega, fun x y => by simp [PyData.eqv, PyData.eqvAll, Pe.eq (e := a)]⟩
instance [Pe a na] [Pe b nb] [Pe c nc] : Pe (e3 a b c) (max na (max nb nc) + 1) := ⟨fun t => .tuple [Pe.p a t.1, Pe.p b t.2.1, Pe.p c t.2.2], fun t => by simp [e3, toP, toPL, Pe.to (e := a), Pe.to (e := b), Pe.to (e := c)], fun t => by simp [PyData.canLay0, PyData.canLayAll0, Pe.lay (e := a), Pe.lay (e := b), Pe.lay (e := c)], fun t => by
  have h1 := Pe.dep (e := a) t.1; have h2 := Pe.dep (e := b) t.2.1; have h3 := Pe.dep (e := c) t.2.2; simp [PyData.depth, PyData.depthAll]; omega, fun x y => by simp [PyData.eqv, PyData.eqvAll, Pe.eq (e := a), Pe.eq (e := b), Pe.eq (e := c), Prod.ext_iff]⟩
instance [Pe a na] [Pe b nb] [Pe c nc] [Pe d nd] [Pe e ne] : Pe (e5 a b c d e) (max na (max nb (max nc (max nd ne))) + 1) := ⟨fun t => .tuple [Pe.p a t.1, Pe.p b t.2.1, Pe.p c t.2.2.1, Pe.p d t.2.2.2.1, Pe.p e t.2.2.2.2], fun t => by simp [e5, toP, toPL, Pe.to (e := a), Pe.to (e := b), Pe.to (e := c), Pe.to (e := d), Pe.to (e := e)], fun t => by simp [PyData.canLay0, PyData.canLayAll0, Pe.lay (e := a), Pe.lay (e := b), Pe.lay (e := c), Pe.lay (e := d), Pe.lay (e := e)], fun t => by
  have h1 := Pe.dep (e := a) t.1; have h2 := Pe.dep (e := b) t.2.1; have h3 := Pe.dep (e := c) t.2.2.1; have h4 := Pe.dep (e := d) t.2.2.2.1; have h5 := Pe.dep (e := e) t.2.2.2.2; simp [PyData.depth, PyData.depthAll]; omega, fun x y => by simp [PyData.eqv, PyData.eqvAll, Pe.eq (e := a), Pe.eq (e := b), Pe.eq (e := c), Pe.eq (e := d), Pe.eq (e := e), Prod.ext_iff]⟩
instance [Pe a na] [Pe b nb] [Pe c nc] [Pe d nd] [Pe e ne] [Pe f nf] : Pe (e6 a b c d e f) (max na (max nb (max nc (max nd (max ne nf)))) + 1) := ⟨fun t => .tuple [Pe.p a t.1, Pe.p b t.2.1, Pe.p c t.2.2.1, Pe.p d t.2.2.2.1, Pe.p e t.2.2.2.2.1, Pe.p f t.2.2.2.2.2], fun t => by simp [e6, toP, toPL, Pe.to (e := a), Pe.to (e := b), Pe.to (e := c), Pe.to (e := d), Pe.to (e := e), Pe.to (e := f)], fun t => by simp [PyData.canLay0, PyData.canLayAll0, Pe.lay (e := a), Pe.lay (e := b), Pe.lay (e := c), Pe.lay (e := d), Pe.lay (e := e), Pe.lay (e := f)], fun t => by
  have h1 := Pe.dep (e := a) t.1; have h2 := Pe.dep (e := b) t.2.1; have h3 := Pe.dep (e := c) t.2.2.1; have h4 := Pe.dep (e := d) t.2.2.2.1; have h5 := Pe.dep (e := e) t.2.2.2.2.1; have h6 := Pe.dep (e := f) t.2.2.2.2.2; simp [PyData.depth, PyData.depthAll]; omega, fun x y => by simp [PyData.eqv, PyData.eqvAll, Pe.eq (e := a), Pe.eq (e := b), Pe.eq (e := c), Pe.eq (e := d), Pe.eq (e := e), Pe.eq (e := f), Prod.ext_iff]⟩
end
theorem eqB_ice (x y : D) : eqB x y = eqB (ice x) (ice y) := by unfold eqB; rw [toP_ice, toP_ice]
theorem eqB_pe {α : Type} [DecidableEq α] {e1 e2 e' : α → D} {n : Nat} [Ic e1 e'] [Ic e2 e'] [Pe e' n] (hn : n ≤ 64) (x y : α) : eqB (e1 x) (e2 y) = some (decide (x = y)) := by
  rw [eqB_ice, Ic.ic (e := e1), Ic.ic (e := e2)]
  unfold eqB
  have s : ∀ z, SeqAt.shaped (Pe.p e' z) = true := fun z => by
    have := Pe.dep (e := e') z
    simp [SeqAt.shaped, Pe.lay (e := e') z]; omega
  have q : (Pe.p e' x).eqv (Pe.p e' y) = decide (x = y) := by
    rw [Bool.eq_iff_iff, Pe.eq, decide_eq_true_iff]
  simp only [Pe.to (e := e'), Option.bind_some, s, and_self, if_true, q]
end LI

namespace LI
open PySem L2

def Ev {α : Type} (e : α → D) (m : RM) (ρ : List D) (o : Option α) : Prop := ∀ x, o = some x → m ρ = some (e x)
def Et (m : BM) (ρ : List D) (o : Option Bool) : Prop := ∀ x, o = some x → m ρ = some x
def Eg {α : Type} (e : α → D) (env : α → List D) (g : GM) (ρ : List D) (o : Option α) : Prop := ∀ x, o = some x → g ρ = some (e x, env x)
structure Ea {τ : Type} (e e' : τ → List D) (z : Bool) (ms : AM) (ρ : List D) (o : Option τ) : Prop where
  run : ∀ x, o = some x → ms ρ = some (e x)
  ic : ∀ x, iceL (e x) = e' x
  fz : z = true → ∀ x, frzL (e x) = true
def Ei {α : Type} (e : α → D) (ms : AM) (ρ : List D) (o : Option (List α)) : Prop := ∀ xs, o = some xs → ms ρ = some (xs.map e)
def Eo (m : OM) (ρ : List D) (o : Option (Option Int)) : Prop := ∀ x, o = some x → m ρ = some x

theorem ob_some {α β : Type} {o : Option α} {k : α → Option β} {z : β} (h : o.bind k = some z) : ∃ x, o = some x ∧ k x = some z := by
  cases o with
  | none => cases h
  | some x => exact ⟨x, rfl, h⟩

section
variable {α β γ δ : Type} {a : α → D} {b : β → D} {c : γ → D} {e : α → D} {e' : α → D} {m ma mb mc : RM} {ρ : List D} {o oa : Option α} {ob : Option β} {oc : Option γ}
theorem x_v {i : Nat} (e : α → D) (x : α) [Ng e] (h : ρ[i]? = some (e x)) : Ev e (vM i) ρ (some x) := fun y hy => by
  cases hy; rw [LI.ev_v, h]; simp [Ng.ng]
theorem x_k {d : D} (e : α → D) (x : α) (h : d = e x) : Ev e (kM d) ρ (some x) := fun y hy => by cases hy; rw [LI.ev_k, h]
theorem x_map {e : α → D} {f : β → D} (k : α → β) (hk : ∀ x, f (k x) = e x) (h : Ev e m ρ o) : Ev f m ρ (o.bind fun x => some (k x)) := fun y hy => by
  obtain ⟨x, h1, h2⟩ := ob_some hy; cases h2; rw [h x h1, hk]
def an {α : Type} (e : α → D) [Ng e] [Fz e] (x : α) : An := ⟨e x, Ng.ng x, Fz.fz x⟩
theorem x_fr [Fz e] (h : Ev e m ρ o) : Ev e (frM m) ρ o := fun y hy => by rw [LI.ev_fr, h y hy]; simp [Fz.fz]
theorem x_cold [Ic e e'] (h : Ev e m ρ o) : Ev e' (coldM m) ρ o := fun y hy => by rw [LI.ev_cold, h y hy, Option.map_some, Ic.ic]

def O2 (f : D → D → Option D) (a : α → D) (b : β → D) (c : γ → D) (g : α → β → Option γ) : Prop := ∀ x y z, g x y = some z → f (a x) (b y) = some (c z)
def O1 (f : D → Option D) (a : α → D) (c : γ → D) (g : α → Option γ) : Prop := ∀ x z, g x = some z → f (a x) = some (c z)
theorem x_m2 {f : D → D → Option D} {g : α → β → Option γ} (hf : O2 f a b c g) (ha : Ev a ma ρ oa) (hb : Ev b mb ρ ob) : Ev c (m2 f ma mb) ρ (oa.bind fun x => ob.bind fun y => g x y) := fun z hz => by
  obtain ⟨x, h1, h2⟩ := ob_some hz
  obtain ⟨y, h3, h4⟩ := ob_some h2
  rw [LI.ev_m2, ha x h1, Option.bind_some, hb y h3, Option.bind_some, hf x y z h4]
theorem x_m1 {f : D → Option D} {g : α → Option γ} (hf : O1 f a c g) (ha : Ev a ma ρ oa) : Ev c (m1 f ma) ρ (oa.bind g) := fun z hz => by
  obtain ⟨x, h1, h2⟩ := ob_some hz
  rw [LI.ev_m1, ha x h1, Option.bind_some, hf x z h2]
theorem x_a1 {f : List D → Option D} {g : α → Option γ} (hf : O1 (fun d => f [d]) a c g) (ha : Ev a ma ρ oa) : Ev c (mA f (consM ma nilM)) ρ (oa.bind g) := fun z hz => by
  obtain ⟨x, h1, h2⟩ := ob_some hz
  have := hf x z h2
  simp only [ev_mA, LI.ev_cons, ha x h1, Option.bind_some, LI.ev_nil, Option.map_some]
  exact this
theorem x_a2 {f : List D → Option D} {g : α → β → Option γ} (hf : O2 (fun d u => f [d, u]) a b c g) (ha : Ev a ma ρ oa) (hb : Ev b mb ρ ob) : Ev c (mA f (consM ma (consM mb nilM))) ρ (oa.bind fun x => ob.bind fun y => g x y) := fun z hz => by
  obtain ⟨x, h1, h2⟩ := ob_some hz
  obtain ⟨y, h3, h4⟩ := ob_some h2
  have := hf x y z h4
  simp only [ev_mA, LI.ev_cons, ha x h1, hb y h3, Option.bind_some, LI.ev_nil, Option.map_some]
  exact this
theorem o2_tot {f : D → D → Option D} {g : α → β → γ} (h : ∀ x y, f (a x) (b y) = some (c (g x y))) : O2 f a b c (fun x y => some (g x y)) := fun x y z hz => by cases hz; exact h x y
theorem o1_tot {f : D → Option D} {g : α → γ} (h : ∀ x, f (a x) = some (c (g x))) : O1 f a c (fun x => some (g x)) := fun x z hz => by cases hz; exact h x
end

def catS (x y : Ts) : Option Ts := if x.length + y.length ≤ LIM then some (x ++ y) else none
def catL {α : Type} (x y : List α) : Option (List α) := if x.length + y.length ≤ LIM then some (x ++ y) else none
def mulT (x y : Int) : Option Int := if (-(2 ^ 64) < x ∧ x < 2 ^ 64) ∨ (-(2 ^ 64) < y ∧ y < 2 ^ 64) then some (x * y) else none
def modT (x y : Int) : Option Int := if 0 < y then some (x % y) else none
theorem o2_addI : O2 addD eI eI eI (fun x y => some (x + y)) := o2_tot fun _ _ => rfl
theorem o2_catS : O2 addD eS eS eS catS := fun x y z h => by
  unfold catS at h; split at h
  · cases h; simp [eS, addD, *]
  · cases h
theorem o2_catL {α : Type} {a : α → D} [Fz a] {o p : Bool} : O2 addD (eL o a) (eL p a) (eL true a) catL := fun x y z h => by
  unfold catL at h; split at h
  · cases h; simp [eL, addD, *, Fz.fz]
  · cases h
theorem o2_subI : O2 subD eI eI eI (fun x y => some (x - y)) := o2_tot fun _ _ => rfl
theorem o2_mul : O2 mulD eI eI eI mulT := fun x y z h => by
  unfold mulT at h; split at h
  · cases h; rename_i q; exact if_pos q
  · cases h
theorem o2_mod : O2 modD eI eI eI modT := fun x y z h => by
  unfold modT at h; split at h
  · cases h; rename_i q; exact if_pos q
  · cases h
theorem o1_neg : O1 negD eI eI (fun x => some (-x)) := o1_tot fun _ => rfl
section
variable {α β : Type} {e : α → D} {m ma mb : RM} {ρ : List D} {oa ob : Option Int}
def b64 (k : Int) : Bool := decide (-18446744073709551616 < k) && decide (k < 18446744073709551616)
theorem b64_in {k : Int} (h : b64 k = true) : -(2 ^ 64) < k ∧ k < 2 ^ 64 := by
  unfold b64 at h; simp at h; exact ⟨by omega, by omega⟩
theorem x_mulR (k : Int) (hk : b64 k = true) (ha : Ev eI ma ρ oa) : Ev eI (m2 mulD ma (kM (.int k))) ρ (oa.bind fun x => some (x * k)) := fun z hz => by
  obtain ⟨x, h1, h2⟩ := ob_some hz; cases h2
  rw [LI.ev_m2, ha x h1]; exact if_pos (.inr (b64_in hk))
theorem x_mulK (k : Int) (hk : b64 k = true) (ha : Ev eI ma ρ oa) : Ev eI (m2 mulD (kM (.int k)) ma) ρ (oa.bind fun x => some (k * x)) := fun z hz => by
  obtain ⟨x, h1, h2⟩ := ob_some hz; cases h2
  rw [LI.ev_m2, LI.ev_k, Option.bind_some, ha x h1]; exact if_pos (.inl (b64_in hk))
theorem log_lt {k : Int} (h : b64 k = true) : k.natAbs.log2 < 9000 := by
  have := b64_in h
  by_cases z : k.natAbs = 0
  · rw [z]; decide
  · have h1 : k.natAbs < 2 ^ 9000 := Nat.lt_of_lt_of_le (show k.natAbs < 2 ^ 65 by omega) (Nat.pow_le_pow_right (by decide) (by decide))
    exact (Nat.log2_lt z).mpr h1
theorem x_modP (k : Int) {mk : RM} (hk : decide (0 < k) = true) (ha : Ev eI ma ρ oa) (hm : Ev eI mk ρ (some k)) : Ev eI (m2 modD ma mk) ρ (oa.bind fun x => some (x % k)) := fun z hz => by
  obtain ⟨x, h1, h2⟩ := ob_some hz; cases h2
  rw [LI.ev_m2, ha x h1, hm k rfl]; exact if_pos (of_decide_eq_true hk)
theorem x_fdivP (k : Int) {mk : RM} (hk : (decide (0 < k) && b64 k) = true) (ha : Ev eI ma ρ oa) (hm : Ev eI mk ρ (some k)) : Ev eI (m2 fdivD ma mk) ρ (oa.bind fun x => some (x / k)) := fun z hz => by
  obtain ⟨x, h1, h2⟩ := ob_some hz; cases h2
  simp only [Bool.and_eq_true] at hk
  rw [LI.ev_m2, ha x h1, hm k rfl]; exact if_pos ⟨of_decide_eq_true hk.1, log_lt hk.2⟩
theorem x_pow (x y c : Int) (h : (decide (0 ≤ y) && decide (y ≤ 1000000) && b64 x && (x ^ y.toNat == c)) = true) : Ev eI (m2 powD (kM (.int x)) (kM (.int y))) ρ (some c) := fun z hz => by
  cases hz
  simp only [Bool.and_eq_true, beq_iff_eq] at h
  obtain ⟨⟨⟨h1, h2⟩, h3⟩, h4⟩ := h
  have := b64_in h3
  rw [LI.ev_m2, LI.ev_k, LI.ev_k, Option.bind_some, Option.bind_some, pow_int, if_pos ⟨of_decide_eq_true h1, of_decide_eq_true h2, by omega⟩, h4]; rfl
end

theorem o2_ltI : O2 ltD eI eI eB (fun x y => some (decide (x < y))) := o2_tot fun _ _ => rfl
theorem o2_leI : O2 leD eI eI eB (fun x y => some (decide (x ≤ y))) := o2_tot fun _ _ => rfl
theorem o2_gtI : O2 gtD eI eI eB (fun x y => some (decide (y < x))) := o2_tot fun _ _ => rfl
theorem o2_geI : O2 geD eI eI eB (fun x y => some (decide (y ≤ x))) := o2_tot fun _ _ => rfl
theorem o2_eq {α : Type} [DecidableEq α] {a b e' : α → D} {n : Nat} [Ic a e'] [Ic b e'] [Pe e' n] (hn : n ≤ 64) : O2 eqD a b eB (fun x y => some (decide (x = y))) := o2_tot fun x y => by
  unfold eqD; rw [eqB_pe (e' := e') hn]; rfl
theorem o2_ne {α : Type} [DecidableEq α] {a b e' : α → D} {n : Nat} [Ic a e'] [Ic b e'] [Pe e' n] (hn : n ≤ 64) : O2 neD a b eB (fun x y => some (!decide (x = y))) := o2_tot fun x y => by
  unfold neD; rw [eqB_pe (e' := e') hn]; rfl
def eqA (x y : An) : Option Bool := eqB x.d y.d
theorem o2_eqA : O2 eqD eA eA eB eqA := fun x y z h => by unfold eqA at h; simp [eqD, eA, h]; rfl
section
variable {α β γ δ ε ζ : Type} {a : α → D} {b : β → D} {c : γ → D} {d : δ → D} {e : ε → D} {f : ζ → D} {o : Bool}
end

section
variable {α : Type} {e : α → D} {m ma mb mc : RM} {ρ : List D} {o : Option α} {x y : Bool} {ta tb : BM} {oa ob : Option Bool}
theorem et_b {o : Option Bool} (h : Ev eB m ρ o) : Et (bM m) ρ o := fun z hz => by rw [ev_bM, h z hz]; rfl
theorem et_not (h : Et ta ρ oa) : Et (notB ta) ρ (oa.bind fun b => some (!b)) := fun z hz => by
  obtain ⟨x, h1, h2⟩ := ob_some hz; cases h2; rw [ev_notB, h x h1]; rfl
theorem et_and (h : Et ta ρ oa) (k : Et tb ρ ob) : Et (andB ta tb) ρ (oa.bind fun b => if b = true then ob else some false) := fun z hz => by
  obtain ⟨x, h1, h2⟩ := ob_some hz
  rw [ev_andB, h x h1, Option.bind_some]
  cases x with
  | true => rw [if_pos rfl] at h2 ⊢; exact k z h2
  | false => simpa using h2
theorem et_or (h : Et ta ρ oa) (k : Et tb ρ ob) : Et (orB ta tb) ρ (oa.bind fun b => if b = true then some true else ob) := fun z hz => by
  obtain ⟨x, h1, h2⟩ := ob_some hz
  rw [ev_orB, h x h1, Option.bind_some]
  cases x with
  | true => simpa using h2
  | false => simp at h2 ⊢; exact k z h2
theorem et_andT (h : Et ta ρ (some x)) (k : Et tb ρ (some y)) : Et (andB ta tb) ρ (some (x && y)) := fun z hz => by
  cases hz; rw [ev_andB, h x rfl, Option.bind_some]; cases x <;> simp [k y rfl]
theorem et_orT (h : Et ta ρ (some x)) (k : Et tb ρ (some y)) : Et (orB ta tb) ρ (some (x || y)) := fun z hz => by
  cases hz; rw [ev_orB, h x rfl, Option.bind_some]; cases x <;> simp [k y rfl]
theorem x_and (h : Ev eB ma ρ oa) (k : Ev eB mb ρ ob) : Ev eB (andM ma mb) ρ (oa.bind fun b => if b = true then ob else some false) := fun z hz => by
  obtain ⟨x, h1, h2⟩ := ob_some hz
  rw [ev_andM, et_b h x h1, Option.bind_some]
  cases x with
  | true => rw [if_pos rfl] at h2 ⊢; exact k z h2
  | false => simp at h2; subst h2; rfl
theorem x_andT (h : Ev eB ma ρ (some x)) (k : Ev eB mb ρ (some y)) : Ev eB (andM ma mb) ρ (some (x && y)) := fun z hz => by
  cases hz; rw [ev_andM, et_b h x rfl, Option.bind_some]; cases x <;> simp [k y rfl] <;> rfl
theorem x_orT (h : Ev eB ma ρ (some x)) (k : Ev eB mb ρ (some y)) : Ev eB (orM ma mb) ρ (some (x || y)) := fun z hz => by
  cases hz; rw [ev_orM, et_b h x rfl, Option.bind_some]; cases x <;> simp [k y rfl] <;> rfl
class Tr {α : Type} (e : α → D) (t : outParam (α → Option Bool)) : Prop where
  tr : ∀ x z, t x = some z → truD (e x) = some z
instance : Tr eB (fun x => some x) := ⟨fun x z h => by cases h; rfl⟩
theorem et_tru {t : α → Option Bool} [Tr e t] (h : Ev e m ρ o) : Et (truM m) ρ (o.bind t) := fun z hz => by
  obtain ⟨x, h1, h2⟩ := ob_some hz; rw [ev_tru, h x h1]; exact Tr.tr x z h2
theorem x_not {t : α → Option Bool} [Tr e t] (h : Ev e m ρ o) : Ev eB (notD m) ρ ((o.bind t).bind fun b => some (!b)) := fun z hz => by
  obtain ⟨y, h1, h2⟩ := ob_some hz; cases h2
  have := et_tru (t := t) h y h1
  rw [ev_tru] at this
  rw [ev_notD, this]; rfl
end
section
variable {α β γ : Type} {a : α → D} {b : β → D} {c : γ → D} {f g : D → D → Option D} {ma mb mc : RM} {ρ : List D} {oa : Option α} {ob : Option β} {oc : Option γ}
theorem x_ch {p : α → β → Option Bool} {q : β → γ → Option Bool} (hf : O2 f a b eB p) (hg : O2 g b c eB q) (ha : Ev a ma ρ oa) (hb : Ev b mb ρ ob) (hc : Ev c mc ρ oc) :
    Ev eB (chM f g ma mb mc) ρ (oa.bind fun x => ob.bind fun y => (p x y).bind fun k => if k = true then oc.bind fun z => q y z else some false) := fun z hz => by
  obtain ⟨x, h1, h2⟩ := ob_some hz
  obtain ⟨y, h3, h4⟩ := ob_some h2
  obtain ⟨k, h5, h6⟩ := ob_some h4
  rw [LI.ev_ch, ha x h1, Option.bind_some, hb y h3, Option.bind_some, hf x y k h5, Option.bind_some]
  cases k with
  | false => simp at h6; subst h6; rfl
  | true =>
    rw [if_pos rfl] at h6
    obtain ⟨u, h7, h8⟩ := ob_some h6
    show (mc ρ).bind _ = _
    rw [hc u h7, Option.bind_some, hg y u z h8]
theorem x_chT {p : α → β → Bool} {q : β → γ → Bool} {x : α} {y : β} {z : γ} (hf : O2 f a b eB (fun x y => some (p x y))) (hg : O2 g b c eB (fun x y => some (q x y))) (ha : Ev a ma ρ (some x)) (hb : Ev b mb ρ (some y)) (hc : Ev c mc ρ (some z)) :
    Ev eB (chM f g ma mb mc) ρ (some (p x y && q y z)) := fun u hu => by
  cases hu
  have := x_ch hf hg ha hb hc (p x y && q y z) (by cases h : p x y <;> simp [h])
  exact this
end

def ixS (s : Ts) (i : Int) : Option Ts := if s.length ≤ LIM then (atI s i).map fun c => [c] else none
theorem o2_ixL {α : Type} {a : α → D} {o : Bool} : O2 ixD (eL o a) eI a (fun xs i => atI xs i) := fun x y z h => by
  show atI (x.map a) y = _
  rw [atI_map]; simp [h]
theorem o2_ixC : O2 ixD eC eI eI (fun xs i => atI xs i) := fun x y z h => by show (atI x y).map D.int = _; simp [h]; rfl
theorem o2_ixS : O2 ixD eS eI eS ixS := fun x y z h => by
  unfold ixS at h; split at h
  · rename_i q
    cases w : atI x y with
    | none => rw [w] at h; cases h
    | some c =>
      rw [w] at h; cases h
      show (if (x.map Char.toNat).length ≤ LIM then (atI (x.map Char.toNat) y).map fun k => D.str [k] else none) = _
      rw [if_pos (by simpa using q), atI_map, w]; rfl
  · cases h
theorem x_pr {α β : Type} {e : α → D} {f : β → D} {m : RM} {ρ : List D} {o : Option α} (k : Int) (p : α → β) (hp : ∀ x, ixD (e x) (.int k) = some (f (p x))) (h : Ev e m ρ o) : Ev f (m2 ixD m (kM (.int k))) ρ (o.bind fun x => some (p x)) := fun z hz => by
  obtain ⟨x, h1, h2⟩ := ob_some hz; cases h2
  rw [LI.ev_m2, h x h1, Option.bind_some, LI.ev_k, Option.bind_some, hp]
theorem eo_no {ρ : List D} : Eo noM ρ (some none) := fun x h => by cases h; rfl
theorem eo_so {m : RM} {ρ : List D} {o : Option Int} (h : Ev eI m ρ o) : Eo (soM m) ρ (o.bind fun x => some (some x)) := fun z hz => by
  obtain ⟨x, h1, h2⟩ := ob_some hz; cases h2
  rw [ev_soM, h x h1]; rfl
def slS (lo hi : Option Int) (s : Ts) : Option Ts := if s.length ≤ LIM then some (cutL s lo hi) else none
class Sl {α : Type} {β : outParam Type} (e : α → D) (f : outParam (β → D)) (g : outParam (Option Int → Option Int → α → Option β)) : Prop where
  sl : ∀ lo hi x z, g lo hi x = some z → slD lo hi (e x) = some (f z)
instance {α : Type} {a : α → D} {o : Bool} [Fz a] : Sl (eL o a) (eL true a) (fun lo hi xs => some (cutL xs lo hi)) := ⟨fun lo hi x z h => by cases h; simp [eL, slD, Fz.fz, cutL_map]⟩
instance : Sl eS eS slS := ⟨fun lo hi x z h => by
  unfold slS at h; split at h
  · cases h; simp [eS, slD, *, cutL_map]
  · cases h⟩
theorem x_sl {α β : Type} {e : α → D} {f : β → D} {g : Option Int → Option Int → α → Option β} [Sl e f g] {m : RM} {lo hi : OM} {ρ : List D} {o : Option α} {ol oh : Option (Option Int)} (h : Ev e m ρ o) (hl : Eo lo ρ ol) (hh : Eo hi ρ oh) :
    Ev f (slM m lo hi) ρ (o.bind fun x => ol.bind fun l => oh.bind fun h => g l h x) := fun z hz => by
  obtain ⟨x, h1, h2⟩ := ob_some hz
  obtain ⟨y, h3, h4⟩ := ob_some h2
  obtain ⟨u, h5, h6⟩ := ob_some h4
  rw [ev_slM, h x h1, Option.bind_some, hl y h3, Option.bind_some, hh u h5, Option.bind_some, Sl.sl y u x z h6]
def eV {α : Type} (e : α → D) (xs : List α) : D := .tup (xs.map e)
instance {α : Type} {a : α → D} : Ng (eV a) := ⟨fun _ => rfl⟩
instance {α : Type} {a : α → D} [Fz a] : Fz (eV a) := ⟨fun x => by simp [eV, Fz.fz]⟩
instance {α : Type} {a : α → D} [Fz a] : Sl (eV a) (eV a) (fun lo hi xs => some (cutL xs lo hi)) := ⟨fun lo hi x z h => by cases h; simp [eV, slD, Fz.fz, cutL_map]⟩
def inS (x z : Ts) : Option Bool := match x with | [c] => some (decide (c ∈ z)) | _ => none
theorem mem_toNat {c : Char} {z : Ts} : c.toNat ∈ z.map Char.toNat ↔ c ∈ z := by
  rw [List.mem_map]
  exact ⟨fun ⟨x, h1, h2⟩ => toNat_inj h2 ▸ h1, fun h => ⟨c, h, rfl⟩⟩
theorem inB_S {x z : Ts} {k : Bool} (h : inS x z = some k) : inB (eS x) (eS z) = some k := by
  unfold inS at h
  split at h
  · cases h
    show some (decide (Char.toNat _ ∈ z.map Char.toNat)) = _
    congr 1
    exact decide_eq_decide.mpr mem_toNat
  · cases h
def memT {α : Type} [DecidableEq α] (x : α) (xs : List α) : Bool := decide (x ∈ xs)
class In {α β : Type} (a : α → D) (b : β → D) (g : outParam (α → β → Option Bool)) : Prop where
  is : ∀ x y k, g x y = some k → inB (a x) (b y) = some k
instance : In eS eS inS := ⟨fun _ _ _ h => inB_S h⟩
instance : In eS eK (fun x ss => some (memT x ss)) := ⟨fun x y k h => by
  cases h; unfold memT
  have : inB (eS x) (eK y) = some ((y.map fun s => s.map Char.toNat).any fun u => u == x.map Char.toNat) := by
    unfold eS eK
    rcases x with _ | ⟨c, _ | ⟨c2, t⟩⟩ <;> rfl
  rw [this]
  congr 1
  rw [Bool.eq_iff_iff]
  simp only [List.any_eq_true, List.mem_map, beq_iff_eq, decide_eq_true_iff]
  exact ⟨fun ⟨u, ⟨s, h1, h2⟩, h3⟩ => by rw [← h2, ts_map_inj] at h3; rw [← h3]; exact h1, fun h => ⟨_, ⟨x, h, rfl⟩, rfl⟩⟩⟩
theorem o2_nin {α β : Type} {a : α → D} {b : β → D} {g : α → β → Option Bool} [In a b g] : O2 ninD a b eB (fun x y => (g x y).bind fun k => some (!k)) := fun x y z h => by
  obtain ⟨k, h1, h2⟩ := ob_some h; cases h2
  unfold ninD; rw [In.is x y k h1]; rfl
theorem o2_ninT {α β : Type} {a : α → D} {b : β → D} {g : α → β → Bool} [In a b (fun x y => some (g x y))] : O2 ninD a b eB (fun x y => some (!g x y)) := o2_tot fun x y => by
  unfold ninD; rw [In.is x y _ rfl]; rfl

def lenS (s : Ts) : Option Int := if s.length ≤ LIM then some (s.length : Int) else none
theorem o1_lenL {α : Type} {a : α → D} {o : Bool} : O1 (fun d => lenD [d]) (eL o a) eI (fun xs => some (xs.length : Int)) := o1_tot fun x => by simp [eL, lenD]; rfl
theorem o1_lenC : O1 (fun d => lenD [d]) eC eI (fun xs => some (xs.length : Int)) := o1_tot fun x => rfl
theorem o1_lenS : O1 (fun d => lenD [d]) eS eI lenS := fun x z h => by
  unfold lenS at h; split at h
  · cases h; simp [eS, lenD, *]; rfl
  · cases h
theorem o1_lenK {α : Type} {a : α → D} {n : Int} (h : ∀ x, lenD [a x] = some (.int n)) : O1 (fun d => lenD [d]) a eI (fun _ => some n) := o1_tot fun x => h x
theorem o2_max : O2 (fun x y => max2D [x, y]) eI eI eI (fun x y => some (max x y)) := o2_tot fun x y => by
  show some (D.int (if y > x then y else x)) = some (D.int (max x y))
  congr 2; rw [Int.max_def]; split <;> split <;> omega
theorem o1_listL {α : Type} {a : α → D} [Fz a] {o : Bool} : O1 (fun d => listD [d]) (eL o a) (eL true a) (fun x => some x) := o1_tot fun x => by simp [eL, listD, Fz.fz]
theorem o1_listV {α : Type} {a : α → D} [Fz a] : O1 (fun d => listD [d]) (eV a) (eL true a) (fun x => some x) := o1_tot fun x => by simp [eL, eV, listD, Fz.fz]
theorem x_isi {α : Type} {e : α → D} {ty : String} {m : RM} {ρ : List D} {o : Option α} (k : α → Bool) (hk : ∀ x, ((tyD (e x)).bind fun t => kitB t ty) = some (k x)) (h : Ev e m ρ o) : Ev eB (isiM ty m) ρ (o.bind fun x => some (k x)) := fun z hz => by
  obtain ⟨x, h1, h2⟩ := ob_some hz; cases h2
  have := hk x
  rw [LI.ev_isi, h x h1, Option.bind_some]
  cases w : tyD (e x) with
  | none => rw [w] at this; cases this
  | some t => rw [w, Option.bind_some] at this; rw [Option.bind_some, this]; rfl
def isiA (ty : String) (x : An) : Option Bool := (tyD x.d).bind fun t => kitB t ty
theorem x_isiA {ty : String} {m : RM} {ρ : List D} {o : Option An} (h : Ev eA m ρ o) : Ev eB (isiM ty m) ρ (o.bind fun x => isiA ty x) := fun z hz => by
  obtain ⟨x, h1, h2⟩ := ob_some hz
  unfold isiA at h2
  rw [LI.ev_isi, h x h1, Option.bind_some]
  show ((tyD x.d).bind fun t => (kitB t ty).map D.bl) = _
  cases w : tyD x.d with
  | none => rw [w] at h2; cases h2
  | some t => rw [w, Option.bind_some] at h2; rw [Option.bind_some, h2]; rfl

section
variable {α τ β : Type} {e e' : α → D} {et et' : τ → List D} {z : Bool} {m : RM} {ms : AM} {ρ : List D} {o : Option α} {os : Option τ}
theorem ea_nil : Ea (τ := Unit) (fun _ => []) (fun _ => []) true nilM ρ (some ()) := ⟨fun x h => by cases h; rfl, fun _ => rfl, fun _ _ => rfl⟩
theorem ea_cons [Ic e e'] [Fz e] (h : Ev e m ρ o) (hs : Ea et et' z ms ρ os) : Ea (fun t : α × τ => e t.1 :: et t.2) (fun t => e' t.1 :: et' t.2) z (consM m ms) ρ (o.bind fun x => os.bind fun xs => some (x, xs)) :=
  ⟨fun x hx => by
    obtain ⟨y, h1, h2⟩ := ob_some hx
    obtain ⟨ys, h3, h4⟩ := ob_some h2
    cases h4
    rw [LI.ev_cons, h y h1, Option.bind_some, hs.run ys h3]; rfl, fun x => by rw [iceL_cons, Ic.ic (e := e), hs.ic], fun hz x => by rw [fzL_cons, Fz.fz, hs.fz hz]; rfl⟩
theorem x_tup {f : β → D} (k : τ → β) (hs : Ea et et' true ms ρ os) (hk : ∀ t, f (k t) = .tup (et t)) (hl : ∀ t, (et t).length ≤ LIM) : Ev f (tupM ms) ρ (os.bind fun t => some (k t)) := fun x hx => by
  obtain ⟨t, h1, h2⟩ := ob_some hx; cases h2
  rw [LI.ev_tup, hs.run t h1, Option.bind_some, if_pos ⟨hs.fz rfl t, hl t⟩, hk]
theorem x_lst {f : β → D} (k : τ → β) (hs : Ea et et' true ms ρ os) (hk : ∀ t, f (k t) = .lst true (et t)) (hl : ∀ t, (et t).length ≤ LIM) : Ev f (lstM ms) ρ (os.bind fun t => some (k t)) := fun x hx => by
  obtain ⟨t, h1, h2⟩ := ob_some hx; cases h2
  rw [LI.ev_lst, hs.run t h1, Option.bind_some, if_pos ⟨hs.fz rfl t, hl t⟩, hk]
def Tf {σ : Type} (et' : τ → List D) (er : σ → D) (F : FM) (t : τ → Option σ) : Prop := ∀ x r, t x = some r → ∃ ds', F (et' x) = some (er r, ds')
theorem x_call {σ : Type} {er : σ → D} {F : FM} {t : τ → Option σ} (hT : Tf et' er F t) (hs : Ea et et' true ms ρ os) : Ev er (callM F ms) ρ (os.bind t) := fun r hr => by
  obtain ⟨x, h1, h2⟩ := ob_some hr
  obtain ⟨ds', h3⟩ := hT x r h2
  rw [LI.ev_call, hs.run x h1, Option.bind_some, hs.ic, h3, Option.bind_some, if_pos (.inl (hs.fz rfl x))]
end

def rngT (n : Int) : Option (List Int) := if -(2 ^ 62) ≤ n ∧ n < 2 ^ 62 then some ((List.range n.toNat).map fun (k : Nat) => (k : Int)) else none
def enumT {α : Type} (n : Nat) : List α → List (Int × α)
  | [] => []
  | x :: xs => ((n : Int), x) :: enumT (n + 1) xs
theorem enum_map {α : Type} (e : α → D) : ∀ (n : Nat) (xs : List α), enumFrom n (xs.map e) = (enumT n xs).map (e2 eI e)
  | _, [] => rfl
  | n, x :: xs => by rw [List.map_cons, enumFrom, enum_map e (n + 1) xs]; rfl
class It1 {α : Type} {β : outParam Type} (e : α → D) (f : outParam (β → D)) (g : outParam (α → List β)) : Prop where
  it : ∀ x, itemsV (e x) = some ((g x).map f)
  fr : ∀ x, frz (e x) = true → itemsD (e x) = some ((g x).map f)
class Ls1 {α : Type} {β : outParam Type} (e : α → D) (f : outParam (β → D)) (g : outParam (α → List β)) : Prop where
  ls : ∀ x, lstD (e x) = some ((g x).map f)
def chars (s : Ts) : List Ts := s.map fun c => [c]
instance {α : Type} {a : α → D} [Fz a] {o : Bool} : It1 (eL o a) a (fun x => x) := ⟨fun x => by simp [eL, itemsV, Fz.fz], fun x h => by
  cases o with
  | true => simp [eL] at h
  | false => simp [eL, itemsD, Fz.fz]⟩
theorem chars_map (s : Ts) : strsD (s.map Char.toNat) = (chars s).map eS := by
  unfold strsD chars; rw [List.map_map, List.map_map]; rfl
instance : It1 eS eS chars := ⟨fun x => by show some (strsD _) = _; rw [chars_map], fun x _ => by show some (strsD _) = _; rw [chars_map]⟩
instance {α : Type} {a : α → D} [Fz a] : Ls1 (eL false a) a (fun x => x) := ⟨fun x => by simp [eL, lstD, Fz.fz]⟩
section
variable {α β γ δ : Type} {e : α → D} {f : β → D} {g : α → List β} {m ma mb : RM} {ρ : List D} {o : Option α}
theorem ei_it [It1 e f g] [Fz e] (h : Ev e m ρ o) : Ei f (itM m) ρ (o.bind fun x => some (g x)) := fun z hz => by
  obtain ⟨x, h1, h2⟩ := ob_some hz; cases h2
  rw [ev_it, h x h1]; exact It1.fr x (Fz.fz x)
theorem ei_itV [It1 e f g] (h : Ev e m ρ o) : Ei f (itV m) ρ (o.bind fun x => some (g x)) := fun z hz => by
  obtain ⟨x, h1, h2⟩ := ob_some hz; cases h2
  rw [ev_itV, h x h1]; exact It1.it x
theorem ei_rng1 {o : Option Int} (h : Ev eI m ρ o) : Ei eI (rng1M m) ρ (o.bind rngT) := fun z hz => by
  obtain ⟨x, h1, h2⟩ := ob_some hz
  unfold rngT at h2; split at h2
  · rename_i q
    cases h2
    rw [ev_rng1, h x h1]
    show rng1D (.int x) = _
    show (if -(2 ^ 62) ≤ x ∧ x < 2 ^ 62 then some (upD 0 x.toNat) else none) = _
    rw [if_pos q, upD0, List.map_map]; rfl
  · cases h2
theorem ei_enum [Ls1 e f g] (h : Ev e m ρ o) : Ei (e2 eI f) (enumSM m) ρ (o.bind fun x => some (enumT 0 (g x))) := fun z hz => by
  obtain ⟨x, h1, h2⟩ := ob_some hz; cases h2
  rw [ev_enumS, h x h1, Option.bind_some]
  have := Ls1.ls (e := e) x
  cases w : e x with
  | str s => rw [w] at this; cases this
  | _ => simp only []; rw [← w, this, Option.map_some, enum_map]
end
def compG {α β : Type} (p : α → Option Bool) (g : α → Option β) : List α → Option (List β)
  | [] => some []
  | x :: xs => (p x).bind fun k => if k = true then (g x).bind fun y => (compG p g xs).bind fun ys => some (y :: ys) else compG p g xs
def compT {α β : Type} (p : α → Option Bool) (g : α → Option β) (xs : List α) : Option (List β) := if xs.length ≤ LIM then compG p g xs else none
theorem compL_T {α β : Type} {e : α → D} {f : β → D} [Fz f] {t : TgM} {mc : BM} {me : RM} {ρ0 : List D} {env : α → List D} {p : α → Option Bool} {g : α → Option β} (ht : ∀ x, t (e x) ρ0 = some (env x)) (hc : ∀ x, Et mc (env x) (p x)) (he : ∀ x, Ev f me (env x) (g x)) :
    ∀ (xs : List α) (ys : List β), compG p g xs = some ys → compL t mc me ρ0 (xs.map e) = some (ys.map f)
  | [], ys, h => by cases h; rfl
  | x :: xs, ys, h => by
    obtain ⟨k, h1, h2⟩ := ob_some h
    rw [List.map_cons, compL, ht, Option.bind_some, hc x k h1, Option.bind_some]
    cases k with
    | true =>
      rw [if_pos rfl] at h2 ⊢
      obtain ⟨y, h3, h4⟩ := ob_some h2
      obtain ⟨zs, h5, h6⟩ := ob_some h4
      cases h6
      rw [he x y h3, Option.bind_some, if_pos (Fz.fz y), compL_T ht hc he xs zs h5]; rfl
    | false =>
      simp only [if_neg Bool.false_ne_true] at h2 ⊢
      exact compL_T ht hc he xs ys h2
theorem x_comp {α β : Type} {e : α → D} {f : β → D} [Fz f] {vs : List Nat} {t : TgM} {mc : BM} {me : RM} {ms : AM} {ρ : List D} {p : α → Option Bool} {g : α → Option β} {o : Option (List α)} (env : α → List D) (hi : Ei e ms ρ o) (ht : ∀ x, t (e x) (goneAt ρ vs) = some (env x)) (hc : ∀ x, Et mc (env x) (p x)) (he : ∀ x, Ev f me (env x) (g x)) :
    Ev (eL true f) (compM vs t mc me ms) ρ (o.bind fun xs => compT p g xs) := fun ys hy => by
  obtain ⟨xs, h1, h2⟩ := ob_some hy
  unfold compT at h2; split at h2
  · rename_i q
    rw [LI.ev_comp, hi xs h1, Option.bind_some, if_pos (by simpa using q), compL_T ht hc he xs ys h2]; rfl
  · cases h2
theorem et_yes {ρ : List D} : Et yesB ρ (some true) := fun x h => by cases h; rfl
end LI

namespace LI
open PySem L2

def Bk {τ : Type} (Q : Fl → List D → τ → Prop) (m : SM) (ρ : List D) (o : Option τ) : Prop := ∀ t, o = some t → ∃ fl ρ', m ρ = some (fl, ρ') ∧ Q fl ρ' t
def nxB : Fl → Bool
  | .nx => true | _ => false
def goB : Fl → Bool
  | .nx => true | .ct => true | _ => false
def rtB : Fl → Bool
  | .rt _ => true | .ex _ _ _ => true | _ => false
def Qn {τ : Type} (Q : Fl → List D → τ → Prop) : Fl → List D → τ → Prop := fun fl ρ t => nxB fl = false ∧ Q fl ρ t
def Qj {σ : Type} (kl : List Nat) (env : σ → List D) : Fl → List D → σ → Prop := fun fl ρ s => nxB fl = true ∧ goneAt ρ kl = env s
def Qm {σ τ : Type} (kl : List Nat) (env : σ → List D) (Q : Fl → List D → τ → Prop) : Fl → List D → σ ⊕ τ → Prop := fun fl ρ t => match t with
  | .inl s => nxB fl = true ∧ goneAt ρ kl = env s
  | .inr t => nxB fl = false ∧ Q fl ρ t
def Ql {σ : Type} (kl : List Nat) (env : σ → List D) : Fl → List D → σ → Prop := fun fl ρ s => goB fl = true ∧ goneAt ρ kl = env s
inductive St (σ τ : Type) where
  | nx (s : σ) | bk (s : σ) | rt (t : τ)
def Qs {σ τ : Type} (kl : List Nat) (env : σ → List D) (Q : Fl → List D → τ → Prop) : Fl → List D → St σ τ → Prop := fun fl ρ t => match t with
  | .nx s => goB fl = true ∧ goneAt ρ kl = env s
  | .bk s => fl = .bk ∧ goneAt ρ kl = env s
  | .rt t => rtB fl = true ∧ Q fl ρ t
def Qf {τ : Type} (e : τ → D) (kp : List Bool) (mk : τ → List D) : Fl → List D → τ → Prop := fun fl ρ r => (fl = .rt (e r) ∨ (fl = .nx ∧ e r = .non)) ∧ maskL kp ρ = mk r

def seqT {σ τ : Type} (u : σ ⊕ τ) (k : σ → Option τ) : Option τ := match u with
  | .inl s => k s
  | .inr t => some t
theorem nxB_nx {fl : Fl} (h : nxB fl = true) : fl = .nx := by cases fl <;> first | rfl | cases h
section
variable {α β σ τ : Type} {Q : Fl → List D → τ → Prop} {e e' : α → D} {env : α → List D} {m r a b : SM} {g : GM} {mm : RM} {ρ : List D} {o : Option α} {oc : Option Bool} {c : BM} {k : α → Option τ}
theorem eg_f (h : Ev e mm ρ o) : Eg e (fun _ => ρ) (upF mm) ρ o := fun x hx => by rw [ev_upF, h x hx]; rfl
theorem eg_r [Fz e] (h : Ev e mm ρ o) : Eg e (fun _ => ρ) (upR mm) ρ o := fun x hx => by rw [ev_upR, h x hx, Option.bind_some, if_pos (Fz.fz x)]
theorem eg_mv {L : Lens} (e : α → D) (x : α) (ρ' : List D) (h : L.get ρ = some (e x)) (h2 : L.put ρ .gone = ρ') : Eg e (fun _ => ρ') (mvM L) ρ (some x) := fun y hy => by
  cases hy; rw [LI.ev_mv, h, Option.bind_some, h2]
theorem b_asg {f : TgM} (env2 : α → List D) (h : Eg e env g ρ o) (hf : ∀ x, f (e x) (env x) = some (env2 x)) (h2 : ∀ x, Bk Q m (env2 x) (k x)) : Bk Q (seqM (asgM f g) m) ρ (o.bind k) := fun t ht => by
  obtain ⟨x, h3, h4⟩ := ob_some ht
  obtain ⟨fl, ρ', h5, h6⟩ := h2 x t h4
  refine ⟨fl, ρ', ?_, h6⟩
  unfold seqM asgM
  rw [h x h3, Option.bind_some, hf]
  exact h5
theorem b_expr (h : Eg e env g ρ o) (h2 : ∀ x, Bk Q m (env x) (k x)) : Bk Q (seqM (exprM g) m) ρ (o.bind k) := fun t ht => by
  obtain ⟨x, h3, h4⟩ := ob_some ht
  obtain ⟨fl, ρ', h5, h6⟩ := h2 x t h4
  refine ⟨fl, ρ', ?_, h6⟩
  unfold seqM exprM
  rw [h x h3]
  exact h5
theorem b_ret {k : α → τ} (h : Eg e env g ρ o) (h2 : ∀ x, Q (.rt (e x)) (env x) (k x)) : Bk Q (seqM (retM g) m) ρ (o.bind fun x => some (k x)) := fun t ht => by
  obtain ⟨x, h3, h4⟩ := ob_some ht
  cases h4
  refine ⟨_, _, ?_, h2 x⟩
  unfold seqM retM
  rw [h x h3]; rfl
theorem b_retI {e : τ → D} {env : τ → List D} {o : Option τ} (h : Eg e env g ρ o) (h2 : ∀ x, Q (.rt (e x)) (env x) x) : Bk Q (seqM (retM g) m) ρ o := fun t ht => by
  refine ⟨_, _, ?_, h2 t⟩
  unfold seqM retM
  rw [h t ht]; rfl
theorem b_nil {t : τ} (h : Q .nx ρ t) : Bk Q skipM ρ (some t) := fun t' ht => by cases ht; exact ⟨_, _, rfl, h⟩
theorem b_never {a : SM} : Bk Q a ρ none := fun t ht => by cases ht
theorem b_ifT {oa ob : Option τ} (hc : Et c ρ oc) (ha : Bk (Qn Q) a ρ oa) (hr : Bk Q r ρ ob) : Bk Q (seqM (ifM c a skipM) r) ρ (oc.bind fun k => if k = true then oa else ob) := fun t ht => by
  obtain ⟨x, h1, h2⟩ := ob_some ht
  cases x with
  | true =>
    rw [if_pos rfl] at h2
    obtain ⟨fl, ρ', h3, h4, h5⟩ := ha t h2
    refine ⟨fl, ρ', ?_, h5⟩
    unfold seqM ifM
    rw [hc _ h1, Option.bind_some, if_pos rfl, h3]
    cases fl <;> first | rfl | cases h4
  | false =>
    simp at h2
    obtain ⟨fl, ρ', h3, h4⟩ := hr t h2
    refine ⟨fl, ρ', ?_, h4⟩
    unfold seqM ifM
    rw [hc _ h1, Option.bind_some, if_neg Bool.false_ne_true]
    exact h3
theorem b_join {kl : List Nat} (env : σ → List D) {oa ob : Option σ} {k : σ → Option τ} (hc : Et c ρ oc) (ha : Bk (Qj kl env) a ρ oa) (hb : Bk (Qj kl env) b ρ ob) (hr : ∀ s, Bk Q r (env s) (k s)) : Bk Q (seqM (ifM c a b) (killM kl r)) ρ (oc.bind fun x => (if x = true then oa else ob).bind k) := fun t ht => by
  obtain ⟨x, h1, h2⟩ := ob_some ht
  obtain ⟨s, h3, h4⟩ := ob_some h2
  obtain ⟨fl, ρ', h5, h6⟩ := hr s t h4
  have main : ∀ m : SM, Bk (Qj kl env) m ρ (if x = true then oa else ob) → ifM c a b ρ = m ρ → ∃ fl ρ', seqM (ifM c a b) (killM kl r) ρ = some (fl, ρ') ∧ Q fl ρ' t := fun m hm he => by
    obtain ⟨f2, ρ2, h7, h8, h9⟩ := hm s h3
    refine ⟨fl, ρ', ?_, h6⟩
    unfold seqM
    rw [he, h7, nxB_nx h8]
    show r (goneAt ρ2 kl) = _
    rw [h9]; exact h5
  cases x with
  | true => exact main a ha (if_T (hc _ h1))
  | false => exact main b hb (if_F (hc _ h1))
end

def foldT {σ α : Type} (g : σ → α → Option σ) : List α → σ → Option σ
  | [], s => some s
  | x :: xs, s => (g s x).bind fun s => foldT g xs s
def forT {σ α τ : Type} (g : σ → α → Option (St σ τ)) : List α → σ → Option (σ ⊕ τ)
  | [], s => some (.inl s)
  | x :: xs, s => (g s x).bind fun u => match u with
    | .nx s => forT g xs s
    | .bk s => some (.inl s)
    | .rt t => some (.inr t)
def whileT {σ : Type} (p : σ → Option Bool) (g : σ → Option σ) : Nat → σ → Option σ
  | 0, _ => none
  | n + 1, s => (p s).bind fun k => if k = true then (g s).bind fun s => whileT p g n s else some s
section
variable {α σ τ : Type} {Q : Fl → List D → τ → Prop} {e : α → D} {r body : SM} {ρ : List D} {oxs : Option (List α)} {c : BM} {k : σ → Option τ} {ms : AM} {f : TgM} {kl : List Nat}
theorem for_fold1 (env : σ → List D) (env1 : σ → α → List D) {g : σ → α → Option σ} (hf : ∀ s x, f (e x) (env s) = some (env1 s x)) (hb : ∀ s x, Bk (Ql kl env) body (env1 s x) (g s x)) : ∀ (xs : List α) (s s' : σ), foldT g xs s = some s' → forL f body kl (xs.map e) (env s) = some (.nx, env s')
  | [], s, s', h => by cases h; rfl
  | x :: xs, s, s', h => by
    obtain ⟨s1, h1, h2⟩ := ob_some h
    obtain ⟨fl, ρ', h3, h4, h5⟩ := hb s x s1 h1
    rw [List.map_cons]; unfold forL
    rw [hf, Option.bind_some, h3, Option.bind_some]
    have ih := for_fold1 env env1 hf hb xs s1 s' h2
    cases fl with
    | nx => simp only [h5]; exact ih
    | ct => simp only [h5]; exact ih
    | bk => cases h4
    | rt d => cases h4
    | ex n fs es => cases h4
theorem b_for (env : σ → List D) (s0 : σ) (env1 : σ → α → List D) {g : σ → α → Option σ} (hi : Ei e ms ρ oxs) (hρ : ρ = env s0) (hf : ∀ s x, f (e x) (env s) = some (env1 s x)) (hb : ∀ s x, Bk (Ql kl env) body (env1 s x) (g s x)) (hr : ∀ s, Bk Q r (env s) (k s)) :
    Bk Q (seqM (forM f body kl ms) r) ρ (oxs.bind fun xs => (foldT g xs s0).bind k) := fun t ht => by
  obtain ⟨xs, h1, h2⟩ := ob_some ht
  obtain ⟨s, h3, h4⟩ := ob_some h2
  obtain ⟨fl, ρ', h5, h6⟩ := hr s t h4
  refine ⟨fl, ρ', ?_, h6⟩
  unfold seqM
  rw [for_at (hi xs h1), hρ, for_fold1 env env1 hf hb xs s0 s h3]
  exact h5
theorem for_step1 (env : σ → List D) (env1 : σ → α → List D) {g : σ → α → Option (St σ τ)} (hf : ∀ s x, f (e x) (env s) = some (env1 s x)) (hb : ∀ s x, Bk (Qs kl env Q) body (env1 s x) (g s x)) : ∀ (xs : List α) (s : σ) (u : σ ⊕ τ), forT g xs s = some u →
    ∃ fl ρ', forL f body kl (xs.map e) (env s) = some (fl, ρ') ∧ match u with | .inl s => fl = .nx ∧ ρ' = env s | .inr t => rtB fl = true ∧ Q fl ρ' t
  | [], s, u, h => by cases h; exact ⟨_, _, rfl, rfl, rfl⟩
  | x :: xs, s, u, h => by
    obtain ⟨v, h1, h2⟩ := ob_some h
    obtain ⟨fl, ρ', h3, h4⟩ := hb s x v h1
    rw [List.map_cons]; unfold forL
    rw [hf, Option.bind_some, h3, Option.bind_some]
    cases v with
    | nx s1 =>
      obtain ⟨f2, ρ2, h5, h6⟩ := for_step1 env env1 hf hb xs s1 u h2
      refine ⟨f2, ρ2, ?_, h6⟩
      cases fl with
      | nx => simp only [h4.2]; exact h5
      | ct => simp only [h4.2]; exact h5
      | bk => cases h4.1
      | rt d => cases h4.1
      | ex n fs es => cases h4.1
    | bk s1 =>
      cases h2
      rw [h4.1]
      exact ⟨_, _, rfl, rfl, h4.2⟩
    | rt t =>
      cases h2
      cases fl with
      | rt d => exact ⟨_, _, rfl, h4⟩
      | ex n fs es => exact ⟨_, _, rfl, h4⟩
      | _ => cases h4.1
theorem b_forR (env : σ → List D) (s0 : σ) (env1 : σ → α → List D) {g : σ → α → Option (St σ τ)} (hi : Ei e ms ρ oxs) (hρ : ρ = env s0) (hf : ∀ s x, f (e x) (env s) = some (env1 s x)) (hb : ∀ s x, Bk (Qs kl env Q) body (env1 s x) (g s x)) (hr : ∀ s, Bk Q r (env s) (k s)) :
    Bk Q (seqM (forM f body kl ms) r) ρ (oxs.bind fun xs => (forT g xs s0).bind fun u => seqT u k) := fun t ht => by
  obtain ⟨xs, h1, h2⟩ := ob_some ht
  obtain ⟨u, h3, h4⟩ := ob_some h2
  obtain ⟨f2, ρ2, h7, h8⟩ := for_step1 env env1 hf hb xs s0 u h3
  unfold seqM
  rw [for_at (hi xs h1), hρ, h7, Option.bind_some]
  cases u with
  | inl s =>
    obtain ⟨rfl, rfl⟩ := h8
    exact hr s t h4
  | inr t2 =>
    cases h4
    cases f2 with
    | rt d => exact ⟨_, _, rfl, h8.2⟩
    | ex n fs es => exact ⟨_, _, rfl, h8.2⟩
    | _ => cases h8.1
end

theorem run_T {τ : Type} {e : τ → D} {n : Nat} {kp : List Bool} {m : SM} {ds : List D} {mk : τ → List D} {o : Option τ} {r : τ} (hl : (ds.length == kp.length) = true) (hb : Bk (Qf e kp mk) m (ds ++ List.replicate (n - ds.length) .gone) o) (h : o = some r) : runM n kp m ds = some (e r, mk r) := by
  obtain ⟨fl, ρ', h1, h2, h3⟩ := hb r h
  unfold runM
  rw [if_pos (by simpa using hl), h1, Option.bind_some]
  rcases h2 with rfl | ⟨rfl, h2⟩
  · rw [← h3]
  · rw [← h3, h2]
end LI

namespace LI
open PySem L2

theorem icL {α : Type} {e e' : α → D} [Ic e e'] (xs : List α) : xs.map (fun x => ice (e x)) = xs.map e' := List.map_congr_left fun x _ => Ic.ic x
theorem fzL {α : Type} {e : α → D} [Fz e] (xs : List α) : frzL (xs.map e) = true := frzL_map.mpr fun x _ => Fz.fz x
theorem eL_map {α β : Type} {e : α → D} {f : β → D} {o : Bool} (k : α → β) (h : ∀ x, f (k x) = e x) (xs : List α) : eL o f (xs.map k) = eL o e xs := by
  unfold eL; rw [List.map_map]; congr 1; exact List.map_congr_left fun x _ => h x
section
variable {α β γ τ σ : Type} {e : α → D} {env : α → List D} {m mo : RM} {ms : AM} {g : GM} {ρ : List D} {o : Option α} {L : Lens}
theorem ev_get {x : α} (h : L.get ρ = some (e x)) : Ev e L.get ρ (some x) := fun y hy => by cases hy; exact h
def appT {α : Type} (xs : List α) (x : α) : Option (List α) := if xs.length < LIM then some (xs ++ [x]) else none
theorem eg_app {a : α → D} {xs : List α} {env : List α → List D} (h : L.get ρ = some (eL true a xs)) (hx : Ev a m ρ o) (hp : ∀ ys, L.put ρ (eL true a ys) = env ys) : Eg (fun _ => .non) env (appL L m) ρ (o.bind fun x => appT xs x) := fun ys hy => by
  obtain ⟨x, h1, h2⟩ := ob_some hy
  unfold appT at h2
  split at h2
  · rename_i q
    cases h2
    rw [LI.ev_app, h, Option.bind_some, hx x h1, Option.bind_some]
    show (if (xs.map a).length < LIM then _ else none) = _
    rw [if_pos (by simpa using q), ← hp]
    simp [eL]
  · cases h2
theorem b_fld {Q : Fl → List D → τ → Prop} {r : SM} {k : α → Option τ} {n : Nat} {f : Str} (env2 : α → List D) (h : Eg e env g ρ o) (hp : ∀ x, ((L.get (env x)).bind fun self => (setFD n f (e x) self).map fun self' => L.put (env x) self') = some (env2 x)) (h2 : ∀ x, Bk Q r (env2 x) (k x)) : Bk Q (seqM (fldM n f L g) r) ρ (o.bind k) := fun t ht => by
  obtain ⟨x, h3, h4⟩ := ob_some ht
  obtain ⟨fl, ρ', h5, h6⟩ := h2 x t h4
  refine ⟨fl, ρ', ?_, h6⟩
  have := hp x
  unfold seqM fldM
  rw [h x h3, Option.bind_some]
  cases w1 : L.get (env x) with
  | none => rw [w1] at this; cases this
  | some self =>
    rw [w1, Option.bind_some] at this
    simp only [w1, Option.bind_some]
    cases w2 : setFD n f (e x) self with
    | none => rw [w2] at this; cases this
    | some s2 =>
      rw [w2] at this
      have e2 : L.put (env x) s2 = env2 x := Option.some.inj this
      rw [Option.map_some, e2]
      exact h5
def To {κ : Type} (ec : κ → D) (et : τ → List D) (er : σ → D) (F : FM) (t : κ → τ → Option σ) : Prop := ∀ x p r, t x p = some r → ∃ ds', F (ec x :: et p) = some (er r, ec x :: ds')
def Tn {κ : Type} (n : Nat) (et : τ → List D) (ec : κ → D) (F : FM) (t : τ → Option κ) : Prop := ∀ p r, t p = some r → ∃ ds', F (.obj true n [] [] :: et p) = some (.non, ec r :: ds')
theorem x_look {κ : Type} {ec ec' : κ → D} {et et' : τ → List D} {er : σ → D} {F : FM} {t : κ → τ → Option σ} {n : Nat} {nm : Str} {os : Option τ} {ok : Option κ} [Fz ec] [Ic ec ec'] (hk : ∀ x, isObjK n nm (ec x) = true) (hT : To ec' et' er F t) (ho : Ev ec mo ρ ok) (hs : Ea et et' true ms ρ os) :
    Ev er (lookM n nm mo F ms) ρ (ok.bind fun x => os.bind fun p => t x p) := fun r hr => by
  obtain ⟨x, h1, h2⟩ := ob_some hr
  obtain ⟨p, h3, h4⟩ := ob_some h2
  obtain ⟨ds', h5⟩ := hT x p r h4
  unfold lookM
  rw [ho x h1, Option.bind_some, hs.run p h3, Option.bind_some, if_pos (hk x), iceL_cons, Ic.ic (e := ec), hs.ic, h5, Option.bind_some, if_pos (.inl (by rw [fzL_cons, Fz.fz, hs.fz rfl]; rfl))]
theorem x_mk {κ : Type} {ec : κ → D} {et et' : τ → List D} {F : FM} {t : τ → Option κ} {n : Nat} {os : Option τ} (hT : Tn n et ec F t) (hs : Ea et et' true ms ρ os) : Ev ec (mkM n F ms) ρ (os.bind t) := fun r hr => by
  obtain ⟨p, h1, h2⟩ := ob_some hr
  obtain ⟨ds', h3⟩ := hT p r h2
  unfold mkM
  rw [hs.run p h1, Option.bind_some, if_pos (hs.fz rfl p), h3, Option.bind_some]
end
class Ki {α : Type} (e : α → D) (k : outParam String) : Prop where
  ki : ∀ x, tyD (e x) = some k
instance : Ki eI "int" := ⟨fun _ => rfl⟩
instance : Ki eS "str" := ⟨fun _ => rfl⟩
section
variable {α β γ δ ε ζ : Type} {a : α → D} {b : β → D} {c : γ → D} {d : δ → D} {e : ε → D} {f : ζ → D} {o : Bool}
instance : Ki (eL o a) "list" := ⟨fun _ => rfl⟩
instance : Ki (e6 a b c d e f) "tuple" := ⟨fun _ => rfl⟩
end
theorem x_isK {α : Type} {e : α → D} {k ty : String} {b : Bool} [Ki e k] {m : RM} {ρ : List D} {o : Option α} (hb : kitB k ty = some b) (h : Ev e m ρ o) : Ev eB (isiM ty m) ρ (o.bind fun _ => some b) :=
  x_isi (fun _ => b) (fun x => by rw [Ki.ki (e := e), Option.bind_some, hb]) h
end LI
namespace OW
end OW

theorem bind_same {α : Type} (x : Option α) : (x.bind fun y => some y) = x := Option.bind_fun_some x
namespace LI
open PySem L2

section
variable {α β γ κ τ σ τ1 τ2 : Type} {Q : Fl → List D → τ → Prop} {e e' : α → D} {env : α → List D} {m r : SM} {g : GM} {mm mi : RM} {ms1 ms2 : AM} {ρ : List D} {o : Option α} {k : α → Option τ} {L : Lens}
theorem ice_set {i : Nat} {x : α} {ρ2 : List D} [Ic e e'] (h : ρ[i]? = some (e x)) (h2 : ρ.set i (e' x) = ρ2) : iceAt i ρ = ρ2 := by
  unfold iceAt
  rw [h]
  show ρ.set i (ice (e x)) = ρ2
  rw [Ic.ic (e := e), h2]
theorem b_frz {i : Nat} {x : α} {ρ2 : List D} {ot : Option τ} [Ic e e'] (h : ρ[i]? = some (e x)) (h2 : ρ.set i (e' x) = ρ2) (hb : Bk Q m ρ2 ot) : Bk Q (frzM i m) ρ ot := by
  intro t ht
  unfold frzM
  rw [ice_set (e := e) h h2]
  exact hb t ht
def setT {α : Type} (xs : List α) (i : Int) (x : α) : Option (List α) := (ixN xs.length i).map fun j => xs.set j x
theorem b_store {a : β → D} {v : α → β} {xs : α → List β} {oi : α → Option Int} {kk : α × List β → Option τ} (env2 : α × List β → List D) [Fz a] (h : Eg e env g ρ o) (hv : ∀ x, e x = a (v x)) (hg : ∀ x, L.get (env x) = some (eL true a (xs x))) (hi : ∀ x, Ev eI mi (env x) (oi x)) (hp : ∀ p, L.put (env p.1) (eL true a p.2) = env2 p) (h3 : ∀ p, Bk Q m (env2 p) (kk p)) :
    Bk Q (seqM (storeM L mi g) m) ρ (o.bind fun x => (oi x).bind fun i => (setT (xs x) i (v x)).bind fun ys => kk (x, ys)) := fun t ht => by
  obtain ⟨x, h4, h5⟩ := ob_some ht
  obtain ⟨i, h6, h7⟩ := ob_some h5
  obtain ⟨ys, h8, h9⟩ := ob_some h7
  obtain ⟨fl, ρ', k1, k2⟩ := h3 (x, ys) t h9
  refine ⟨fl, ρ', ?_, k2⟩
  unfold setT at h8
  cases ej : ixN (xs x).length i with
  | none => rw [ej] at h8; cases h8
  | some j =>
    rw [ej] at h8
    cases h8
    unfold seqM storeM
    rw [h x h4, Option.bind_some]
    dsimp only
    rw [hg, Option.bind_some, hi x i h6, Option.bind_some]
    show Option.bind (if frzL ((xs x).map a) = true ∧ frz (e x) = true then (ixN ((xs x).map a).length i).map _ else none) _ = _
    rw [if_pos ⟨fzL _, by rw [hv]; exact Fz.fz _⟩, List.length_map, ej, Option.map_some, Option.bind_some]
    dsimp only
    have := hp (x, (xs x).set j (v x))
    rw [show D.lst true (((xs x).map a).set j (e x)) = eL true a ((xs x).set j (v x)) by rw [hv]; simp [eL, List.map_set], this]
    exact k1
end
end LI

namespace LI
open PySem L2

section
variable {α β γ κ τ σ ζ η : Type} {Q : Fl → List D → τ → Prop} {e e1 : α → D} {env env1 : α → List D} {m r a b : SM} {g ga gb : GM} {mm : RM} {ρ : List D} {o : Option α} {c : BM} {mc md : BGM} {oc od : Option (Bool × α)} {k : α → Option τ}
end
end LI

namespace LI
open PySem L2

def kS (s : Ts) : Key := .inr ⟨(s.map Char.toNat).toArray⟩
class Ky {κ : Type} (ek : κ → D) (kk : outParam (κ → Key)) : Prop where
  ky : ∀ x, keyD (ek x) = some (kk x)
  inj : ∀ x y, kk x = kk y → x = y
instance : Ky eS kS := ⟨fun _ => rfl, fun x y h => by
  have h1 : (⟨(x.map Char.toNat).toArray⟩ : Str) = ⟨(y.map Char.toNat).toArray⟩ := Sum.inr.inj h
  have h2 : (x.map Char.toNat).toArray = (y.map Char.toNat).toArray := congrArg (fun s : Str => s.cps) h1
  exact ts_map_inj.mp (Array.toList_inj.mpr h2)⟩
def eD {κ α : Type} (o : Bool) (kk : κ → Key) (a : α → D) (m : List (κ × α)) : D := .dK o (m.map fun p => kk p.1) (m.map fun p => a p.2)
section
variable {κ α β : Type} {o : Bool} {ek : κ → D} {kk : κ → Key} {a a' : α → D} {ρ : List D} {ma mb mc mk mv : RM} {ms mt : AM}
theorem frzL2 [Fz a] : ∀ m : List (κ × α), frzL (m.map fun p => a p.2) = true
  | [] => rfl
  | p :: m => by rw [List.map_cons]; show (frz (a p.2) && frzL _) = true; rw [Fz.fz, frzL2 m]; rfl
instance : Ng (eD o kk a) := ⟨fun _ => rfl⟩
instance [Fz a] : Fz (eD false kk a) := ⟨fun m => by
  show (!false && frzL (m.map fun p => a p.2)) = true
  rw [frzL2]; rfl⟩
instance [Ic a a'] : Ic (eD o kk a) (eD false kk a') := ⟨fun m => by
  show D.dK false _ (iceL (m.map fun p => a p.2)) = .dK false _ (m.map fun p => a' p.2)
  congr 1
  induction m with
  | nil => rfl
  | cons p m ih => simp [iceL, ih, Ic.ic (e := a)]⟩
def getT {κ α : Type} [DecidableEq κ] : List (κ × α) → κ → Option α
  | [], _ => none
  | p :: m, k => if p.1 = k then some p.2 else getT m k
def Edp (kk : κ → Key) (a : α → D) (ms mt : AM) (ρ : List D) (o : Option (List (κ × α))) : Prop := ∀ m, o = some m → ∃ kds, ms ρ = some kds ∧ keyDs kds = some (m.map fun p => kk p.1) ∧ mt ρ = some (m.map fun p => a p.2)
theorem edp_nil : Edp kk a nilM nilM ρ (some []) := fun m h => by cases h; exact ⟨[], rfl, rfl, rfl⟩
def dispT {κ α : Type} [DecidableEq κ] (m : List (κ × α)) : Option (List (κ × α)) := if (m.map (·.1)).Nodup ∧ m.length ≤ 15 then some m else none
theorem nodup_kk [DecidableEq κ] (ek : κ → D) [Ky ek kk] : ∀ m : List (κ × α), (m.map (·.1)).Nodup → (m.map fun p => kk p.1).Nodup
  | [], _ => List.nodup_nil
  | p :: m, h => by
    rw [List.map_cons, List.nodup_cons] at h ⊢
    refine ⟨fun q => h.1 ?_, nodup_kk ek m h.2⟩
    obtain ⟨r, hr, e⟩ := List.mem_map.mp q
    rw [← Ky.inj ek _ _ e]
    exact List.mem_map_of_mem hr
theorem x_disp [DecidableEq κ] (ek : κ → D) [Ky ek kk] [Fz a] {om : Option (List (κ × α))} (h : Edp kk a ms mt ρ om) : Ev (eD true kk a) (dispM ms mt) ρ (om.bind fun m => dispT m) := fun z hz => by
  obtain ⟨m, h1, h2⟩ := ob_some hz
  unfold dispT at h2
  split at h2
  · rename_i q
    cases h2
    obtain ⟨kds, e1, e2, e3⟩ := h z h1
    unfold dispM
    rw [e1, Option.bind_some, e3, Option.bind_some, e2, Option.bind_some, if_pos ⟨nodup_kk ek z q.1, frzL2 z, by simpa using q.2, by simp⟩]
    rfl
  · cases h2
end
end LI
namespace LI
open PySem L2
def slX (l h : Option Int) : D → D
  | .tup ds => .tup (cutL ds l h)
  | d => d
def isTup : D → Bool
  | .tup _ => true | _ => false
theorem x_slK {α β : Type} {e : α → D} {f : β → D} [Fz e] {m : RM} {lo hi : OM} {ρ : List D} {o : Option α} (l h : Option Int) (k : α → β) (hk : ∀ x, slX l h (e x) = f (k x)) (ht : ∀ x, isTup (e x) = true) (hm : Ev e m ρ o) (hl : lo ρ = some l) (hh : hi ρ = some h) : Ev f (slM m lo hi) ρ (o.bind fun x => some (k x)) := fun z hz => by
  obtain ⟨x, h1, h2⟩ := ob_some hz
  cases h2
  rw [ev_slM, hm x h1, Option.bind_some, hl, Option.bind_some, hh, Option.bind_some]
  have h3 := hk x
  have h4 := ht x
  have h5 : frz (e x) = true := Fz.fz x
  cases hd : e x with
  | tup ds =>
    rw [hd] at h3 h5
    show (if frzL ds = true then some (D.tup (cutL ds l h)) else none) = _
    rw [if_pos (show frzL ds = true from h5), ← h3]; rfl
  | _ => rw [hd] at h4; cases h4
end LI

namespace LI
open PySem L2
section
variable {α β γ δ ε ζ : Type} {a : α → D} {b : β → D} {c : γ → D} {d : δ → D} {e : ε → D} {f : ζ → D}
end
section
variable {α : Type} {o : Bool} {e e' : α → D}
end
section
variable {α β σ τ : Type} {e : α → D} {env : α → List D} {g : GM} {ms : AGM} {ρ : List D} {o : Option α}
end
end LI

namespace LI
open PySem L2
section
variable {α β σ τ : Type} {o : Bool} {a : α → D} {xs : List α} {ρ : List D} {L : Lens} {mi : RM} {oi : Option Int} {envs : List α → List D} {g : GM}
end
end LI

namespace LI
open PySem L2
def k2 {α β : Type} (a : α → Key) (b : β → Key) (t : α × β) : List Key := [a t.1, b t.2]
section
variable {α β γ κ τ : Type} {a : α → Key} {b : β → Key} {c : γ → Key} {kk : κ → List Key} {e : α → D} {e' : κ → D} {o : Bool} {ρ : List D} {m ma mb : RM} {ms : AM}
end
end LI

namespace LI
open PySem L2
structure GlT (K : PySem.W.Frag) (mg : Str → Option Value) (x : Str) (ss : List (List Nat)) : Prop where
  ex : ∃ a o its n, mg x = some (.ref a) ∧ K.lookup a = some o ∧ o.cls = .type "tuple" ∧ o.data = .seq its n ∧ its.size ≤ sizeLine ∧ Vals (ss.map fun s => V.str ⟨s.toArray⟩) its.toList
section
variable {X : Cx} {cl : Nat → Addr} {E : En} {pos : Pos} {x : Str}
theorem f_glK (ss : List (List Nat)) (G : GlT X.K X.mg x ss) (hg : Gl X x := by rfl) (hd : (x == ("__debug__" : Str)) = false := by decide) : PE X (.Name x pos) (tF ⟨X.K, cl, X.w⟩ E (kM (.kst ss))) := by
  obtain ⟨a, o, its, n, h1, h2, h3, h4, h5, h6⟩ := G.ex
  exact f_gl (v := .ref a) (.kst ss) ⟨_, h1, rfl⟩ (fun _ _ _ => ⟨a, rfl, .inr ⟨o, its, n, h2, h3, h4, h5, h6⟩, rfl⟩) hg hd
theorem ss_never {sts : List Stmt} : PSs X sts (tS ⟨X.K, cl, X.w⟩ E (seqM noM' skipM)) := ⟨fun pins s σ H D I ⟨P, S, ρ, fl, ρ', w, hm, q⟩ => by cases hm⟩
end
end LI

namespace LI
open PySem L2
section
variable {X : Cx} {pins : List (Addr × Obj)} {σ : L2.St} {H : Hp} {s : Shared}
end
end LI

namespace LI
open PySem L2
section
variable {X : Cx} {cl : Nat → Addr} {E : En} {e a b o i : Expr} {es : List Expr} {pos p apos cpos : Pos} {m ma mb : RM} {ms : AM} {L : Lens}
end
section
variable {α β γ κ τ : Type} {kk : κ → List Key} {kq : κ → Key} {ek : κ → D} {a : α → D} {o : Bool} {ρ : List D} {m ma mb : RM}
end
end LI

namespace LI
open PySem L2
def keyQ : Key → PyData
  | .inl i => .int i
  | .inr s => .str s
mutual
def toQ : D → Option PyData
  | .int i => some (.int i)
  | .str s => some (.str ⟨s.toArray⟩)
  | .key ks => some (.tuple (ks.map keyQ))
  | .tup ds => (toQL ds).map .tuple
  | _ => none
def toQL : List D → Option (List PyData)
  | [] => some []
  | d :: ds => (toQ d).bind fun p => (toQL ds).map fun ps => p :: ps
end
mutual
/-- a value that reads as data -/
def VD (K : PySem.W.Frag) (H : Hp) : PyData → V → Prop
  | .int i, v => v = .int i
  | .str s, v => v = .str s
  | .tuple ps, v => ∃ a xs, v = .ref a ∧ SqT K H a xs ∧ VDL K H ps xs
  | _, _ => False
def VDL (K : PySem.W.Frag) (H : Hp) : List PyData → List V → Prop
  | [], xs => xs = []
  | p :: ps, xs => ∃ y ys, xs = y :: ys ∧ VD K H p y ∧ VDL K H ps ys
end
section
variable {X : Cx} {pins : List (Addr × Obj)} {σ : L2.St} {H : Hp} {s : Shared}
end
theorem VDL.len {K : PySem.W.Frag} {H : Hp} : ∀ {ps : List PyData} {xs : List V}, VDL K H ps xs → ps.length = xs.length
  | [], xs, h => by obtain rfl : xs = [] := h; rfl
  | p :: ps, xs, ⟨y, ys, e, _, h⟩ => by subst e; simp [VDL.len h]
def isTupP : PyData → Bool
  | .tuple (_ :: _) => true
  | _ => false
def isPlP : PyData → Bool
  | .tuple _ => false
  | .none => false
  | _ => true
section
variable {X : Cx} {pins : List (Addr × Obj)} {σ : L2.St} {H : Hp} {s : Shared}
end
class Sd {α : Type} (e : α → D) (p : outParam (α → PyData)) (n : outParam Nat) : Prop where
  to : ∀ x, toQ (e x) = some (p x)
  al : ∀ x y, PySem.W.alike (p x) (p y) = true
  dp : ∀ x, (p x).depth ≤ n
  ok : (∀ x, isTupP (p x) = true) ∨ ∀ x, isPlP (p x) = true
def p2 {α β : Type} (p : α → PyData) (q : β → PyData) (t : α × β) : PyData := .tuple [p t.1, q t.2]
def p3 {α β γ : Type} (p : α → PyData) (q : β → PyData) (r : γ → PyData) (t : α × β × γ) : PyData := .tuple [p t.1, q t.2.1, r t.2.2]
end LI

namespace LI
open PySem L2
section
variable {c : LC} {E : En} {P P1 : Hp} {S S1 T U1 : FP} {σ σ1 : L2.St} {H H1 : Hp} {ρ ρ1 : List D}
end
section
variable {X : Cx} {cl : Nat → Addr} {E : En} {tg : Expr} {pos p : Pos} {x : Str}
end
end LI

namespace LI
open PySem L2
section
variable {X : Cx} {cl : Nat → Addr} {E : En} {es : List Expr} {pos : Pos} {ms : AGM}
end
section
variable {X : Cx} {cl : Nat → Addr} {E : En} {o : Expr} {pos apos : Pos} {g : GM}
end
section
variable {α β σ τ : Type} {Q : Fl → List D → τ → Prop} {e : α → D} {r body : SM} {ρ : List D} {k : σ → Option τ} {f : TgM} {kl : List Nat}
end
end LI

namespace LI
open PySem L2
section
variable {X : Cx} {cl : Nat → Addr} {E : En} {tg e2 : Expr} {pos p p2 tpos : Pos} {x : Str} {elts : List Expr} {kk : Nat} {m2 : RM}
end
section
variable {α β σ τ : Type} {Q : Fl → List D → τ → Prop} {e : α → D} {e2 : β → D} {r body : SM} {ρ : List D} {k : σ → Option τ} {f : TgM} {kl : List Nat} {mb : RM}
end
end LI

namespace LI
open PySem L2
section
variable {L : Lens}
end
section
variable {X : Cx} {cl : Nat → Addr} {E : En} {a : Expr} {pos p2 : Pos} {L : Lens}
end
section
variable {X : Cx} {cl : Nat → Addr} {E : En} {e : Expr} {pos apos : Pos} {g : GM}
end
section
variable {X : Cx} {cl : Nat → Addr} {E : En} {tg : Expr} {pos p p2 p3 : Pos} {x : Str}
end
section
variable {X : Cx} {cl : Nat → Addr} {E : En} {e : Expr} {m : RM}
end
section
variable {α β σ τ : Type} {Q : Fl → List D → τ → Prop} {e : α → D} {r body : SM} {ρ : List D} {k : σ → Option τ} {f : TgM} {kl : List Nat}
end
end LI

namespace LI
open PySem L2
section
variable {X : Cx} {cl : Nat → Addr} {E : En} {pos : Pos}
end
end LI

namespace LI
open PySem L2
section
variable {X : Cx} {cl : Nat → Addr} {E : En} {e a b : Expr} {es : List Expr} {pos : Pos} {m ma mb : RM} {ms : AM}
end
end LI
namespace LI
open PySem L2
section
variable {X : Cx} {cl : Nat → Addr} {E : En} {e o i : Expr} {pos pos' : Pos} {mi : RM} {g : GM} {L : Lens}
end
section
variable {α β γ σ τ κ : Type} {Q : Fl → List D → τ → Prop} {e : α → D} {env : α → List D} {m : SM} {ρ : List D} {L : Lens} {mi : RM} {g : GM} {o : Option α}
end
end LI

namespace LI
open PySem L2
def isiCM (n : Nat) (b : Bool) (m : RM) : RM := fun ρ => (m ρ).bind fun d => match d with
  | .obj _ k _ _ => if k = n then some (.bl b) else none
  | _ => none
section
variable {X : Cx} {cl : Nat → Addr} {E : En} {a : Expr} {pos p p2 : Pos} {ma : RM}
end
@[simp] theorem ev_isiC {n : Nat} {b : Bool} {m : RM} {ρ : List D} : isiCM n b m ρ = (m ρ).bind fun d => match d with
  | .obj _ k _ _ => if k = n then some (.bl b) else none
  | _ => none := (rfl)
class Dc {α : Type} (e : α → D) (f : outParam (D → Option α)) : Prop where
  dc : ∀ d x, f d = some x → d = e x
  od : ∀ x, f (e x) = some x
def dI : D → Option Int
  | .int i => some i
  | _ => none
def dS : D → Option Ts
  | .str s => if (s.map Char.ofNat).map Char.toNat = s then some (s.map Char.ofNat) else none
  | _ => none
def dAll {α : Type} (f : D → Option α) : List D → Option (List α)
  | [] => some []
  | d :: ds => (f d).bind fun x => (dAll f ds).bind fun xs => some (x :: xs)
def dL {α : Type} (f : D → Option α) : D → Option (List α)
  | .lst false ds => dAll f ds
  | _ => none
def d6 {α β γ δ ε ζ : Type} (f : D → Option α) (g : D → Option β) (h : D → Option γ) (i : D → Option δ) (j : D → Option ε) (k : D → Option ζ) : D → Option (α × β × γ × δ × ε × ζ)
  | .tup [a, b, c, d, e, l] => (f a).bind fun x => (g b).bind fun y => (h c).bind fun z => (i d).bind fun u => (j e).bind fun v => (k l).bind fun w => some (x, y, z, u, v, w)
  | _ => none
theorem ofNat_toNat (c : Char) : Char.ofNat c.toNat = c := by
  apply Char.ext
  have := Char.ofNat_toNat c
  exact congrArg Char.val this
theorem ts_back (s : Ts) : (s.map Char.toNat).map Char.ofNat = s := by
  rw [List.map_map]
  conv => rhs; rw [← List.map_id s]
  exact List.map_congr_left fun c _ => ofNat_toNat c
instance : Dc eI dI where
  dc := fun d x h => by cases d <;> simp [dI] at h; rw [h]; rfl
  od := fun _ => rfl
instance : Dc eS dS where
  dc := fun d x h => by
    cases d with
    | str s =>
      unfold dS at h
      dsimp only at h
      split at h
      · rename_i q
        cases h
        unfold eS; rw [q]
      · cases h
    | _ => cases h
  od := fun x => by
    show (if _ then _ else _) = _
    rw [ts_back, if_pos rfl]
  theorem dAll_dc {α : Type} {e : α → D} {f : D → Option α} [Dc e f] : ∀ (ds : List D) (xs : List α), dAll f ds = some xs → ds = xs.map e
    | [], xs, h => by cases h; rfl
    | d :: ds, xs, h => by
      obtain ⟨x, h1, h2⟩ := ob_some h
      obtain ⟨ys, h3, h4⟩ := ob_some h2
      cases h4
      rw [Dc.dc (e := e) d x h1, dAll_dc (e := e) ds ys h3, List.map_cons]
  theorem dAll_od {α : Type} {e : α → D} {f : D → Option α} [Dc e f] : ∀ xs : List α, dAll f (xs.map e) = some xs
    | [] => rfl
    | x :: xs => by rw [List.map_cons, dAll, Dc.od (e := e), Option.bind_some, dAll_od (e := e) xs]; rfl
instance {α : Type} {e : α → D} {f : D → Option α} [Dc e f] : Dc (eL false e) (dL f) where
  dc := fun d x h => by
    cases d with
    | lst o ds =>
      cases o with
      | true => cases h
      | false => unfold eL; rw [dAll_dc (e := e) ds x h]
    | _ => cases h
  od := fun x => dAll_od x
instance {α β γ δ ε ζ : Type} {a : α → D} {b : β → D} {c : γ → D} {k : δ → D} {l : ε → D} {r : ζ → D} {f : D → Option α} {g : D → Option β} {i : D → Option γ} {j : D → Option δ} {m : D → Option ε} {n : D → Option ζ} [Dc a f] [Dc b g] [Dc c i] [Dc k j] [Dc l m] [Dc r n] : Dc (e6 a b c k l r) (d6 f g i j m n) where
  dc := fun d x h => by
    unfold d6 at h
    split at h
    · obtain ⟨x1, h1, h⟩ := ob_some h
      obtain ⟨x2, h2, h⟩ := ob_some h
      obtain ⟨x3, h3, h⟩ := ob_some h
      obtain ⟨x4, h4, h⟩ := ob_some h
      obtain ⟨x5, h5, h⟩ := ob_some h
      obtain ⟨x6, h6, h⟩ := ob_some h
      cases h
      rw [Dc.dc (e := a) _ _ h1, Dc.dc (e := b) _ _ h2, Dc.dc (e := c) _ _ h3, Dc.dc (e := k) _ _ h4, Dc.dc (e := l) _ _ h5, Dc.dc (e := r) _ _ h6]; rfl
    · cases h
  od := fun x => by
    show (f (a x.1)).bind _ = _
    rw [Dc.od (e := a), Option.bind_some, Dc.od (e := b), Option.bind_some, Dc.od (e := c), Option.bind_some, Dc.od (e := k), Option.bind_some, Dc.od (e := l), Option.bind_some, Dc.od (e := r)]; rfl
theorem x_dec {α : Type} {e : α → D} {f : D → Option α} [Dc e f] {m : RM} {ρ : List D} {o : Option An} (h : Ev eA m ρ o) : Ev e m ρ (o.bind fun x => f x.d) := fun z hz => by
  obtain ⟨x, h1, h2⟩ := ob_some hz
  rw [h x h1]
  show some x.d = _
  rw [Dc.dc (e := e) x.d z h2]
def lenA (x : An) : Option Int := (lenD [x.d]).bind dI
theorem o1_lenA : O1 (fun d => lenD [d]) eA eI lenA := fun x z h => by
  obtain ⟨d, h1, h2⟩ := ob_some h
  show lenD [x.d] = _
  rw [h1, Dc.dc (e := eI) d z h2]
def mkAn (d : D) : Option An := if h : notGone d = true ∧ frz d = true then some ⟨d, h.1, h.2⟩ else none
def ixA (x : An) (i : Int) : Option An := (ixD x.d (.int i)).bind mkAn
theorem o2_ixA : O2 ixD eA eI eA ixA := fun x i z h => by
  obtain ⟨d, h1, h2⟩ := ob_some h
  show ixD x.d (.int i) = _
  rw [h1]
  unfold mkAn at h2
  split at h2
  · cases h2; rfl
  · cases h2
section
variable {X : Cx} {cl : Nat → Addr} {E : En} {e : Expr} {pos apos : Pos} {g : GM}
end
section
variable {α β σ τ : Type} {Q : Fl → List D → τ → Prop} {e : α → D} {env : α → List D} {m : SM} {ρ : List D} {L : Lens} {mi : RM} {g : GM} {o : Option α}
end
end LI

namespace LI
open PySem L2
def viewM (i : Nat) (m : RM) : RM := fun ρ => match ρ[i]? with
  | some d0 => if notGone d0 = true then (m (ρ.set i (ice d0))).bind fun d => if noIce d = true then some d else none else none
  | none => none
def viewsM : List Nat → RM → RM
  | [], m => m
  | i :: is, m => viewM i (viewsM is m)
theorem view_run {c : LC} {E : En} {i : Nat} {m : RM} {σ : L2.St} {H : Hp} {Q : VK} (h : tF c E (viewM i m) σ H Q) : tF c E m σ H Q := by
  obtain ⟨P, S, T, ρ, d, w, hm, q⟩ := h
  unfold viewM at hm
  split at hm
  · rename_i d0 hi
    split at hm
    · rename_i hn
      cases e1 : m (ρ.set i (ice d0)) with
      | none => rw [e1] at hm; cases hm
      | some d1 =>
        rw [e1, Option.bind_some] at hm
        split at hm
        · rename_i hz
          cases hm
          obtain ⟨v, Sd, R, hσ, hrep, hsum, hput⟩ := w.env.focus hi hn
          have henv := hput (coldP Sd P H) H (ice d0) fz (coldP_p w.ph) (fun _ _ _ h => h) (Rep.ice (coldP_p w.ph) d0 v Sd (fun a o h1 h2 => by unfold coldP; rw [if_pos h1]; exact h2) hrep)
          have w2 : Wd c E (coldP Sd P H) (fa fz R) T σ H (ρ.set i (ice d0)) := by
            refine ⟨henv, fun a => ?_, fun a h => ?_, w.th, coldP_h w.ph, w.p0.trans (coldP_p w.ph), w.fr, fun a h => ?_, fun a h => w.ns a (by have := hsum a; simp only [fa, fz] at h; omega), w.kp⟩
            · have := w.le a; have := hsum a; simp only [fa, fz]; omega
            · have h1 := w.le a
              have h2 := hsum a
              simp only [fa, fz] at h
              unfold coldP
              rw [if_neg (by omega)]
              exact w.out a (by omega)
            · by_cases hs : 0 < Sd a
              · exact .inr (w.ns a (by have := hsum a; omega))
              · unfold coldP at h
                rw [if_neg hs] at h
                exact w.np a h
          refine ⟨coldP Sd P H, fa fz R, T, _, d, w2, e1, fun v1 H' P2 U g r u1 u2 => ?_⟩
          have hP : ∀ a, ¬ 0 < Sd a → coldP Sd P H a = P a := fun a h => by unfold coldP; rw [if_neg h]
          refine q v1 H' (fun a => if 0 < Sd a then P a else P2 a) U ⟨fun a o h => ?_, g.h, fun a o h => ?_, fun a h => ?_⟩ (Rep.thaw (fun b o h1 h2 => ?_) d v1 U hz r) u1 fun a h => ?_
          · by_cases hs : 0 < Sd a
            · rw [if_pos hs]; exact h
            · rw [if_neg hs]; exact g.p a o (by rw [hP a hs]; exact h)
          · by_cases hs : 0 < Sd a
            · rw [if_pos hs] at h; exact g.h a o (w.ph a o h)
            · rw [if_neg hs] at h; exact g.ph a o h
          · by_cases hs : 0 < Sd a
            · rw [if_pos hs] at h; exact .inl h
            · rw [if_neg hs] at h
              rcases g.new a h with z | z
              · rw [hP a hs] at z; exact .inl z
              · exact .inr z
          · by_cases hs : 0 < Sd b
            · obtain ⟨o2, k1, k2⟩ := Rep.nt d0 v Sd hrep b hs
              have k3 := g.h b o2 k1
              rw [g.ph b o h1] at k3
              cases k3
              rw [h2] at k2; cases k2
            · rw [if_neg hs]; exact h1
          · obtain ⟨k1, k2⟩ := u2 a h
            refine ⟨k1, ?_⟩
            rw [if_neg (fun hs => Rep.there d0 v Sd hrep a hs k1)]
            exact k2
        · cases hm
    · cases hm
  · cases hm
theorem views_run {c : LC} {E : En} {m : RM} {σ : L2.St} {H : Hp} {Q : VK} : ∀ {is : List Nat}, tF c E (viewsM is m) σ H Q → tF c E m σ H Q
  | [], h => h
  | _ :: _, h => views_run (view_run h)
section
variable {X : Cx} {cl : Nat → Addr} {E : En} {e o : Expr} {pos apos : Pos} {m : RM} {L : Lens}
theorem f_view (is : List Nat) (h : PE X e (tF ⟨X.K, cl, X.w⟩ E m)) : PE X e (tF ⟨X.K, cl, X.w⟩ E (viewsM is m)) := PE_imp h fun _ _ _ h => views_run h
end
section
variable {α β : Type} {ρ : List D} {L : Lens} {m : RM}
theorem x_view {i : Nat} {is : List Nat} {e0 e' : α → D} [Ic e0 e'] [Ng e0] {x : α} {f : β → D} [Nic f] {o : Option β} (hi : ρ[i]? = some (e0 x)) (h : Ev f (viewsM is m) (ρ.set i (e' x)) o) : Ev f (viewsM (i :: is) m) ρ o := fun z hz => by
  show viewM i (viewsM is m) ρ = _
  unfold viewM
  rw [hi]
  dsimp only
  rw [if_pos (Ng.ng x), Ic.ic x, h z hz, Option.bind_some, if_pos (Nic.ni z)]
end
section
variable {α β γ δ ε ζ : Type} {a : α → D} {b : β → D} {c : γ → D} {d : δ → D} {e : ε → D} {f : ζ → D}
end
end LI

namespace LI
open PySem L2
def boolsD : List D → Option (List Bool)
  | [] => some []
  | .bl i :: ds => (boolsD ds).map fun is => i :: is
  | _ :: _ => none
theorem bools_v {c : LC} {P H : Hp} : ∀ {ds : List D} {xs : List V} {U : FP} {is : List Bool}, boolsD ds = some is → RepL c P H ds xs U → xs = is.map .bl
  | [], xs, U, is, h, r => by cases h; exact r.1
  | d :: ds, xs, U, is, h, ⟨y, ys, T, T2, e1, r, rs, _⟩ => by
    cases d with
    | bl b =>
      unfold boolsD at h
      cases z : boolsD ds with
      | none => rw [z] at h; cases h
      | some js => rw [z] at h; cases h; rw [e1, r.1, bools_v z rs]; rfl
    | _ => cases h
def allD : List D → Option D
  | [.lst _ ds] => (boolsD ds).map fun is => .bl (is.all id)
  | _ => none
theorem op_allD {c : LC} : OpA c (rAll c.K) allD := by
  intro P H e ds d vs U hf r Q q
  unfold allD at hf
  split at hf
  · rename_i o ds'
    obtain ⟨v, T, rfl, r1⟩ := repL1 r
    obtain ⟨a, xs, T', rfl, h, rl, _⟩ := lst_heap e r1
    cases z : boolsD ds' with
    | none => rw [z] at hf; cases hf
    | some is =>
      rw [z] at hf; cases hf
      have := bools_v z rl
      subst this
      exact ⟨a, is, rfl, .inl (.inl h), q.flat e ⟨rfl, rfl⟩⟩
  · cases hf
theorem bools_map : ∀ xs : List Bool, boolsD (xs.map eB) = some xs
  | [] => rfl
  | x :: xs => by show (boolsD (xs.map eB)).map _ = _; rw [bools_map xs]; rfl
theorem o1_all {o : Bool} : O1 (fun d => allD [d]) (eL o eB) eB (fun xs => some (xs.all id)) := fun x z h => by
  cases h
  show (boolsD (x.map eB)).map _ = _
  rw [bools_map]; rfl
end LI

namespace LI
open PySem L2
section
variable {X : Cx} {cl : Nat → Addr} {E : En} {e o : Expr} {pos apos : Pos} {m mo : RM}
end
section
variable {X : Cx} {cl : Nat → Addr} {E : En} {e o : Expr} {pos apos : Pos} {m mo : RM}
end
end LI

namespace LI
open PySem L2
section
variable {X : Cx}
def rEqE : R2 := fun x y H Q => ∃ a b, x = .ref a ∧ y = .ref b ∧ H a = some (.dK []) ∧ H b = some (.dK []) ∧ Q (.bl true) H
theorem op_eqE (hu : X.A.units + 64 < cLine) : OpR X (compareOp .Eq) rEqE := by
  intro pins s σ H x y v u Q I rx ry h
  obtain ⟨a, b, rfl, rfl, ha, hb, q⟩ := h
  have e1 : v = Value.ref a := rx
  have e2 : u = Value.ref b := ry
  rw [e1, e2]
  obtain ⟨_, na, va, ka, da⟩ := dk_of I.hok ha
  obtain ⟨_, nb, vb, kb, db⟩ := dk_of I.hok hb
  cases ka
  cases kb
  exact PySem.W.rcP_dicts na nb da db (by omega) (fun _ => .nil) _ _ ⟨.bl true, H, I, rfl, q⟩
end
def eqE : D → D → Option D
  | .dK _ [] [], .dK _ [] [] => some (.bl true)
  | _, _ => none
theorem op_eqqE {c : LC} : Op2 c rEqE eqE := by
  intro P H e da db d x y U1 U2 hf r1 r2 Q q
  unfold eqE at hf
  split at hf
  · cases hf
    have h1 : ∃ a, x = .ref a ∧ H a = some (.dK []) := by
      rename_i o1 o2
      cases o1 with
      | true => obtain ⟨a, xs, T, h, k, n, _, _⟩ := r1; exact ⟨a, h, by rw [k]; simp⟩
      | false => obtain ⟨a, xs, h, k, n, _⟩ := r1; exact ⟨a, h, e _ _ (by rw [k]; simp)⟩
    have h2 : ∃ a, y = .ref a ∧ H a = some (.dK []) := by
      rename_i o1 o2
      cases o2 with
      | true => obtain ⟨a, xs, T, h, k, n, _, _⟩ := r2; exact ⟨a, h, by rw [k]; simp⟩
      | false => obtain ⟨a, xs, h, k, n, _⟩ := r2; exact ⟨a, h, e _ _ (by rw [k]; simp)⟩
    obtain ⟨a, ha, ka⟩ := h1
    obtain ⟨b, hb, kb⟩ := h2
    exact ⟨a, b, ha, hb, ka, kb, q.flat e ⟨rfl, rfl⟩⟩
  · cases hf
def or2D (f g : D → D → Option D) (x y : D) : Option D := match f x y with
  | some d => some d
  | none => g x y
theorem op_or2 {c : LC} {r s : R2} {f g : D → D → Option D} (hf : Op2 c r f) (hg : Op2 c s g) : Op2 c (fun x y H Q => r x y H Q ∨ s x y H Q) (or2D f g) := by
  intro P H e da db d x y U1 U2 h r1 r2 Q q
  unfold or2D at h
  cases z : f da db with
  | some d' => rw [z] at h; cases h; exact .inl (hf P H e _ _ _ _ _ _ _ z r1 r2 Q q)
  | none => rw [z] at h; exact .inr (hg P H e _ _ _ _ _ _ _ h r1 r2 Q q)
theorem flat_eqE : FlatOp (or2D eqD eqE) := fun a b d h => by
  unfold or2D at h
  cases z : eqD a b with
  | some k => rw [z] at h; cases h; exact flat_eq a b _ z
  | none =>
    rw [z] at h
    dsimp only at h
    unfold eqE at h
    split at h
    · cases h; rfl
    · cases h
def eqAE (x y : An) : Option Bool := match eqA x y with
  | some b => some b
  | none => match x.d, y.d with
    | .dK _ [] [], .dK _ [] [] => some true
    | _, _ => none
theorem o2_eqAE : O2 (or2D eqD eqE) eA eA eB eqAE := fun x y z h => by
  unfold eqAE at h
  unfold or2D
  cases e : eqA x y with
  | some b =>
    rw [e] at h; cases h
    rw [o2_eqA x y _ e]
  | none =>
    rw [e] at h
    have e2 : eqD (eA x) (eA y) = none := by unfold eqA at e; simp [eqD, eA, e]
    rw [e2]
    dsimp only at h ⊢
    split at h
    · rename_i h1 h2
      cases h
      unfold eA
      rw [h1, h2]; rfl
    · cases h
def lvB : Fl → Bool
  | .rt _ => true
  | .ex _ _ _ => true
  | _ => false
def forFL (f : TgM) (mc : BM) (ml : SM) (kl : List Nat) : List D → List D → Option (Fl × List D)
  | [], ρ => some (.nx, ρ)
  | d :: ds, ρ => (f d ρ).bind fun ρ1 => (mc ρ1).bind fun b => if b = true then (ml ρ1).bind fun r => if lvB r.1 = true then some r else none else forFL f mc ml kl ds (goneAt ρ1 kl)
def forFM (L : Lens) (f : TgM) (mc : BM) (ml : SM) (kl : List Nat) : SM := fun ρ => (L.get ρ).bind fun d => match d with
  | .lst true ds => if frzL ds = true then forFL f mc ml kl ds ρ else none
  | _ => none
theorem forF_run {c : LC} {E : En} {L : Lens} {tl kl : List Nat} {f : TgM} {mc : BM} {ml : SM} {D : Ends} {σ : L2.St} {H : Hp} (h : tS c E (forFM L f mc ml kl) D σ H) : tFor (iList c.K (tPl c E L)) (tPG c E tl f) (tIfS (tT c E mc) (tS c E ml) tNext) D σ H := by
  obtain ⟨P, S, ρ, fl, ρ', w, hm, q⟩ := h
  unfold forFM at hm
  cases e1 : L.get ρ with
  | none => rw [e1] at hm; cases hm
  | some d0 =>
    rw [e1, Option.bind_some] at hm
    split at hm
    · rename_i ds
      split at hm
      · rename_i hz
        refine ⟨P, S, fz, ρ, _, w, e1, fun v Sd R l => ?_⟩
        obtain ⟨a, xs, T1, ev, hh, rl, hf⟩ := l.rep
        have z := RepL.frz0 ds xs T1 hz rl
        subst z
        refine ⟨a, ev, ⟨xs, .inl (.inl hh)⟩, ?_⟩
        have hlen : ds.length = xs.length := rl.length
        refine for_it (walk_list (xs := xs)) (fun i σi Hi => ∃ P2 S2 ρi, Wd c E P2 S2 fz σi Hi ρi ∧ Ex P P2 ∧ Hi a = some (.lst xs) ∧ forFL f mc ml kl (ds.drop i) ρi = some (fl, ρ')) ?_ ?_ ?_ ?_
        · exact ⟨P, S, ρ, w, .refl _, hh, hm⟩
        · rintro i σi Hi hi ⟨P2, S2, ρi, w2, e2, ha, _⟩
          exact .inl (.inl ha)
        · rintro i x σi Hi H3 hi ⟨P2, S2, ρi, w2, e2, ha, hf⟩ y
          obtain ⟨rfl, hx⟩ := y
          obtain ⟨d, hd, rd⟩ := rep_get0 (RepL.mono (H' := H3) e2 ds xs fz (fun b o hb _ => by simp [fz] at hb) rl) hx
          have hdrop : ds.drop i = d :: ds.drop (i + 1) := by
            have hi2 : i < ds.length := by omega
            rw [List.drop_eq_getElem_cons hi2]
            congr 1
            rw [List.getElem?_eq_getElem hi2] at hd
            exact Option.some.inj hd
          rw [hdrop] at hf
          unfold forFL at hf
          cases ef : f d ρi with
          | none => rw [ef] at hf; cases hf
          | some ρ1 =>
            rw [ef, Option.bind_some] at hf
            cases ec : mc ρ1 with
            | none => rw [ec] at hf; cases hf
            | some b =>
              rw [ec, Option.bind_some] at hf
              have w3 : Wd c E P2 S2 (fa fz fz) σi H3 ρi := by rw [fa_fz]; exact w2
              refine ⟨P2, S2, fz, fz, ρi, d, ρ1, w3, rd, ef, fun σ4 S4 w4 _ _ => ⟨P2, S4, fz, ρ1, b, w4, ec, fun H' P' g => ?_⟩⟩
              cases b with
              | true =>
                rw [if_pos rfl] at hf
                cases el : ml ρ1 with
                | none => rw [el] at hf; cases hf
                | some r =>
                  obtain ⟨f1, ρ2⟩ := r
                  rw [el, Option.bind_some] at hf
                  split at hf
                  · rename_i hlv
                    cases hf
                    refine iteT ⟨P', S4, ρ1, fl, ρ', w4.grow g, el, ?_⟩
                    cases fl with
                    | rt d' => exact q
                    | ex n fs es => exact fun vs σ' H' P' S' U w' x' => q vs σ' H' P' S' U w' ((e2.trans g.p).trans x')
                    | _ => cases hlv
                  · cases hf
              | false =>
                rw [if_neg (by decide)] at hf
                refine iteF ?_
                obtain ⟨S5, w5⟩ := (w4.grow g).forget kl
                exact ⟨P', S5, _, w5, e2.trans g.p, g.h _ _ ha, hf⟩
        · rintro σi Hi ⟨P2, S2, ρi, w2, e2, _, hf⟩
          rw [← hlen, List.drop_length] at hf
          cases hf
          exact q σi Hi P2 S2 w2 e2
      · cases hm
    · cases hm
section
variable {X : Cx} {cl : Nat → Addr} {E : En} {pos pos2 : Pos}
theorem s_forF {iter tg cond : Expr} {sb : List Stmt} {tl : List Nat} (kl : List Nat) {f : TgM} {mc : BM} {ml : SM} {L : Lens} (hp : PassesOwn (model X.prog X.w) X.A X.env X.xe) (hc : X.calm = true) (hi : PE X iter (tPl ⟨X.K, cl, X.w⟩ E L)) (hg : PG X tg (tPG ⟨X.K, cl, X.w⟩ E tl f)) (ht : PT X cond (tT ⟨X.K, cl, X.w⟩ E mc)) (hb : PSs X sb (tS ⟨X.K, cl, X.w⟩ E ml))
    (hs : ∀ x, foldedSetIterable iter X.env x = pure x := by intro _; rfl) : PS X (.For tg iter [.If cond sb [] pos2] [] pos) (tS ⟨X.K, cl, X.w⟩ E (forFM L f mc ml kl)) := PS_imp (ps_for hp hc (pi_list hi) hg (pss_one (ps_if ht hb pss_nil)) hs) fun _ _ _ h => forF_run h
end
def srchT {α : Type} (c : α → Option Bool) : List α → Option (Option α)
  | [] => some none
  | x :: xs => (c x).bind fun b => if b = true then some (some x) else srchT c xs
def srchK {α υ : Type} (u : Option α) (r : Option υ) (k : α → Option υ) : Option υ := match u with
  | some x => k x
  | none => r
def Qr {τ : Type} (Q : Fl → List D → τ → Prop) : Fl → List D → τ → Prop := fun fl ρ t => lvB fl = true ∧ Q fl ρ t
theorem b_forF {α υ : Type} {Q : Fl → List D → υ → Prop} {m ml : SM} {mc : BM} {ρ : List D} {e : α → D} [Fz e] {L : Lens} {xs : List α} {c : α → Option Bool} {f : TgM} {kl : List Nat} {env1 : α → List D} {kx : α → Option υ} {r : Option υ} (hL : L.get ρ = some (eL true e xs)) (hf : ∀ x, f (e x) ρ = some (env1 x)) (hg : ∀ x, goneAt (env1 x) kl = ρ)
    (hc : ∀ x, Et mc (env1 x) (c x)) (hl : ∀ x, Bk (Qr Q) ml (env1 x) (kx x)) (hr : Bk Q m ρ r) : Bk Q (seqM (forFM L f mc ml kl) m) ρ ((srchT c xs).bind fun u => srchK u r kx) := fun t ht => by
  obtain ⟨u, h1, h2⟩ := ob_some ht
  have key : ∀ (ys : List α) (u : Option α), srchT c ys = some u → match u with
      | some x => ∀ t, kx x = some t → ∃ fl ρ', forFL f mc ml kl (ys.map e) ρ = some (fl, ρ') ∧ lvB fl = true ∧ Q fl ρ' t
      | none => forFL f mc ml kl (ys.map e) ρ = some (.nx, ρ) := by
    intro ys
    induction ys with
    | nil => intro u hu; cases hu; rfl
    | cons y ys ih =>
      intro u hu
      unfold srchT at hu
      obtain ⟨b, h3, h4⟩ := ob_some hu
      cases b with
      | true =>
        rw [if_pos rfl] at h4
        cases h4
        intro t ht
        obtain ⟨fl, ρ', h5, h6, h7⟩ := hl y t ht
        refine ⟨fl, ρ', ?_, h6, h7⟩
        rw [List.map_cons]
        unfold forFL
        rw [hf, Option.bind_some, hc y _ h3, Option.bind_some, if_pos rfl, h5, Option.bind_some, if_pos h6]
      | false =>
        rw [if_neg (by decide)] at h4
        have := ih u h4
        have e2 : forFL f mc ml kl ((y :: ys).map e) ρ = forFL f mc ml kl (ys.map e) ρ := by
          rw [List.map_cons]
          conv => lhs; unfold forFL
          rw [hf, Option.bind_some, hc y _ h3, Option.bind_some, if_neg (by decide), hg]
        cases u with
        | some x => intro t ht; obtain ⟨fl, ρ', h5⟩ := this t ht; exact ⟨fl, ρ', by rw [e2]; exact h5.1, h5.2⟩
        | none => show forFL f mc ml kl ((y :: ys).map e) ρ = _; rw [e2]; exact this
  have k := key xs u h1
  have hm : ∀ r, forFL f mc ml kl (xs.map e) ρ = r → forFM L f mc ml kl ρ = r := fun r hr => by
    unfold forFM eL at *
    rw [hL, Option.bind_some]
    dsimp only
    rw [if_pos (fz_map xs)]
    exact hr
  cases u with
  | some x =>
    obtain ⟨fl, ρ', h5, h6, h7⟩ := k t h2
    refine ⟨fl, ρ', ?_, h7⟩
    unfold seqM
    rw [hm _ h5, Option.bind_some]
    cases fl <;> first | rfl | cases h6
  | none =>
    obtain ⟨fl, ρ', h5, h6⟩ := hr t h2
    refine ⟨fl, ρ', ?_, h6⟩
    unfold seqM
    rw [hm _ k, Option.bind_some]
    exact h5
end LI

namespace LI
open PySem PySem.Spec PyProof.Rows L2

structure NOk (K : PySem.W.Frag) (H : Hp) (a : Addr) (l : List (NestedKey × Addr × V)) : Prop where
  ne : (a == sysModules) = false
  le : l.length ≤ sizeLine
  nd : (l.map (·.1)).Nodup
  at_ : ∀ p ∈ l, NkRep K H p.1 (.ref p.2.1) ∧ p.1.depth ≤ 8
def valN (l : List (NestedKey × Addr × V)) (k : NestedKey) : Option V := valV (l.map fun p => (p.1, p.2.2)) k
section
variable {X : Cx} {pins : List (Addr × Obj)} {σ : L2.St} {H : Hp} {s : Shared}
def DGetN (K : PySem.W.Frag) (w : World) (H : Hp) (a : Addr) (y : V) (r : Option V) : Prop :=
  ∃ l k b, DnAt w H a l ∧ NOk K H a l ∧ y = .ref b ∧ NkRep K H k (.ref b) ∧ k.depth ≤ 8 ∧ r = valN l k
def IsDN (K : PySem.W.Frag) (w : World) (H : Hp) (a : Addr) : Prop := ∃ l, DnAt w H a l ∧ NOk K H a l
variable {a : Addr} {y v d : V} {u r : Value} {o : Option V} {A : Around} {E : Value → Shared → Prop}
theorem DGetN.is (g : DGetN X.K X.w H a y o) : IsDN X.K X.w H a := by
  obtain ⟨l, _, _, e, ok, _⟩ := g
  exact ⟨l, e, ok⟩
end
section
variable {X : Cx} {o i e f value : Expr} {pos pos' tpos apos cpos : Pos} {td ty tv tx : TE}
end
end LI

namespace LI
open PySem PySem.Spec PyProof.Rows L2
def keyN : Key → NestedKey
  | .inl i => .num i
  | .inr x => .text x
mutual
/-- a thing as a key -/
def toNk : D → Option NestedKey
  | .non => some .none
  | .int i => some (.num i)
  | .str s => some (.text ⟨s.toArray⟩)
  | .kst ss => some (.tup (ss.map fun s => .text ⟨s.toArray⟩))
  | .key ks => some (.tup (ks.map keyN))
  | .tup ds => (toNkL ds).map .tup
  | _ => none
def toNkL : List D → Option (List NestedKey)
  | [] => some []
  | d :: ds => (toNk d).bind fun k => (toNkL ds).map fun ks => k :: ks
end
def nkT (d : D) : Option NestedKey := (toNk d).bind fun k => match k with
  | .tup ks => if (NestedKey.tup ks).depth ≤ 8 then some (.tup ks) else none
  | _ => none
section
variable {X : Cx} {cl : Nat → Addr} {E : En} {e a b o i : Expr} {es : List Expr} {pos p apos cpos : Pos} {m ma mb : RM} {ms : AM} {L : Lens}
end
class Nk {κ : Type} (e : κ → D) (f : outParam (κ → NestedKey)) : Prop where
  nk : ∀ x, nkT (e x) = some (f x)
  inj : ∀ x y, f x = f y → x = y
def n2 {α β : Type} (a : α → NestedKey) (b : β → NestedKey) (t : α × β) : NestedKey := .tup [a t.1, b t.2]
section
variable {α β γ κ τ : Type} {a : α → D} {b : β → D} {e : α → D} {ek : κ → D} {f : α → NestedKey} {g : β → NestedKey} {nk : κ → NestedKey} {i j : Nat} {o : Bool} {ρ : List D} {m ma mb : RM}
end
section
variable {X : Cx} {cl : Nat → Addr} {E : En} {e : Expr} {m : RM}
end
end LI

namespace LI
open PySem PySem.Spec PyProof.Rows L2 PySem.W

structure Sk (P : Program) (w : World) (κ : Type) [DecidableEq κ] where
  knd : KeyKind P w κ
  of : κ → Tok → Value
  key : Value → κ
  enc : κ → PyData
  vv : κ → V
  is_of : ∀ k t, knd.is k (of k t) = true
  is_iff : ∀ k j t, knd.is k (of j t) = true ↔ j = k
  scan : ∀ k t, (of k t).scannable = true
  key_of : ∀ k t, key (of k t) = k
  reads : ∀ (h : Heap) k t, Reads h (of k t) (enc k) []
  alk : ∀ k j, alike (enc k) (enc j) = true
  oth : ∀ k, enc k ≠ .none ∧ ∀ xs, enc k ≠ .tuple xs
  dep : ∀ k, (enc k).depth = 0
  rel : ∀ k t, RelV (vv k) (of k t)
  back : ∀ k u, RelV (vv k) u → ∃ t, u = of k t
  tr : ∀ a b c, dataLe false enc a b = true → dataLe false enc b c = true → dataLe false enc a c = true
  tot : ∀ a b, (dataLe false enc a b || dataLe false enc b a) = true
  anti : ∀ a b, dataLe false enc a b = true → dataLe false enc b a = true → a = b
section
variable {P : Program} {w : World} {κ : Type} [DecidableEq κ] {Z : Sk P w κ} {A : Around} {E : Value → Shared → Prop} {s : Shared} {q : Addr} {M : κ → Bool} {c : Nat}
def nub {α : Type} [DecidableEq α] : List α → List α
  | [] => []
  | k :: ks => if k ∈ ks then nub ks else k :: nub ks
end
end LI

namespace LI
open PySem PySem.Spec PyProof.Rows L2 PySem.W

section
variable {X : Cx} {κ : Type} [DecidableEq κ] {Z : Sk X.prog X.w κ}
end
def leN (a b : List Nat) : Bool := decide (a ≤ b)
section
variable {X : Cx} {cl : Nat → Addr} {E : En} {e : Expr} {m : RM} {pos p1 p2 pos2 : Pos}
end
def leTs (a b : Ts) : Bool := leN (a.map Char.toNat) (b.map Char.toNat)
end LI

namespace LI
open PySem PySem.Spec PyProof.Rows L2 PySem.W

section
variable {P : Program} {w : World} {K : PySem.W.Frag} {tg : Expr} {d : Addr} {o : Obj} {l : List (NestedKey × Addr × V)}
end
section
variable {X : Cx} {cl : Nat → Addr} {E : En} {e tg : Expr} {m : RM} {pos p : Pos}
end
section
variable {X : Cx} {pins : List (Addr × Obj)} {σ : L2.St} {H : Hp} {s : Shared}
end
end LI

namespace LI
open PySem PySem.Spec PyProof.Rows L2
section
variable {α κ : Type} {ek : κ → D} {nk : κ → NestedKey} {a : α → D} {ρ : List D} {m : RM} {o : Bool}
end
end LI

namespace LI
open PySem L2
section
variable {α β κ σ τ : Type} [DecidableEq κ] {o : Bool} {a : α → D} {ek : κ → D} {kq : κ → Key} [Ky ek kq] {ρ : List D} {L : Lens} {mi : RM} {g : GM}
end
end LI

namespace LI
open PySem PySem.Spec PyProof.Rows L2 PySem.W
section
variable {prog : Program} {w : World} {A : Around} {E : Value → Shared → Prop} {s : Shared}
end
section
variable {X : Cx} {cl : Nat → Addr} {E : En} {e : Expr} {m : RM} {pos p1 p2 kpos : Pos}
end
end LI

namespace LI
open PySem PySem.Spec PyProof.Rows L2 PySem.W
section
variable {X : Cx} {cl : Nat → Addr} {E : En} {a b : Expr} {ga gb : GM} {pos : Pos}
end
section
variable {X : Cx} {cl : Nat → Addr} {E : En} {a : Expr} {g : GM} {pos : Pos}
end
end LI

namespace LI
open PySem PySem.Spec PyProof.Rows L2 PySem.W
section
variable {P : Program} {w : World} {K : PySem.W.Frag} {mg : Str → Option Value} {base : Heap} {sp : Sp}
end
section
variable {X : Cx} {cl : Nat → Addr} {E : En} {rest : List Stmt} {ma mb : SM}
end
section
variable {X : Cx} {cl : Nat → Addr} {E : En} {k : Nat} {f : Addr} {fd : FuncData} {F : FM} {CX : CXT} {XE : XK} {x y z : Str} {p cp apos pos c0 c1 : Pos} {j0 j1 : Nat}
end
section
variable {X : Cx} {cl : Nat → Addr} {E : En} {e o : Expr} {pos apos : Pos} {m mo : RM}
end
end LI

namespace LI
open PySem L2
section
variable {X : Cx} {cl : Nat → Addr} {E : En} {pos pos2 : Pos}
end
end LI

namespace LI
open PySem PySem.Spec PyProof.Rows L2 PySem.W
section
variable {X : Cx} {cl : Nat → Addr} {E : En} {pos : Pos}
end
section
variable {X : Cx} {cl : Nat → Addr} {E : En} {e : Expr} {es : List Expr} {pos p apos px : Pos} {ms : AGM} {CX : CXT} {k : Nat} {f : Addr} {fd : FuncData} {ps : List Str} {F : FM} {XE : XK} {x nm : Str}
end
section
variable {P : Program} {w : World} {K : PySem.W.Frag} {mg : Str → Option Value} {base : Heap} {cl : Nat → Addr}
end
section
variable {X : Cx} {cl : Nat → Addr} {E : En} {e : Expr} {es : List Expr} {pos p : Pos} {ms : AM} {CX : CXT} {k : Nat} {f : Addr} {fd : FuncData} {ps : List Str} {F : FM} {XE : XK} {x : Str} {dd : List D} {dvs : List V} {us : List Value}
end
section
variable {K : PySem.W.Frag} {x qual : Str} {st : Stmt} {dvs : List V} {f : Addr} {fd : FuncData} {ps : List Str}
end
section
variable {X : Cx} {cl : Nat → Addr} {E : En} {e : Expr} {es : List Expr} {pos p : Pos} {ms : AGM} {x : Str}
end
section
variable {X : Cx} {cl : Nat → Addr} {E : En} {pos : Pos}
end
section
variable {X : Cx} {cl : Nat → Addr} {E : En} {pos p1 p2 p3 : Pos} {e : Expr} {m : RM} {k : Nat}
end
section
variable {X : Cx} {cl : Nat → Addr} {E : En} {e : Expr} {es : List Expr} {pos p : Pos} {ms : AM} {CX : CXT} {k : Nat} {f : Addr} {fd : FuncData} {ps : List Str} {F : FM} {XE : XK} {x : Str} {dd : List D} {dvs : List V}
end
section
variable {X : Cx} {cl : Nat → Addr} {E : En} {e : Expr} {es : List Expr} {pos p : Pos} {ms : AGM} {CX : CXT} {k : Nat} {f : Addr} {fd : FuncData} {ps : List Str} {F : FM} {XE : XK} {x : Str} {dd : List D} {dvs : List V}
end
section
variable {X : Cx} {cl : Nat → Addr} {E : En} {a : Expr} {pos p2 : Pos} {ma : RM}
end
section
variable {X : Cx} {cl : Nat → Addr} {E : En} {e o : Expr} {pos apos : Pos} {m mo : RM}
end
section
variable {X : Cx} {cl : Nat → Addr} {E : En} {e o : Expr} {pos apos : Pos} {m mo : RM}
end
section
variable {X : Cx} {e : Expr} {te : TE} {apos cpos pos p : Pos}
end
section
variable {X : Cx} {cl : Nat → Addr} {E : En} {e : Expr} {apos cpos pos p : Pos} {m : RM}
end
end LI

namespace LI
open PySem PySem.Spec PyProof.Rows L2 PySem.W
section
variable {X : Cx}
end
section
variable {κ α : Type} {ek : κ → D} {kk : κ → Key} {a b e' : α → D} {n : Nat}
end
section
variable {X : Cx} {cl : Nat → Addr} {E : En} {e : Expr} {es : List Expr} {pos p : Pos} {ms : AGM} {x : Str}
end
end LI

namespace LI
open PySem L2
section
variable {α : Type} {e : α → D} {m : RM} {ρ : List D} {o : Option (List α)} {w : Bool}
end
section
variable {X : Cx} {cl : Nat → Addr} {E : En} {tg a b c : Expr} {pos : Pos} {ma mb mc : RM}
end
section
variable {ρ : List D} {ma mb mc : RM}
end
end LI
namespace LRV
open PySem PySem.Spec PyProof.Rows PySem.W RT L2
section
variable {prog : Program} {w : World} {A : Around} {E : Value → Shared → Prop} {s : Shared}
end
section
variable {X : Cx}
end
end LRV
namespace LI
open PySem L2
section
variable {X : Cx} {cl : Nat → Addr} {E : En} {pos p p2 pos2 : Pos} {e : Expr} {m : RM}
end
end LI
namespace LI
open PySem L2
def PeA (a : An) : Prop := ∃ p, toP a.d = some p ∧ p.canLay0 = true ∧ p.depth ≤ 20 ∧ p.eqv p = true
theorem PeA.mk {α : Type} [DecidableEq α] {e : α → D} {n : Nat} [Pe e n] (hn : n ≤ 20) {a : An} {x : α} (h : a.d = e x) : PeA a :=
  ⟨Pe.p e x, by rw [h]; exact Pe.to (e := e) x, Pe.lay (e := e) x, Nat.le_trans (Pe.dep (e := e) x) hn, by rw [Pe.eq (e := e)]⟩
theorem PeA.list : ∀ (xs : List An), (∀ a ∈ xs, PeA a) → ∃ ps, toPL (xs.map eA) = some ps ∧ PyData.canLayAll0 ps = true ∧ PyData.depthAll ps ≤ 20 ∧ PyData.eqvAll ps ps = true
  | [], _ => ⟨[], rfl, by simp [PyData.canLayAll0], by simp [PyData.depthAll], by simp [PyData.eqvAll]⟩
  | a :: xs, h => by
    obtain ⟨p, h1, h2, h3, h4⟩ := h a List.mem_cons_self
    obtain ⟨ps, q1, q2, q3, q4⟩ := PeA.list xs fun b hb => h b (List.mem_cons_of_mem _ hb)
    refine ⟨p :: ps, ?_, by simp [PyData.canLayAll0, h2, q2], by simp [PyData.depthAll]; omega, by simp [PyData.eqvAll, h4, q4]⟩
    have e : toP (eA a) = some p := h1
    simp [toPL, e, q1]
end LI

namespace LI
open PySem L2
section
variable {X : Cx} {cl : Nat → Addr} {E : En} {e o f0 : Expr} {apos cpos : Pos} {ma mb mc : RM}
end
end LI
namespace LI
open PySem L2
end LI

namespace LI
open PySem L2
section
variable {c : LC} {E : En} {P : Hp} {S T : FP} {σ : L2.St} {H : Hp} {ρ : List D}
theorem Wd.take (w : Wd c E P S T σ H ρ) {i : Nat} {d : D} (hρ : ρ[i]? = some d) (hn : notGone d = true) : ∃ v Sd S', σ[i]? = some (some v) ∧ Rep c P H d v Sd ∧ Wd c E P S' (fa T Sd) σ H (ρ.set i .gone) := by
  obtain ⟨v, Sd, R, hσ, hrep, hsum, hput⟩ := w.env.focus hρ hn
  have henv := hput P H .gone fz (.refl P) (fun _ _ _ h => h) rfl
  refine ⟨v, Sd, _, hσ, hrep, henv, fun b => ?_, fun b h => w.out b ?_, fun b h => ?_, w.ph, w.p0, w.fr, w.np, fun b h => w.ns b ?_, w.kp⟩
  · have := w.le b; have := hsum b; simp only [fa, fz] at *; omega
  · have := hsum b; simp only [fa, fz] at *; omega
  · by_cases z : 0 < T b
    · exact w.th b z
    · exact Rep.there d v Sd hrep b (by simp only [fa] at h; omega)
  · have := hsum b; simp only [fa, fz] at *; omega
end
end LI
namespace LI
open PySem L2
section
variable {X : Cx} {cl : Nat → Addr} {E : En} {pos : Pos}
end
section
variable {X : Cx} {cl : Nat → Addr} {E : En} {tg : Expr} {pos p : Pos} {x : Str}
end
section
variable {α σ τ : Type} {Q : Fl → List D → τ → Prop} {e : α → D} {r body : SM} {ρ : List D} {k : List α × σ → Option τ} {kl : List Nat}
end
end LI

namespace LI
open PySem L2
section
variable {X : Cx} {cl : Nat → Addr} {E : En} {pos apos : Pos} {o e : Expr} {g : GM} {m : RM}
end
section
variable {α β σ τ υ : Type} {Q : Fl → List D → υ → Prop} {e : α → D} {m body : SM} {ρ : List D} {f : TgM} {kl : List Nat} {ev : τ → D} {env : τ → List D} {g : GM} {o : Option τ}
end
end LI

namespace LI
open PySem PySem.Spec PyProof.Rows L2
section
variable {X : Cx} {pins : List (Addr × Obj)} {σ : L2.St} {H : Hp} {s : Shared}
variable {a : Addr} {y z d : V} {u r : Value} {A : Around} {E : Value → Shared → Prop}
end
section
variable {X : Cx} {o e f : Expr} {td ty tx : TE} {apos cpos : Pos}
end
section
variable {c : LC} {E : En} {P H : Hp} {S T : FP} {σ : L2.St} {ρ : List D} {L : Lens} {v : V} {d : D} {Sd R : FP}
end
section
variable {X : Cx} {cl : Nat → Addr} {E : En} {o i e : Expr} {p0 p1 p2 p3 p4 : Pos} {mi mx : RM} {L : Lens}
end
end LI
namespace LI
open PySem L2
section
variable {α β κ σ τ : Type} [DecidableEq κ] {o : Bool} {a : α → D} {ek : κ → D} {nk : κ → NestedKey} [Nk ek nk] {ρ : List D} {L : Lens} {mi : RM} {g : GM}
end
end LI
namespace LI
open PySem L2
end LI
namespace LI
open PySem L2
end LI

namespace LI
open PySem L2

@[simp] theorem foldT_nil {σ α : Type} {g : σ → α → Option σ} {s : σ} : foldT g [] s = some s := (rfl)
@[simp] theorem foldT_cons {σ α : Type} {g : σ → α → Option σ} {s : σ} {x : α} {xs : List α} : foldT g (x :: xs) s = (g s x).bind fun s => foldT g xs s := (rfl)
@[simp] theorem forT_nil {σ α τ : Type} {g : σ → α → Option (St σ τ)} {s : σ} : forT g [] s = some (.inl s) := (rfl)
theorem forT_cons {σ α τ : Type} {g : σ → α → Option (St σ τ)} {s : σ} {x : α} {xs : List α} : forT g (x :: xs) s = (g s x).bind fun u => match u with
    | .nx s => forT g xs s
    | .bk s => some (.inl s)
    | .rt t => some (.inr t) := (rfl)
@[simp] theorem seqT_inl {σ τ : Type} {s : σ} {k : σ → Option τ} : seqT (.inl s) k = k s := (rfl)
@[simp] theorem seqT_inr {σ τ : Type} {t : τ} {k : σ → Option τ} : seqT (.inr t) k = some t := (rfl)
theorem foldT_inv {σ α : Type} {g : σ → α → Option σ} (P : σ → Prop) : ∀ (xs : List α) (s : σ), P s → (∀ s x, P s → x ∈ xs → ∃ s', g s x = some s' ∧ P s') → ∃ s', foldT g xs s = some s' ∧ P s'
  | [], s, h, _ => ⟨s, rfl, h⟩
  | x :: xs, s, h, k => by
    obtain ⟨s1, h1, h2⟩ := k s x h (by simp)
    obtain ⟨s2, h3, h4⟩ := foldT_inv P xs s1 h2 fun s y hs hy => k s y hs (by simp [hy])
    exact ⟨s2, by rw [foldT_cons, h1]; exact h3, h4⟩
theorem foldT_cnt {σ α : Type} {g : σ → α → Option σ} (P : Nat → σ → Prop) : ∀ (xs : List α) (s : σ), P xs.length s → (∀ n s x, P (n + 1) s → x ∈ xs → ∃ s', g s x = some s' ∧ P n s') → ∃ s', foldT g xs s = some s' ∧ P 0 s'
  | [], s, h, _ => ⟨s, rfl, h⟩
  | x :: xs, s, h, k => by
    obtain ⟨s1, h1, h2⟩ := k xs.length s x h (by simp)
    obtain ⟨s2, h3, h4⟩ := foldT_cnt P xs s1 h2 fun n s y hs hy => k n s y hs (by simp [hy])
    exact ⟨s2, by rw [foldT_cons, h1]; exact h3, h4⟩
theorem forT_inv {σ α τ : Type} {g : σ → α → Option (St σ τ)} (P : σ → Prop) : ∀ (xs : List α) (s : σ), P s → (∀ s x, P s → x ∈ xs → ∃ s', g s x = some (.nx s') ∧ P s') → ∃ s', forT g xs s = some (.inl s') ∧ P s'
  | [], s, h, _ => ⟨s, rfl, h⟩
  | x :: xs, s, h, k => by
    obtain ⟨s1, h1, h2⟩ := k s x h (by simp)
    obtain ⟨s2, h3, h4⟩ := forT_inv P xs s1 h2 fun s y hs hy => k s y hs (by simp [hy])
    exact ⟨s2, by rw [forT_cons, h1]; exact h3, h4⟩
theorem forT_unit {α τ : Type} {g : Unit → α → Option (St Unit τ)} (xs : List α) (k : ∀ x, x ∈ xs → g () x = some (.nx ())) : forT g xs () = some (.inl ()) := by
  obtain ⟨s, h, _⟩ := forT_inv (fun _ => True) xs () trivial fun s x _ hx => ⟨(), k x hx, trivial⟩
  exact h
theorem whileT_succ {σ : Type} {p : σ → Option Bool} {g : σ → Option σ} {n : Nat} {s : σ} : whileT p g (n + 1) s = (p s).bind fun k => if k = true then (g s).bind fun s => whileT p g n s else some s := rfl
theorem whileT_inv {σ : Type} {p : σ → Option Bool} {g : σ → Option σ} (P : σ → Prop) (μ : σ → Nat) (E : σ → Prop) (h : ∀ s, P s → (p s = some false ∧ E s) ∨ (p s = some true ∧ ∃ s', g s = some s' ∧ P s' ∧ μ s' < μ s)) : ∀ (n : Nat) (s : σ), P s → μ s < n → ∃ s', whileT p g n s = some s' ∧ P s' ∧ E s'
  | 0, s, _, hm => absurd hm (Nat.not_lt_zero _)
  | n + 1, s, hp, hm => by
    rcases h s hp with ⟨h1, h2⟩ | ⟨h1, s1, h2, h3, h4⟩
    · exact ⟨s, by rw [whileT_succ, h1]; rfl, hp, h2⟩
    · obtain ⟨s2, k1, k2⟩ := whileT_inv P μ E h n s1 h3 (by omega)
      exact ⟨s2, by rw [whileT_succ, h1, Option.bind_some, if_pos rfl, h2]; exact k1, k2⟩
theorem foldT_gen {σ α : Type} {g : σ → α → Option σ} (P : List α → σ → Prop) (h : ∀ x xs s, P (x :: xs) s → ∃ s', g s x = some s' ∧ P xs s') : ∀ (xs : List α) (s : σ), P xs s → ∃ s', foldT g xs s = some s' ∧ P [] s'
  | [], s, hp => ⟨s, rfl, hp⟩
  | x :: xs, s, hp => by
    obtain ⟨s1, h1, h2⟩ := h x xs s hp
    obtain ⟨s2, h3, h4⟩ := foldT_gen P h xs s1 h2
    exact ⟨s2, by rw [foldT_cons, h1]; exact h3, h4⟩
theorem compG_map {α β : Type} {g : α → Option β} {f : α → β} : ∀ {xs : List α}, (∀ x ∈ xs, g x = some (f x)) → compG (fun _ => some true) g xs = some (xs.map f)
  | [], _ => rfl
  | x :: xs, h => by simp [compG, h x (by simp), compG_map (xs := xs) fun z hz => h z (by simp [hz])]
theorem compT_map {α β : Type} {g : α → Option β} {f : α → β} {xs : List α} (hl : xs.length ≤ LIM) (h : ∀ x ∈ xs, g x = some (f x)) : compT (fun _ => some true) g xs = some (xs.map f) := by
  unfold compT; rw [if_pos hl]; exact compG_map h
theorem lenS_ok {s : Ts} (h : s.length ≤ LIM) : lenS s = some (s.length : Int) := if_pos h
theorem catS_ok {s t : Ts} (h : s.length + t.length ≤ LIM) : catS s t = some (s ++ t) := if_pos h
theorem catL_ok {α : Type} {s t : List α} (h : s.length + t.length ≤ LIM) : catL s t = some (s ++ t) := if_pos h
theorem appT_ok {α : Type} {s : List α} {x : α} (h : s.length < LIM) : appT s x = some (s ++ [x]) := if_pos h
theorem slS_ok {s : Ts} {lo hi : Option Int} (h : s.length ≤ LIM) : slS lo hi s = some (cutL s lo hi) := if_pos h
theorem ixS_ok {s : Ts} {i : Nat} (h : s.length ≤ LIM) (hi : i < s.length) : ixS s (i : Int) = some [s[i]] := by
  unfold ixS; rw [if_pos h, atI_nat hi]; rfl
theorem rngT_ok {n : Int} (h1 : -1000000000000 ≤ n) (h2 : n ≤ 1000000000000) : rngT n = some ((List.range n.toNat).map fun (k : Nat) => (k : Int)) := if_pos ⟨by omega, by omega⟩
theorem mulT_ok {a b : Int} (h1 : -1000000000000000000 ≤ a) (h2 : a ≤ 1000000000000000000) : mulT a b = some (a * b) := if_pos (.inl ⟨by omega, by omega⟩)
theorem modT_ok {a b : Int} (h : 0 < b) : modT a b = some (a % b) := if_pos h
theorem atI_ok {α : Type} {xs : List α} {i : Int} (h0 : 0 ≤ i) (h1 : i < (xs.length : Int)) : ∃ x ∈ xs, atI xs i = some x :=
  have : i.toNat < xs.length := by omega
  ⟨_, List.getElem_mem this, atI_at h0 this⟩
@[simp] theorem inS_1 {c : Char} {z : Ts} : inS [c] z = some (decide (c ∈ z)) := (rfl)
theorem mod_in (c n : Int) (hn : 0 < n) : 0 ≤ c % n ∧ c % n < n := ⟨Int.emod_nonneg _ (by omega), Int.emod_lt_of_pos _ hn⟩
theorem chars_mem {s x : Ts} (h : x ∈ chars s) : ∃ c ∈ s, x = [c] := by
  unfold chars at h
  obtain ⟨c, h1, h2⟩ := List.mem_map.mp h
  exact ⟨c, h1, h2.symm⟩
end LI

namespace LI
open PySem L2
end LI

namespace LI
open PySem L2 PyProof.Rows
theorem takesN0 {X : Cx} : L2N.Takes X (fun _ _ _ _ => False) := fun _ _ q => by
  obtain ⟨_, _, _, _, _, _, _, _, _, _, _, _, _, _, _, _, z⟩ := q
  cases z
section
variable {P : Program} {w : World} {K : PySem.W.Frag} {mg : Str → Option Value} {base : Heap} {sp : Sp}
theorem okXN {x qual : Str} {st : Stmt} {f : Addr} {fd : FuncData} {N ps : List Str} {k : Nat} (F : Fun K x qual st f fd) (S : FnScope N ps (defScope st))
    (len : ∀ vs H Q E, sp vs H Q E → vs.length = ps.length)
    (hb : ∀ (cdv : Value) (A : Around) (outer : List Env) (s : Shared) (H : Hp) (vs : List V) (Q : VK) (E : XK), Room k (A.deeper (envOfC qual (defScope st) s.heap.objs.size f cdv)) → sp vs H Q E →
      ∃ t, PSs (cxOf (L2N.CX P w) P w K mg base N qual (defScope st) f cdv A outer s H E) (defBody st) t ∧ t { nx := fun _ H' => Q .non H', rt := Q } (L2.start N vs) H) :
    FnOk P w K mg base (L2N.CX P w) (k + 1) f fd ps sp := by
  obtain ⟨_, _, _, _, _, _, cdv, _, _, e0, lk, hcd⟩ := F.ex
  subst e0
  exact fn_of lk hcd S len fun A outer s H vs Q E hr h => hb cdv A outer s H vs Q E hr h
end
abbrev FX := List D → Option ((D × List D) ⊕ (Nat × List Str × List D × List D))
def XE0 (c : LC) (E : XK) (n : Nat) (fs : List Str) (vs : List V) (H' : Hp) : Prop :=
  (fs = [] → E (.ref (c.cl n)) none H') ∧ (fs ≠ [] → ∀ dd, H' dd = none → E (.ref (c.cl n)) (some dd) (upd H' dd (.xd (fs.zip vs))))
def spXr (c : LC) (P : Hp) (S : FP) (H : Hp) (vs : List V) (Q : VK) (E : XK) : (D × List D) ⊕ (Nat × List Str × List D × List D) → Prop
  | .inl (d, ds') => ∀ v H' P' U S', Stp P S H P' (fa U S') H' → Rep c P' H' d v U → RepL c P' H' ds' vs S' → Q v H'
  | .inr (n, fs, es, ds') => ∀ us H' P' S', Stp P S H P' S' H' → RepL c P' H' es us fz → RepL c P' H' ds' vs S' → XE0 c E n fs us H'
def spX (c : LC) (F : FX) : Sp := fun vs H Q E => ∃ P S ds r, RepL c P H ds vs S ∧ Ex P H ∧ (∀ a, S a ≤ 1) ∧ (∀ a, 0 < S a → P a = none) ∧ F ds = some r ∧ spXr c P S H vs Q E r
def runX (n : Nat) (kp : List Bool) (m : SM) : FX := fun ds => if ds.length = kp.length then (m (ds ++ List.replicate (n - ds.length) .gone)).bind fun r => match r.1 with
  | .rt d => some (.inl (d, maskL kp r.2))
  | .nx => some (.inl (.non, maskL kp r.2))
  | .ex k fs es => some (.inr (k, fs, es, maskL kp r.2))
  | _ => none
  else none
section
variable {P : Program} {w : World} {K : PySem.W.Frag} {mg : Str → Option Value} {base : Heap} {cl : Nat → Addr}
theorem ok_defX {x qual : Str} {st : Stmt} {f : Addr} {fd : FuncData} {N ps : List Str} {k : Nat} {kp : List Bool} {m : SM} (F : Fun K x qual st f fd) (S : FnScope N ps (defScope st)) (hk : kp.length = ps.length)
    (hbody : ∀ (cdv : Value) (A : Around) (outer : List Env) (s : Shared) (H : Hp) (E : XK) (e : En), e.kp = kp → (e.xw = fun cls d _ H' => E cls d H') → Room k (A.deeper (envOfC qual (defScope st) s.heap.objs.size f cdv)) →
      PSs (cxOf (L2N.CX P w) P w K mg base N qual (defScope st) f cdv A outer s H E) (defBody st) (tS ⟨K, cl, w⟩ e m)) : FnOk P w K mg base (L2N.CX P w) (k + 1) f fd ps (spX ⟨K, cl, w⟩ (runX N.length kp m)) := by
  refine okXN F S (fun vs H Q E h => ?_) (fun cdv A outer s H vs Q E hr h => ?_)
  · obtain ⟨Pp, Sp, ds, r0, r, _, _, _, hm, _⟩ := h
    unfold runX at hm
    split at hm
    · rename_i hl
      rw [← r.length, hl, hk]
    · cases hm
  · obtain ⟨Pp, Sp, ds, r0, r, e1, e2, e3, hm, q⟩ := h
    unfold runX at hm
    split at hm
    · rename_i hl
      have hlv : vs.length = kp.length := by rw [← r.length, hl]
      have hvs : ∀ i : Nat, kp[i]? = some true → ∃ v, vs[i]? = some v := fun i hi => by
        have hi' : i < kp.length := (List.getElem?_eq_some_iff.mp hi).1
        exact ⟨_, List.getElem?_eq_getElem (by omega)⟩
      refine ⟨_, hbody cdv A outer s H E ⟨Pp, H, Sp, kp, vs, hvs, fun cls d _ H' => E cls d H'⟩ rfl rfl hr, ?_⟩
      cases em : m (ds ++ List.replicate (N.length - ds.length) .gone) with
      | none => rw [em] at hm; cases hm
      | some rr =>
        obtain ⟨fl, ρ'⟩ := rr
        rw [em, Option.bind_some] at hm
        have w0 : Wd ⟨K, cl, w⟩ ⟨Pp, H, Sp, kp, vs, hvs, fun cls d _ H' => E cls d H'⟩ Pp Sp fz (L2.start N vs) H (ds ++ List.replicate (N.length - ds.length) .gone) := by
          refine ⟨?_, fun a => by have := e2 a; simp only [fz]; omega, fun a h => e3 a (by simpa [fz] using h), fun a h => by simp [fz] at h, e1, .refl _, fun _ _ _ h => h, fun a h => .inl h, fun a h => .inl (by simpa [fz] using h), fun i v h1 h2 => ?_⟩
          · unfold L2.start
            rw [r.length]
            exact repE_start _ r
          · unfold L2.start
            have h2 : vs[i]? = some v := h2
            rw [List.getElem?_append_left (by rw [List.length_map]; exact (List.getElem?_eq_some_iff.mp h2).1), List.getElem?_map, h2]
            rfl
        have fin : ∀ (v : V) (σ' : L2.St) (H' P' : Hp) (S' U : FP) (d1 : D), Wd ⟨K, cl, w⟩ ⟨Pp, H, Sp, kp, vs, hvs, fun cls d _ H' => E cls d H'⟩ P' S' U σ' H' ρ' → Rep ⟨K, cl, w⟩ P' H' d1 v U → some (Sum.inl (d1, maskL kp ρ') : (D × List D) ⊕ (Nat × List Str × List D × List D)) = some r0 → Q v H' := by
          intro v σ' H' P' S' U d1 w' rd hs
          cases hs
          obtain ⟨S2, k1, k2⟩ := mask_rep (kp := kp) (vs := vs) w'.env hlv.symm w'.kp
          exact q v H' P' U S2 ⟨w'.p0, w'.ph, w'.fr, w'.np, fun a h => w'.ns a (by have := k2 a; simp only [fa] at h; omega), fun a => by have := k2 a; have := w'.le a; simp only [fa]; omega, fun a h => w'.out a (by have := k2 a; simp only [fa] at h; omega)⟩ rd k1
        refine ⟨Pp, Sp, _, fl, ρ', w0, em, ?_⟩
        cases fl with
        | nx => exact fun σ' H' P' S' w' _ => fin .non σ' H' P' S' fz .non w' ⟨rfl, rfl⟩ hm
        | rt d1 => exact fun v σ' H' P' S' U w' r => fin v σ' H' P' S' U d1 w' r hm
        | bk => cases hm
        | ct => cases hm
        | ex n fs es =>
          cases hm
          intro us σ' H' P' S' U w' _ re
          obtain ⟨S2, k1, k2⟩ := mask_rep (kp := kp) (vs := vs) w'.env hlv.symm w'.kp
          exact q us H' P' S2 ⟨w'.p0, w'.ph, w'.fr, w'.np, fun a h => w'.ns a (by have := k2 a; omega), fun a => by have := k2 a; have := w'.le a; omega, fun a h => w'.out a (by have := k2 a; omega)⟩ re k1
    · cases hm
end
section
variable {X : Cx} {cl : Nat → Addr} {E : En} {e a b o : Expr} {es : List Expr} {pos p apos : Pos}
def raise0 (n : Nat) : SM := fun ρ => some (.ex n [] [], ρ)
theorem s_raise0 (n : Nat) (hc : X.calm = true) (tk : L2N.Takes X E.xw) (mk : L2N.PMk X e (fun _ H Q => Q (.ref (cl n)) none H)) : PS X (.Raise (some e) none pos) (tS ⟨X.K, cl, X.w⟩ E (raise0 n)) := PS_imp (L2N.ps_raise hc tk mk) fun D σ H ⟨P, S, ρ, fl, ρ', w, hm, q⟩ => by
  cases hm
  exact (q [] σ H P S fz w (.refl _) ⟨rfl, rfl⟩).1 rfl
abbrev XGM := List D → Option ((D × List D) ⊕ (Nat × List Str × List D × List D))
def tXr (c : LC) (E : En) (P : Hp) (σ : L2.St) (Q : VK) : (D × List D) ⊕ (Nat × List Str × List D × List D) → Prop
  | .inl (d, ρ') => ∀ v H' P' S' U, Wd c E P' S' U σ H' ρ' → Ex P P' → Rep c P' H' d v U → Q v H'
  | .inr (n, fs, es, ρ') => ∀ us H' P' S', Wd c E P' S' fz σ H' ρ' → Ex P P' → RepL c P' H' es us fz → XE1 c E.xw n fs us σ H'
def tX (c : LC) (E : En) (g : XGM) : TE := fun σ H Q => ∃ P S ρ r, Wd c E P S fz σ H ρ ∧ g ρ = some r ∧ tXr c E P σ Q r
def exprX (g : XGM) : SM := fun ρ => (g ρ).bind fun r => match r with
  | .inl (_, ρ') => some (.nx, ρ')
  | .inr (n, fs, es, ρ') => some (.ex n fs es, ρ')
theorem s_exprX {g : XGM} (he : PE X e (tX ⟨X.K, cl, X.w⟩ E g)) (hs : swapsWith e none pos.line X.env = pure false := by rfl) : PS X (.Expr e pos) (tS ⟨X.K, cl, X.w⟩ E (exprX g)) := PS_imp (ps_expr he hs) fun D σ H ⟨P, S, ρ, fl, ρ', w, hm, q⟩ => by
  unfold exprX at hm
  cases eg : g ρ with
  | none => rw [eg] at hm; cases hm
  | some r =>
    rw [eg, Option.bind_some] at hm
    refine ⟨P, S, ρ, r, w, eg, ?_⟩
    cases r with
    | inl r => cases hm; exact fun v H' P' S' U w' e rd => q σ H' P' S' (Wd.drop (T := fz) (U := U) (by rw [fz_fa]; exact w')) e
    | inr r => cases hm; exact fun us H' P' S' w' x re => q us σ H' P' S' fz w' x re
end
end LI

namespace LI
open PySem L2 PyProof.Rows
def kpAt (kp : List Bool) (i : Nat) : List Bool := (kp ++ List.replicate (i + 1 - kp.length) false).set i true
def vsAt (vs : List V) (i : Nat) (a : Addr) : List V := (vs ++ List.replicate (i + 1 - vs.length) V.non).set i (.ref a)
theorem kpAt_ne {kp : List Bool} {i j : Nat} (h : j ≠ i) (q : (kpAt kp i)[j]? = some true) : kp[j]? = some true := by
  unfold kpAt at q
  rw [List.getElem?_set_ne (Ne.symm h)] at q
  rcases Nat.lt_or_ge j kp.length with z | z
  · rwa [List.getElem?_append_left z] at q
  · rw [List.getElem?_append_right z, List.getElem?_replicate] at q
    split at q <;> cases q
theorem vsAt_self {vs : List V} {i : Nat} {a : Addr} : (vsAt vs i a)[i]? = some (.ref a) := by
  unfold vsAt
  rw [List.getElem?_set_self (by rw [List.length_append, List.length_replicate]; omega)]
theorem vsAt_ne {vs : List V} {i j : Nat} {a : Addr} {v : V} (h : j ≠ i) (q : vs[j]? = some v) : (vsAt vs i a)[j]? = some v := by
  unfold vsAt
  have hj := (List.getElem?_eq_some_iff.mp q).1
  rw [List.getElem?_set_ne (Ne.symm h), List.getElem?_append_left hj, q]
def enH (E : En) (P0 : Hp) (i : Nat) (a : Addr) : En := ⟨P0, E.H0, E.S0, kpAt E.kp i, vsAt E.vs i a, fun j h => by
  by_cases q : j = i
  · subst q; exact ⟨_, vsAt_self⟩
  · obtain ⟨v, hv⟩ := E.hv j (kpAt_ne q h)
    exact ⟨v, vsAt_ne q hv⟩, fun _ _ _ _ => False⟩
theorem Wd.wish {c : LC} {E : En} {P : Hp} {S T : FP} {σ : L2.St} {H : Hp} {ρ : List D} (w : Wd c E P S T σ H ρ) (W : WX) : Wd c { E with xw := W } P S T σ H ρ := ⟨w.env, w.le, w.out, w.th, w.ph, w.p0, w.fr, w.np, w.ns, w.kp⟩
theorem Wd.unwish {c : LC} {E : En} {P : Hp} {S T : FP} {σ : L2.St} {H : Hp} {ρ : List D} {W : WX} (w : Wd c { E with xw := W } P S T σ H ρ) : Wd c E P S T σ H ρ := ⟨w.env, w.le, w.out, w.th, w.ph, w.p0, w.fr, w.np, w.ns, w.kp⟩
theorem Wd.toSuite {c : LC} {E : En} {P : Hp} {S T : FP} {σ : L2.St} {H : Hp} {ρ : List D} (w : Wd c E P S T σ H ρ) (i : Nat) (a : Addr) (hi : i < σ.length) : ∃ S', Wd c (enH E P i a) P S' fz (σ.set i (some (.ref a))) H (ρ.set i .gone) := by
  obtain ⟨S', h1, h2⟩ := RepE.set (c := c) (P := P) (H := H) (d := .gone) (v := .ref a) (U := fz) rfl i w.env
  refine ⟨S', h1, fun x => by have := h2 x; have := w.le x; simp only [fz] at *; omega, fun x h => w.out x (by have := h2 x; simp only [fz] at *; omega), fun x h => by simp [fz] at h, w.ph, .refl _, w.fr, fun x h => .inl h, fun x h => w.ns x (by have := h2 x; simp only [fz] at *; omega), fun j v k1 k2 => ?_⟩
  by_cases q : j = i
  · subst q
    have k2 : (vsAt E.vs j a)[j]? = some v := k2
    rw [vsAt_self] at k2
    cases k2
    rw [List.getElem?_set_self hi]
  · have k3 := kpAt_ne q k1
    obtain ⟨u, hu⟩ := E.hv j k3
    have k2 : (vsAt E.vs i a)[j]? = some v := k2
    rw [vsAt_ne q hu] at k2
    cases k2
    rw [List.getElem?_set_ne (Ne.symm q)]
    exact w.kp j _ k3 hu
theorem RepE.unset {c : LC} {P H : Hp} : ∀ {ρ : List D} {σ : L2.St} {S : FP} (i : Nat), RepE c P H ρ σ S → ∃ S', RepE c P H (ρ.set i .gone) (σ.set i none) S' ∧ ∀ a, S' a ≤ S a
  | [], [], S, i, h => ⟨S, h, fun _ => Nat.le_refl _⟩
  | d0 :: ρ, v0 :: σ, S, 0, ⟨T, T2, h1, h2, f⟩ => ⟨fa fz T2, ⟨fz, T2, ⟨rfl, rfl⟩, h2, rfl⟩, fun a => by rw [f]; simp only [fa, fz]; omega⟩
  | d0 :: ρ, v0 :: σ, S, i + 1, ⟨T, T2, h1, h2, f⟩ => by
    obtain ⟨S', k1, k2⟩ := RepE.unset i h2
    exact ⟨fa T S', ⟨T, S', h1, k1, rfl⟩, fun a => by have := k2 a; rw [f]; simp only [fa]; omega⟩
  | [], _ :: _, _, _, h => h.elim
  | _ :: _, [], _, _, h => h.elim
theorem Wd.fromSuite {c : LC} {E : En} {P0 P3 H0 H3 : Hp} {S0 T0 S T : FP} {σ0 σ : L2.St} {ρ0 ρ : List D} {i : Nat} {a : Addr} (w0 : Wd c E P0 S0 T0 σ0 H0 ρ0) (hk : E.kp[i]? ≠ some true) (w : Wd c (enH E P0 i a) P3 S T σ H3 ρ) : ∃ S', Wd c E P3 S' T (σ.set i none) H3 (ρ.set i .gone) := by
  obtain ⟨S', h1, h2⟩ := RepE.unset i w.env
  refine ⟨S', h1, fun x => by have := h2 x; have := w.le x; omega, fun x h => w.out x (by have := h2 x; omega), w.th, w.ph, w0.p0.trans w.p0, w.fr, fun x h => ?_, fun x h => w.ns x (by have := h2 x; omega), fun j v k1 k2 => ?_⟩
  · rcases w.np x h with z | z | z
    · exact w0.np x z
    · exact .inr (.inl z)
    · exact .inr (.inr z)
  · have q : j ≠ i := fun z => hk (z ▸ k1)
    rw [List.getElem?_set_ne (Ne.symm q)]
    refine w.kp j v ?_ (vsAt_ne q k2)
    show (kpAt E.kp i)[j]? = some true
    unfold kpAt
    rw [List.getElem?_set_ne (Ne.symm q), List.getElem?_append_left (List.getElem?_eq_some_iff.mp k1).1, k1]
structure Held (c : LC) (E : En) (i : Nat) (a : Addr) (n : Nat) (fs : List Str) (es : List D) (cls : Value) (d : Option Addr) : Prop where
  kp : E.kp[i]? = some true
  vs : E.vs[i]? = some (.ref a)
  cls : cls = .ref (c.cl n)
  no : fs = [] → d = none
  fld : fs ≠ [] → ∃ dd us, d = some dd ∧ E.P0 dd = some (.xd (fs.zip us)) ∧ ∀ H, RepL c E.P0 H es us fz
def tSu (c : LC) (kp : List Bool) (i : Nat) (mh : Nat → List Str → List D → SM) (ok : Nat → List Str → Bool) : Addr → Value → Option Addr → TS := fun a cls d De σ H => ∃ (E : En) (n : Nat) (fs : List Str) (es : List D), E.kp = kp ∧ ok n fs = true ∧ Held c E i a n fs es cls d ∧ tS c E (mh n fs es) De σ H
section
variable {X : Cx} {cl : Nat → Addr} {E : En} {x nm : Str} {cx : Value} {body suite : List Stmt} {b₀ : Stmt} {np pos pos' : Pos} {mb : SM} {mh : Nat → List Str → List D → SM} {sub : Nat → List Str → Bool}
theorem su_post {c : LC} {E : En} {P0 H0 Pq : Hp} {S0 T0 : FP} {σ0 : L2.St} {ρ0 : List D} {i : Nat} {a : Addr} {De : Ends} {fl : Fl} {ρ' : List LI.D} (w0 : Wd c E P0 S0 T0 σ0 H0 ρ0) (hk : E.kp[i]? ≠ some true) (hx : ∀ n fs es, fl ≠ .ex n fs es) (hP : Ex Pq P0) (q : SPost c E Pq De fl (ρ'.set i .gone)) :
    SPost c (enH E P0 i a) P0 { nx := fun σ' H' => De.nx (σ'.set i none) H', rt := De.rt, bk := fun σ' H' => De.bk (σ'.set i none) H', ct := fun σ' H' => De.ct (σ'.set i none) H' } fl ρ' := by
  cases fl with
  | nx => exact fun σ' H' P' S' w e => by obtain ⟨S2, w2⟩ := w0.fromSuite hk w; exact q _ H' P' S2 w2 (hP.trans e)
  | rt d => exact fun v σ' H' P' S' U w r => by obtain ⟨S2, w2⟩ := w0.fromSuite hk w; exact q v _ H' P' S2 U w2 r
  | bk => exact fun σ' H' P' S' w e => by obtain ⟨S2, w2⟩ := w0.fromSuite hk w; exact q _ H' P' S2 w2 (hP.trans e)
  | ct => exact fun σ' H' P' S' w e => by obtain ⟨S2, w2⟩ := w0.fromSuite hk w; exact q _ H' P' S2 w2 (hP.trans e)
  | ex n fs es => exact absurd rfl (hx n fs es)
end
end LI

namespace LI
open PySem L2 PyProof.Rows
structure XcC (K : PySem.W.Frag) (C : Addr) : Prop where
  hcl : (PySem.W.clsIn K C).isSome = true
  hga : PySem.W.findIn K (.ref C) "__getattribute__" = some (some (.builtin "BaseException.__getattribute__"))
  hgt : PySem.W.findIn K (.ref C) "__getattr__" = some none
  hsub : PySem.W.subIn K (.ref C) (.type "BaseException") = some true
  ha : PySem.W.findIn K (.ref C) "__class__" = some (some (.builtin "object.__class__"))
  hn : PySem.W.specialIn K (.builtin "object.__class__") "__get__" = some (some (.builtin "getset_descriptor.__get__"))
  htk : PySem.W.takesIn K (.builtin "object.__class__") = some true
  hm : PySem.W.mroIn K C (.type "object") = some true
  hd : PySem.W.hasDictIn K C = true
def dOk (d : Option Addr) (H : Hp) : Prop := d = none ∨ ∃ dd fs, d = some dd ∧ H dd = some (.xd fs)
section
variable {X : Cx} {a C : Addr} {oe : Obj} {d : Option Addr} {pn : List (Addr × Obj)}
theorem inst_of {pins : List (Addr × Obj)} {σ : L2.St} {H : Hp} {s : Shared} (I : Inv (X.suite a ((a, oe) :: pn)) pins σ H s) (hz : L2N.Zn (.ref C) d oe) (hf : ∃ vs, oe.data = .fields vs) (hd : dOk d H) : ∃ od, PySem.W.InstAt s.heap a oe C od := by
  obtain ⟨hget, _⟩ := I.pin (a, oe) (List.mem_append.mpr (.inl List.mem_cons_self))
  obtain ⟨vs, hv⟩ := hf
  have hno : PySem.W.notCls oe = true := by unfold PySem.W.notCls; rw [hv]
  rcases hd with z | ⟨dd, fs, z, hx⟩
  · exact ⟨none, hget, hz.1, hno, by rw [hz.2.1, z]; trivial⟩
  · obtain ⟨od, ho⟩ := objOk_get (I.hok dd _ hx)
    exact ⟨some od, hget, hz.1, hno, by rw [hz.2.1, z]; exact ho⟩
def rIsX (K : PySem.W.Frag) (D a : Addr) (d : Option Addr) : List V → Hp → VK → Prop := fun xs H Q => ∃ (c : V) (u : Value) (b : Bool), xs = [.ref a, c] ∧ ClsV c u ∧ dOk d H ∧ PySem.W.kitOne K (.ref D) u = some b ∧ Q (.bl b) H
def rIsXT (K : PySem.W.Frag) (D a : Addr) (d : Option Addr) : List V → Hp → VK → Prop := fun xs H Q => ∃ (tp : Addr) (cs : List V) (us : List Value) (b : Bool), xs = [.ref a, .ref tp] ∧ H tp = some (.tup cs) ∧ Paired ClsV cs us ∧ dOk d H ∧ PySem.W.kitAny K (.ref D) us = some b ∧ Q (.bl b) H
theorem call_isX (T : XcC X.K C) (hz : L2N.Zn (.ref C) d oe) (hf : ∃ vs, oe.data = .fields vs) : CallR (X.suite a ((a, oe) :: pn)) (.builtin "isinstance") (rIsX X.K C a d) := by
  intro pins s σ H xs us Q I r h
  obtain ⟨c, u, b, rfl, k, hd, e, q⟩ := h
  obtain ⟨u1, u2, rfl, r1, r2⟩ := vals2 r
  obtain rfl : u1 = Value.ref a := r1
  have e2 := k.eq r2
  subst e2
  obtain ⟨od, J⟩ := inst_of I hz hf hd
  exact PySem.W.kia_one (PySem.W.kitx_exc T.hcl T.hga T.hgt T.hsub T.ha T.hn T.htk T.hm) I.kIn J e (fun z => nomatch z) fun tk => ⟨.bl b, H, I.kept (t' := tk) fun _ _ z => z, rfl, q⟩
theorem call_isXT (T : XcC X.K C) (hz : L2N.Zn (.ref C) d oe) (hf : ∃ vs, oe.data = .fields vs) : CallR (X.suite a ((a, oe) :: pn)) (.builtin "isinstance") (rIsXT X.K C a d) := by
  intro pins s σ H xs us Q I r h
  obtain ⟨tp, cs, ws, b, rfl, hT, k, hd, e, q⟩ := h
  obtain ⟨u1, u2, rfl, r1, r2⟩ := vals2 r
  obtain rfl : u1 = Value.ref a := r1
  cases (show u2 = Value.ref tp from r2)
  obtain ⟨od, J⟩ := inst_of I hz hf hd
  obtain ⟨_, its, rv, o, h1, h2, n, h3⟩ := (show ObjOk X.prog X.w H s.heap tp (.tup cs) from I.hok tp _ hT)
  have e3 := ClsV.all k rv
  subst e3
  obtain ⟨oc, od', dt, sl⟩ := o
  simp only at h2 h3
  subst h2 h3
  exact PySem.W.kia_tup (PySem.W.kitx_exc T.hcl T.hga T.hgt T.hsub T.ha T.hn T.htk T.hm) I.kIn J h1 e (fun z => nomatch z) fun tk => ⟨.bl b, H, I.kept (t' := tk) fun _ _ z => z, rfl, q⟩
end
section
variable {X : Cx} {cl : Nat → Addr} {E : En} {a : Addr} {oe : Obj} {d : Option Addr} {cls : Value} {pn : List (Addr × Obj)} {i n : Nat} {fs : List Str} {es : List D} {x : Str} {p p1 p2 pos : Pos}
theorem Held.dok {c : LC} {P H : Hp} (h : Held c E i a n fs es cls d) (e : Ex E.P0 P) (e2 : Ex P H) : dOk d H := by
  cases hf : fs with
  | nil => exact .inl (h.no hf)
  | cons f r =>
    obtain ⟨dd, us, h1, h2, _⟩ := h.fld (by rw [hf]; simp)
    exact .inr ⟨dd, _, h1, e2 _ _ (e _ _ h2)⟩
theorem Held.at {c : LC} {P H : Hp} {S T : FP} {σ : L2.St} {ρ : List D} (h : Held c E i a n fs es cls d) (w : Wd c E P S T σ H ρ) : σ[i]? = some (some (.ref a)) := w.kp i _ h.kp h.vs
theorem f_isX (b : Bool) (hd : Held ⟨X.K, cl, X.w⟩ E i a n fs es cls d) (hz : L2N.Zn cls d oe) (hf : ∃ vs, oe.data = .fields vs) (T : XcC X.K (cl n)) {c : V} {u : Value} {ce : Expr} (k : ClsV c u) (hk : PySem.W.kitOne X.K (.ref (cl n)) u = some b) (hc : PE (X.suite a ((a, oe) :: pn)) ce (tC c))
    (hm : X.mg "isinstance" = none) (hN : X.N[i]? = some x := by rfl) (hv : Vis X.env.scope x := by first | exact Or.inl rfl | exact Or.inr (Or.inl rfl) | exact Or.inr (Or.inr rfl)) (hdb : (x == ("__debug__" : Str)) = false := by decide) (hcd : (x == ("__classdict__" : Str)) = false := by decide) (hg : Gl X "isinstance" := by rfl)
    (hs1 : starEach [.Name x p1, ce] X.env = (false, eval (.Name x p1) X.env) :: starEach [ce] X.env := by rfl) (hs2 : starEach [ce] X.env = (false, eval ce X.env) :: starEach [] X.env := by rfl) (hpl : (backTo pos (starEach [ce] X.env)).any (·.1) = false := by rfl) :
    PE (X.suite a ((a, oe) :: pn)) (.Call (.Name "isinstance" p) [.Name x p1, ce] [] pos) (tF ⟨X.K, cl, X.w⟩ E (kM (.bl b))) := by
  have hc' := hd.cls
  subst hc'
  refine PE_imp (pe_callB (call_isX T hz hf) hg hm (by decide +kernel) (pa_cons (pe_var (i := i) hN hv hdb hcd) (pa_cons hc pa_nil hs2) hs1) (by decide) (by decide) hs1 hpl) fun σ H Q ⟨P, S, T', ρ, d1, w, h, q⟩ => ?_
  cases h
  exact ⟨.ref a, hd.at w, c, u, b, rfl, k, hd.dok w.p0 w.ph, hk, q.flat w.ph ⟨rfl, rfl⟩⟩
theorem f_isXT (b : Bool) (hd : Held ⟨X.K, cl, X.w⟩ E i a n fs es cls d) (hz : L2N.Zn cls d oe) (hf : ∃ vs, oe.data = .fields vs) (T : XcC X.K (cl n)) {cs : List V} {us : List Value} {ce : List Expr} {x1} {q1 : Pos} {t : TA} (ht : ∀ σ H Q, Q cs H → t σ H Q) (k : Paired ClsV cs us) (hl : cs.length ≤ LIM) (hk : PySem.W.kitAny X.K (.ref (cl n)) us = some b) (hc : PA (X.suite a ((a, oe) :: pn)) ce t)
    (hm : X.mg "isinstance" = none) (hN : X.N[i]? = some x := by rfl) (hv : Vis X.env.scope x := by first | exact Or.inl rfl | exact Or.inr (Or.inl rfl) | exact Or.inr (Or.inr rfl)) (hdb : (x == ("__debug__" : Str)) = false := by decide) (hcd : (x == ("__classdict__" : Str)) = false := by decide) (hg : Gl X "isinstance" := by rfl)
    (hs1 : starEach [.Name x p1, .Tuple ce x1 q1] X.env = (false, eval (.Name x p1) X.env) :: starEach [.Tuple ce x1 q1] X.env := by rfl) (hs2 : starEach [.Tuple ce x1 q1] X.env = (false, eval (.Tuple ce x1 q1) X.env) :: starEach [] X.env := by rfl) (hpl : (backTo pos (starEach [.Tuple ce x1 q1] X.env)).any (·.1) = false := by rfl) :
    PE (X.suite a ((a, oe) :: pn)) (.Call (.Name "isinstance" p) [.Name x p1, .Tuple ce x1 q1] [] pos) (tF ⟨X.K, cl, X.w⟩ E (kM (.bl b))) := by
  have hc' := hd.cls
  subst hc'
  refine PE_imp (pe_callB (call_isXT T hz hf) hg hm (by decide +kernel) (pa_cons (pe_var (i := i) hN hv hdb hcd) (pa_cons (pe_tup hc) pa_nil hs2) hs1) (by decide) (by decide) hs1 hpl) fun σ H Q ⟨P, S, T', ρ, d1, w, h, q⟩ => ?_
  cases h
  refine ⟨.ref a, hd.at w, ht σ H _ ⟨lim_le hl, fun tp htp => ?_⟩⟩
  have eH : Ex H (upd H tp (.tup cs)) := fun b o z => by rw [upd_ne (ne_of_none z htp)]; exact z
  have g : Gr P H P (upd H tp (.tup cs)) := ⟨.refl P, eH, w.ph.trans eH, fun _ z => .inl z⟩
  exact ⟨tp, cs, us, b, rfl, upd_same, k, hd.dok w.p0 (w.ph.trans eH), hk, (q.grow g).flat g.ph ⟨rfl, rfl⟩⟩
def fldX (f : Str) : List Str → List D → Option D
  | g :: gs, y :: ys => if f = g then some y else fldX f gs ys
  | _, _ => none
theorem fldX_get {c : LC} {P H : Hp} {f : Str} : ∀ {fs : List Str} {es : List D} {us : List V} {y : D}, RepL c P H es us fz → fldX f fs es = some y → ∃ v, (fs.zip us).lookup f = some v ∧ Rep c P H y v fz
  | [], _, _, _, _, h => by cases h
  | _ :: _, [], _, _, _, h => by cases h
  | g :: gs, y0 :: ys, us, y, ⟨u, us', T, U, e, r, rs, hf⟩, h => by
    subst e
    have hT : T = fz := by funext a; have := congrFun hf a; simp only [fa, fz] at *; omega
    have hU : U = fz := by funext a; have := congrFun hf a; simp only [fa, fz] at *; omega
    subst hT hU
    unfold fldX at h
    by_cases q : f = g
    · rw [if_pos q] at h; cases h
      refine ⟨u, ?_, r⟩
      rw [List.zip_cons_cons, List.lookup_cons, q]; simp
    · rw [if_neg q] at h
      obtain ⟨v, h1, h2⟩ := fldX_get rs h
      refine ⟨v, ?_, h2⟩
      rw [List.zip_cons_cons, List.lookup_cons]
      have : (f == g) = false := by simp [q]
      rw [this]; exact h1
def xfldM (f : Str) (fs : List Str) (es : List D) : RM := fun _ => fldX f fs es
theorem f_fldX {f : Str} (hd : Held ⟨X.K, cl, X.w⟩ E i a n fs es cls d) (hz : L2N.Zn cls d oe) (hf : ∃ vs, oe.data = .fields vs) (T : XcC X.K (cl n)) (hno : PySem.W.findIn X.K (.ref (cl n)) f = some none)
    (hN : X.N[i]? = some x := by rfl) (hv : Vis X.env.scope x := by first | exact Or.inl rfl | exact Or.inr (Or.inl rfl) | exact Or.inr (Or.inr rfl)) (hdb : (x == ("__debug__" : Str)) = false := by decide) (hcd : (x == ("__classdict__" : Str)) = false := by decide)
    (hb : attributeBase (.Name x p1) f X.env (eval (.Name x p1) X.env) = eval (.Name x p1) X.env := by rfl) :
    PE (X.suite a ((a, oe) :: pn)) (.Attribute (.Name x p1) f pos) (tF ⟨X.K, cl, X.w⟩ E (xfldM f fs es)) := by
  refine PE_imp (pe_xf (C := cl n) (d := d) (cls := cls) ⟨T.hga, T.hgt, T.hsub, T.hd⟩ hno hz.zc hf (pe_var (i := i) hN hv hdb hcd) hb) fun σ H Q ⟨P, S, T', ρ, d1, w, h, q⟩ => ?_
  have hy : fldX f fs es = some d1 := h
  have hne : fs ≠ [] := fun z => by subst z; cases hy
  obtain ⟨dd, us, h1, h2, h3⟩ := hd.fld hne
  obtain ⟨v, h4, h5⟩ := fldX_get (h3 H) hy
  exact ⟨.ref a, hd.at w, rfl, hd.cls, dd, _, v, h1, w.ph _ _ (w.p0 _ _ h2), h4, q.flat w.ph (Rep.mono w.p0 d1 v fz (fun b o z _ => by simp [fz] at z) h5)⟩
end
end LI

namespace LI
open PySem L2 PyProof.Rows
section
variable {X : Cx} {e : Expr} {es : List Expr} {ta : TA} {x : Str} {C0 : Addr} {mc : Value} {p1 p2 pos : Pos}
theorem pe_baseinit {pl : Sem Bool} (hg : Gl X x) (hm : X.mg x = some (.ref C0)) (rd : PySem.W.readsIn X.K C0 mc = true) (ga : PySem.W.specialIn X.K (.ref C0) "__getattribute__" = some (some (.builtin "type.__getattribute__")))
    (at_ : PySem.W.findCls X.K (.ref C0) mc "__init__" = some (.val (.builtin "ValueError.__init__"))) (ha : PA X (e :: es) ta) (hdb : (x == ("__debug__" : Str)) = false := by decide)
    (hc : eval (.Call (.Attribute (.Name x p1) "__init__" p2) (e :: es) [] pos) X.env = (do
      let ov ← eval (.Name x p1) X.env
      standAt p2.atName
      let (f, first) ← holding [ov] (getMethod ov "__init__" pl)
      callWith pos f first (backTo pos (starEach (e :: es) X.env)) (backToKw pos (keywordEach [] X.env))) := by rfl)
    (he : starEach (e :: es) X.env = (false, eval e X.env) :: starEach es X.env := by rfl) (hpl : (backTo pos (starEach es X.env)).any (·.1) = false := by rfl) :
    PE X (.Call (.Attribute (.Name x p1) "__init__" p2) (e :: es) [] pos) (tVeI X.K ta) := by
  refine ⟨fun pins s σ H Q I h => ?_⟩
  refine PySem.W.methodCall_KW (ld_glob I hg hm ?_ hdb) hc
  refine PySem.W.method_cls I.kIn ga (PySem.W.cls_value I.kIn rd at_ (by decide +kernel) ?_)
  show wpAny _ _ (callWith pos (Value.builtin "ValueError.__init__") [] (backTo pos (starEach (e :: es) X.env)) []) _ _ _
  refine callWith_method1 (thn (ha.run pos pins _ σ H _ (I.tok _) h) fun us s1 hh => ?_) he hpl
  obtain ⟨vs, H1, I1, r1, a, C, ws, ev, hl, T, ea, q⟩ := hh
  subst ev
  cases r1 with
  | @cons _ u0 _ ur ra rw' =>
    obtain rfl : u0 = Value.ref a := ra
    exact oinit_ok T I1 ea (by rw [← Paired.length rw', sizeLine_eq]; omega) fun s' J => ⟨.non, H1, J, rfl, q⟩
end
def spInit (C : Addr) (f : Str) : Sp := fun vs H Q _ => ∃ a v, vs = [.ref a, v] ∧ H a = some (exo a C none) ∧ ∀ d, H d = none → d ≠ a → Q .non (upd (upd H d (exd d [(f, v)])) a (exo a C (some d)))
def tInitS (K : PySem.W.Frag) (f m : Str) : TS := tSeq (tDrop (tVeI K (tCons (tVar 0) (tCons (tC (.str m)) tNil)))) (tOst K f (tVar 0) (tVar 1))
theorem init_run {K : PySem.W.Frag} {C : Addr} {f m y : Str} {vs : List V} {H : Hp} {Q : VK} {E : XK} (T : OexC K C) (hno : PySem.W.findIn K (.ref C) f = some none) (h : spInit C f vs H Q E) : tInitS K f m { nx := fun _ H' => Q .non H', rt := Q } (L2.start ["self", y] vs) H := by
  obtain ⟨a, v, rfl, ha, q⟩ := h
  refine ⟨.ref a, rfl, a, C, [.str m], rfl, by simp, T, ha, ?_⟩
  exact ⟨v, rfl, .ref a, rfl, a, C, rfl, T, hno, .inl ⟨ha, fun dx h1 h2 => q dx h1 h2⟩⟩
section
variable {Y : Cx} {ar : Expr} {ars : List Expr} {wa : TA} {gn : Str} {q0 q1 : Pos} {Cc fJ : Addr} {jj : Nat} {fe : FuncData} {pz : List Str} {sq : Sp} {CY : CXT}
theorem pmk_oexN (T : OexC Y.K Cc) (iC : PySem.W.findIn Y.K (.ref Cc) "__init__" = some (some (.ref fJ))) (tI : PySem.W.typeIn Y.K (.ref fJ) = some (.type "function"))
    (G : FnOk Y.prog Y.w Y.K Y.mg Y.base CY jj fJ fe pz sq) (rm : Room (jj + 1) Y.A) (bi : Binds Y.K fe pz []) (px : Passes CY Y (fun _ _ _ => False)) (gl : Gl Y gn) (gm : Y.mg gn = some (.ref Cc)) (pa : PA Y (ar :: ars) wa)
    (nd : (gn == ("__debug__" : Str)) = false := by decide) (st : starEach (ar :: ars) Y.env = (false, eval ar Y.env) :: starEach ars Y.env := by rfl) (np : (backTo q1 (starEach ars Y.env)).any (·.1) = false := by rfl) :
    L2N.PMk Y (.Call (.Name gn q0) (ar :: ars) [] q1) (tMkO Cc sq [] wa) := by
  intro pins s0 τ K0 R J h
  obtain ⟨_, _, _, _, bm, _, _, _, _, _, _, _, _, _, _, hC, hbm⟩ := T.cls
  refine wpAny_Call_Name_kw (ld_glob J gl gm ?_ nd)
  refine PySem.W.callWith_K (h₀ := Y.base) J.ok.mod.kin T.kC (thn (pa.run q1 pins s0 τ K0 _ J h) fun as sA hA => ?_) st np
  obtain ⟨vs, K1, J1, rA, _, k1⟩ := hA
  refine ⟨J1.kIn, ?_⟩
  show wpAny _ _ (call (.ref Cc) as) _ _ _
  obtain ⟨hp, gg, dr, tk, oo⟩ := sA
  let x := hp.objs.size
  have le1 : x ≤ x + 1 := Nat.le_succ _
  have no1 : K1 (x + 1) = none := J1.hok.fresh le1
  have goal1 := k1 (x + 1) no1
  let hh := (hp.push (PySem.W.kdv_tup as)).push (PySem.HandSPX.excO Cc x)
  have keep : ∀ b o, hp.get? b = some o → hh.get? b = some o := fun b o z => Heap.get?_push_of_some _ (Heap.get?_push_of_some _ z)
  have got : hh.get? (x + 1) = some (PySem.HandSPX.excO Cc x) := by
    show ((hp.push (PySem.W.kdv_tup as)).push (PySem.HandSPX.excO Cc hp.objs.size)).get? (hp.objs.size + 1) = _
    heap_get
  have J2 : Inv Y pins τ (upd K1 (x + 1) (exo (x + 1) Cc none)) ⟨hh, gg, dr, tk, oo⟩ := J1.laid (t' := tk) (a := x + 1) (o := exo (x + 1) Cc none) (h' := hh) keep le1 (exo_ok got)
  have rB : Vals (V.ref (x + 1) :: (vs ++ [])) (Value.ref (x + 1) :: (as ++ [])) := .cons rfl (rA.append .nil)
  have ln : (Value.ref (x + 1) :: as ++ []).length = pz.length := by
    have z := rB.length
    rw [G.len _ _ _ _ goal1] at z
    exact z.symm
  have few : as.length ≤ sizeLine := by rw [← Paired.length rA, sizeLine_eq]; omega
  have bz : BindsTo ⟨hh, gg, dr, tk, oo⟩ fe ⟨Value.ref (x + 1) :: as, []⟩ (pz.zip (Value.ref (x + 1) :: (as ++ []))) := bi ⟨hh, gg, dr, tk, oo⟩ (Value.ref (x + 1) :: as) J2.kIn ln
  have inner := G.run _ Y.stack _ _ ⟨Value.ref (x + 1) :: as, []⟩ (Value.ref (x + 1) :: (as ++ [])) _ _ (fun _ _ _ => False) (rm.make Cc as []) (J2.env0.make Cc as []) bz rB goal1
  refine wpAny_call (PySem.HandSPX.call_own F.excBase_ValueError (fun Z => PySem.HandSPX.refsVE_contains Z bm hbm) (J1.kIn _ _ hC) (PySem.W.looks_findIn J1.kIn iC) (fun self => PySem.W.bind_fn J1.kIn self tI) few (codeAny_mono inner fun r s' end1 => ?_))
  rcases r with er | fl
  · exact px pins τ _ _ er s' J2 end1
  · cases fl with
    | ret u =>
      obtain ⟨v, K2, oo2, bare2, un2, hok2, rv, ev, d, fs, ea, ed, dn, k2⟩ := end1
      subst ev
      obtain ⟨h2, g2, d2, t2, os'⟩ := s'
      refine ⟨rv, ?_⟩
      obtain ⟨t0, G', J', kG, ge, hoe, na⟩ := mk_end0 (d2 := d2) (t2 := t2) J1 le1 keep un2 hok2 oo2 bare2 ea ed dn
      exact ⟨x + 1, _, _, ⟨G', g2, d2, t2, os'⟩, _, .ref Cc, some d, rfl, J', kG, ge, hoe, ⟨rfl, rfl, fun ws z => by cases z; rfl⟩, rfl, rfl, na, rfl, bare2, raises_own T.exC T.tyC, k2⟩
    | next => exact end1.elim
    | brk => exact end1.elim
    | cont => exact end1.elim
end
section
variable {X : Cx} {cl : Nat → Addr} {E : En} {e : Expr} {x f : Str} {p pos pos2 : Pos} {m : RM}
def raise1 (n : Nat) (f : Str) (m : RM) : SM := fun ρ => (m ρ).bind fun d => if frz d = true then some (.ex n [f] [d], ρ) else none
theorem s_raise1 (n : Nat) {CX : CXT} {k : Nat} {fI : Addr} {fd : FuncData} {ps : List Str} (hc : X.calm = true) (tk : L2N.Takes X E.xw) (T : OexC X.K (cl n)) (iC : PySem.W.findIn X.K (.ref (cl n)) "__init__" = some (some (.ref fI))) (tI : PySem.W.typeIn X.K (.ref fI) = some (.type "function"))
    (F1 : FnOk X.prog X.w X.K X.mg X.base CX k fI fd ps (spInit (cl n) f)) (hr : Room (k + 1) X.A) (hb : Binds X.K fd ps []) (hx : Passes CX X (fun _ _ _ => False)) (hg : Gl X x) (hm : X.mg x = some (.ref (cl n))) (he : PE X e (tR ⟨X.K, cl, X.w⟩ E m))
    (hdb : (x == ("__debug__" : Str)) = false := by decide) (hs : starEach [e] X.env = (false, eval e X.env) :: starEach [] X.env := by rfl) (hpl : (backTo pos (starEach [] X.env)).any (·.1) = false := by rfl) :
    PS X (.Raise (some (.Call (.Name x p) [e] [] pos)) none pos2) (tS ⟨X.K, cl, X.w⟩ E (raise1 n f m)) := PS_imp (L2N.ps_raise hc tk (pmk_oexN T iC tI F1 hr hb hx hg hm (pa_cons he pa_nil hs) hdb hs hpl)) fun D σ H ⟨P, S, ρ, fl, ρ', w, hm2, q⟩ => by
  unfold raise1 at hm2
  cases eg : m ρ with
  | none => rw [eg] at hm2; cases hm2
  | some d =>
    rw [eg, Option.bind_some] at hm2
    split at hm2
    · rename_i hz
      cases hm2
      refine ⟨P, S, fz, ρ, d, w, eg, fun v H1 P1 U g r => ?_⟩
      have hU := Rep.frz0 d v U hz r
      subst hU
      refine ⟨by simp, fun a ha => ?_⟩
      refine ⟨a, v, rfl, upd_same, fun dd hdd hda => ⟨rfl, dd, [(f, v)], upd_same, ?_, ?_, ?_⟩⟩
      · rw [upd_ne hda, upd_same]
      · rw [upd_ne hda] at hdd; exact hdd
      · have hdd1 : H1 dd = none := by rw [upd_ne hda] at hdd; exact hdd
        have e1 : upd (del (upd (upd (upd H1 a (exo a (cl n) none)) dd (exd dd [(f, v)])) a (exo a (cl n) (some dd))) a) dd (.xd [(f, v)]) = upd H1 dd (.xd [(f, v)]) := by
          funext b
          by_cases hb1 : b = dd
          · rw [hb1, upd_same, upd_same]
          · rw [upd_ne hb1, upd_ne hb1]
            by_cases hb2 : b = a
            · rw [hb2, del_same, ha]
            · rw [del_ne hb2, upd_ne hb2, upd_ne hb1, upd_ne hb2]
        rw [e1]
        exact (q [v] σ H1 P1 S fz (w.grow g) g.p ⟨v, [], fz, fz, rfl, r, ⟨rfl, rfl⟩, (fa_fz fz).symm⟩).2 (by simp) dd hdd1
    · cases hm2
end
end LI

namespace LI
open PySem L2 PyProof.Rows
abbrev Exn := Nat × List (Str × An)
def exF (e : Exn) : List Str := e.2.map (·.1)
def exD (e : Exn) : List D := e.2.map fun p => eA p.2
def noEx : Fl → Bool
  | .ex _ _ _ => false
  | _ => true
def Qi {υ : Type} (i : Nat) (Q : Fl → List D → υ → Prop) : Fl → List D → υ → Prop := fun fl ρ t => noEx fl = true ∧ Q fl (ρ.set i .gone) t
section
variable {τ σ υ : Type} {Q : Fl → List D → υ → Prop} {m r a : SM} {ρ : List D} {ms : AM}
theorem b_raise0 {n : Nat} {t : υ} (h : Q (.ex n [] []) ρ t) : Bk Q (seqM (raise0 n) m) ρ (some t) := fun t' ht => by cases ht; exact ⟨_, _, rfl, h⟩
theorem b_raise1 {α : Type} {e : α → D} [Fz e] {n : Nat} {f : Str} {mm : RM} {o : Option α} {k : α → υ} (h : Ev e mm ρ o) (h2 : ∀ x, Q (.ex n [f] [e x]) ρ (k x)) : Bk Q (seqM (raise1 n f mm) m) ρ (o.bind fun x => some (k x)) := fun t ht => by
  obtain ⟨x, h3, h4⟩ := ob_some ht
  cases h4
  refine ⟨_, _, ?_, h2 x⟩
  unfold seqM raise1
  rw [h x h3, Option.bind_some, if_pos (Fz.fz x)]; rfl
theorem b_seqQ {kl : List Nat} (env : σ → List D) {oa : Option (σ ⊕ υ)} {k : σ → Option υ} (ha : Bk (Qm kl env Q) a ρ oa) (hr : ∀ s, Bk Q r (env s) (k s)) : Bk Q (seqM a (killM kl r)) ρ (oa.bind fun u => seqT u k) := fun t ht => by
  obtain ⟨u, h1, h2⟩ := ob_some ht
  obtain ⟨fl, ρ', h3, h4⟩ := ha u h1
  unfold seqM
  rw [h3, Option.bind_some]
  cases u with
  | inl s =>
    obtain ⟨h5, h6⟩ := h4
    rw [nxB_nx h5]
    obtain ⟨f2, ρ2, h7, h8⟩ := hr s t h2
    refine ⟨f2, ρ2, ?_, h8⟩
    show killM kl r ρ' = _
    unfold killM
    rw [h6, h7]
  | inr t2 =>
    cases h2
    obtain ⟨h5, h6⟩ := h4
    refine ⟨fl, ρ', ?_, h6⟩
    cases fl <;> first | rfl | cases h5
end
def fldT (f : Str) (e : Exn) : Option An := e.2.lookup f
theorem x_fldX {f : Str} {e : Exn} {ρ : List D} : Ev eA (xfldM f (exF e) (exD e)) ρ (fldT f e) := fun y hy => by
  unfold xfldM fldT exF exD at *
  generalize e.2 = l at hy ⊢
  induction l with
  | nil => cases hy
  | cons p l ih =>
    rw [List.lookup_cons] at hy
    rw [List.map_cons, List.map_cons]
    unfold fldX
    by_cases q : f = p.1
    · have : (f == p.1) = true := by simp [q]
      rw [this] at hy
      cases hy
      rw [if_pos q]
    · have : (f == p.1) = false := by simp [q]
      rw [this] at hy
      rw [if_neg q]
      exact ih hy
def okL (l : List (Nat × List Str)) (n : Nat) (fs : List Str) : Bool := decide ((n, fs) ∈ l)
theorem okL_mem {l : List (Nat × List Str)} {n : Nat} {fs : List Str} (h : okL l n fs = true) : (n, fs) ∈ l := of_decide_eq_true h
theorem kitAny_subs {K : PySem.W.Frag} {t : Value} {cl : Nat → Addr} {f : Nat → Bool} : ∀ (ks : List Nat), (∀ k ∈ ks, PySem.W.kitOne K t (.ref (cl k)) = some (f k)) → PySem.W.kitAny K t (ks.map fun k => Value.ref (cl k)) = some (ks.any f)
  | [], _ => rfl
  | k :: ks, h => by
    rw [List.map_cons, List.any_cons]
    have h1 := h k List.mem_cons_self
    refine kitAny_cons h1 (fun hb => ?_) (fun hb => by rw [hb]; rfl)
    rw [hb, Bool.false_or]
    exact kitAny_subs ks fun j hj => h j (List.mem_cons_of_mem _ hj)
theorem paired_cls {cl : Nat → Addr} : ∀ ks : List Nat, Paired ClsV (ks.map fun k => V.ref (cl k)) (ks.map fun k => Value.ref (cl k))
  | [] => .nil
  | _ :: ks => .cons (.own _) (paired_cls ks)
end LI

namespace LI
open PySem L2 PyProof.Rows
section
variable {X : Cx} {cl : Nat → Addr} {En' : En} {o e : Expr} {es : List Expr} {pos apos : Pos} {CX : CXT} {k : Nat} {f C : Addr} {fd : FuncData} {ps : List Str} {sp : Sp} {nm : Str} {ta : TE} {t : TA} {W : L2.St → XK}
end
section
variable {X : Cx} {cl : Nat → Addr} {E : En} {o e : Expr} {es : List Expr} {pos apos : Pos} {k n : Nat} {f : Addr} {fd : FuncData} {ps : List Str} {F : FX} {nm : Str} {ms : AM} {L : Lens} {σ : L2.St} {H : Hp} {Q : VK}
end
section
variable {X : Cx} {cl : Nat → Addr} {E : En} {o e : Expr} {es : List Expr} {pos apos : Pos} {k n : Nat} {f : Addr} {fd : FuncData} {ps : List Str} {F : FX} {nm : Str} {ms : AM} {mo : RM}
end
def exG {σ : Type} (er : σ → D) (ρ : List D) : Exn ⊕ σ → (D × List D) ⊕ (Nat × List Str × List D × List D)
  | .inr y => .inl (er y, ρ)
  | .inl e => .inr (e.1, exF e, exD e, ρ)
def EvX {σ : Type} (er : σ → D) (g : XGM) (ρ : List D) (o : Option (Exn ⊕ σ)) : Prop := ∀ r, o = some r → g ρ = some (exG er ρ r)
section
variable {κ τ σ υ : Type} {Q : Fl → List D → υ → Prop} {m : SM} {ρ : List D} {ms : AM} {mo : RM}
end
def exV {σ : Type} (er : σ → D) (ρ : List D) : Exn ⊕ σ → (D × List D) ⊕ (Nat × List Str × List D × List D)
  | .inr y => .inl (er y, ρ)
  | .inl e => .inr (e.1, exF e, exD e, ρ)
def EgX {ι σ : Type} (er : σ → D) (out : ι → Exn ⊕ σ) (env : ι → List D) (g : XGM) (ρ : List D) (o : Option ι) : Prop := ∀ r, o = some r → g ρ = some (exV er (env r) (out r))
theorem EvX.eg {σ : Type} {er : σ → D} {g : XGM} {ρ : List D} {o : Option (Exn ⊕ σ)} (h : EvX er g ρ o) : EgX er (fun r => r) (fun _ => ρ) g ρ o := fun r hr => by
  rw [h r hr]; cases r <;> rfl
def bindX {ι σ υ : Type} (out : ι → Exn ⊕ σ) (o : Option ι) (k : ι → σ → Option υ) (f : ι → Exn → υ) : Option υ := o.bind fun r => match out r with
  | .inr y => k r y
  | .inl e => some (f r e)
section
variable {κ τ ι σ υ : Type} {Q : Fl → List D → υ → Prop} {m : SM} {ρ : List D} {ms : AM} {L : Lens} {er : σ → D} {out : ι → Exn ⊕ σ} {env : ι → List D} {g : XGM} {o : Option ι}
theorem b_exprE {k : ι → σ → Option υ} {f : ι → Exn → υ} (hg : EgX er out env g ρ o) (h1 : ∀ r y, Bk Q m (env r) (k r y)) (h2 : ∀ r e, Q (.ex e.1 (exF e) (exD e)) (env r) (f r e)) : Bk Q (seqM (exprX g) m) ρ (bindX out o k f) := fun z hz => by
  obtain ⟨r, e1, e2⟩ := ob_some hz
  unfold seqM exprX
  rw [hg r e1, Option.bind_some]
  cases h : out r with
  | inl e => rw [h] at e2; cases e2; exact ⟨_, _, rfl, h2 r e⟩
  | inr y => rw [h] at e2; exact h1 r y z e2
end
end LI

namespace LI
open PySem L2 PyProof.Rows
section
variable {X : Cx} {cl : Nat → Addr} {E : En} {pos : Pos}
end
section
variable {α ι σ υ : Type} {Q : Fl → List D → υ → Prop} {m : SM} {ρ : List D} {er : σ → D} {out : ι → Exn ⊕ σ} {env : ι → List D} {g : XGM} {o : Option ι}
end
end LI

namespace LI
open PySem L2 PyProof.Rows
section
variable {P : Program} {w : World} {K : PySem.W.Frag} {mg : Str → Option Value} {base : Heap} {cl : Nat → Addr}
end
section
variable {X : Cx} {cl : Nat → Addr} {E : En} {e : Expr} {es : List Expr} {p pos : Pos} {a : Addr} {oe : Obj} {cls : Value} {d : Option Addr} {pn : List (Addr × Obj)} {ms : AM} {F : FM}
end
end LI

namespace LI
open PySem PyProof.Rows L2
section
variable {X : Cx} {CX : CXT} {k : Nat} {f C : Addr} {fd : FuncData} {ps : List Str} {sp : Sp} {W : L2.St → XK} {x : Str} {p pos : Pos} {e : Expr} {es : List Expr} {t : TA}
def tMakeS (C : Addr) (sp : Sp) (W : L2.St → XK) (t : TA) : TE := fun σ H Q => t σ H fun vs H1 => ∀ x dx, H1 x = none → H1 dx = none → dx ≠ x → sp (.ref x :: vs) (upd (upd H1 dx (.own x)) x (.ins C dx [])) (fun v H2 => v = .non ∧ Q (.ref x) H2) (W σ)
theorem run_makeS {pins : List (Addr × Obj)} {σ : L2.St} {H : Hp} {s : Shared} {Q : VK} {us : List Value} {vs : List V} (M : Mk X.K C f) (F : FnOk X.prog X.w X.K X.mg X.base CX k f fd ps sp) (hr : Room (k + 1) X.A) (hb : Binds X.K fd ps [])
    (hx : PassesAt CX X σ (W σ)) (I : Inv X pins σ H s) (r : Vals vs us)
    (h : ∀ x dx, H x = none → H dx = none → dx ≠ x → sp (.ref x :: vs) (upd (upd H dx (.own x)) x (.ins C dx [])) (fun v H2 => v = .non ∧ Q (.ref x) H2) (W σ)) :
    wpAny (model X.prog X.w) X.A (call (.ref C) us) (EP X pins σ Q) X.xe s := by
  have hq := h (s.heap.objs.size + 1) s.heap.objs.size (I.hok.fresh (Nat.le_succ _)) (I.hok.fresh (Nat.le_refl _)) (Nat.ne_of_lt (Nat.lt_succ_self _))
  have I2 := Inv.made (C := C) I
  have r2 : Vals (V.ref (s.heap.objs.size + 1) :: vs) (Value.ref (s.heap.objs.size + 1) :: us) := .cons rfl r
  have hl : (Value.ref (s.heap.objs.size + 1) :: us).length = ps.length := by
    have e := r2.length
    rw [F.len _ _ _ _ hq] at e
    exact e.symm
  have b := hb _ (Value.ref (s.heap.objs.size + 1) :: us) I2.kIn (by rw [List.append_nil]; exact hl)
  rw [List.append_nil] at b
  refine wpAny_call (make_map (f := f) I.kIn M.makes M.init (beq_iff_eq.mp M.fn) (codeAny_mono (F.run _ X.stack _ _ ⟨Value.ref (s.heap.objs.size + 1) :: us, []⟩ (Value.ref (s.heap.objs.size + 1) :: us) _ _ (W σ) (hr.make C us [])
    (I2.env0.make C us []) b r2 hq) fun r s' hq' => ?_))
  cases r with
  | error e => exact hx pins _ _ e s' I2 hq'
  | ok fl =>
    cases fl with
    | ret u =>
      obtain ⟨v, H', I3, rv, ev, q3⟩ := I2.after hq'
      subst ev
      exact ⟨rv, ⟨V.ref (s.heap.objs.size + 1), H', I3, rfl, q3⟩⟩
    | next => exact False.elim hq'
    | brk => exact False.elim hq'
    | cont => exact False.elim hq'
theorem pe_makeS (M : Mk X.K C f) (F : FnOk X.prog X.w X.K X.mg X.base CX k f fd ps sp) (hr : Room (k + 1) X.A) (hg : Gl X x) (hm : X.mg x = some (.ref C)) (hb : Binds X.K fd ps []) (hx : ∀ σ, PassesAt CX X σ (W σ))
    (ha : PA X (e :: es) t) (hdb : (x == ("__debug__" : Str)) = false := by decide) (he : starEach (e :: es) X.env = (false, eval e X.env) :: starEach es X.env := by rfl) (hpl : (backTo pos (starEach es X.env)).any (·.1) = false := by rfl) :
    PE X (.Call (.Name x p) (e :: es) [] pos) (tMakeS C sp W t) := by
  refine ⟨fun pins s σ H Q I h => ?_⟩
  refine wpAny_Call_Name_kw (ld_glob I hg hm ?_ hdb)
  refine PySem.W.callWith_K (h₀ := X.base) I.ok.mod.kin M.kp (thn (ha.run pos pins s σ H _ I h) fun us s1 ⟨vs, H1, I1, r, q⟩ => ⟨I1.kIn, ?_⟩) he hpl
  exact run_makeS M F hr hb (hx σ) I1 r q
end
def mkXO (ρ : List D) : (D × List D) ⊕ (Nat × List Str × List D × List D) → Option ((D × List D) ⊕ (Nat × List Str × List D × List D))
  | .inl (.non, self :: _) => some (.inl (self, ρ))
  | .inr (k, fs, es, _) => some (.inr (k, fs, es, ρ))
  | _ => none
def mkX (n : Nat) (F : FX) (ms : AM) : XGM := fun ρ => (ms ρ).bind fun ds => if frzL ds = true then (F (.obj true n [] [] :: ds)).bind (mkXO ρ) else none
section
variable {X : Cx} {cl : Nat → Addr} {E : En} {e : Expr} {es : List Expr} {pos p : Pos} {k n : Nat} {f : Addr} {fd : FuncData} {ps : List Str} {F : FX} {x : Str} {ms : AM}
theorem mkX_run {c : LC} {P H : Hp} {S : FP} {σ : L2.St} {ρ : List D} {ds : List D} {vs : List V} {Q : VK} {r : (D × List D) ⊕ (Nat × List Str × List D × List D)} {r0 : (D × List D) ⊕ (Nat × List Str × List D × List D)} (w : Wd c E P S fz σ H ρ) (rl : RepL c P H ds vs fz) (hf : F (.obj true n [] [] :: ds) = some r)
    (hr : mkXO ρ r = some r0) (q : tXr c E P σ Q r0) :
    ∀ x dx, H x = none → H dx = none → dx ≠ x → spX c F (.ref x :: vs) (upd (upd H dx (.own x)) x (.ins (c.cl n) dx [])) (fun v H2 => v = .non ∧ Q (.ref x) H2) (WE E.xw σ) := by
  intro x dx hx hdx hne
  have e := w.ph
  have ex : Ex H (upd (upd H dx (.own x)) x (.ins (c.cl n) dx [])) := fun a o z => by
    rw [upd_ne (ne_of_none z hx), upd_ne (ne_of_none z hdx)]; exact z
  have back : ∀ a, upd (upd H dx (.own x)) x (.ins (c.cl n) dx []) a = none → H a = none := fun a z => by
    cases q : H a with
    | none => rfl
    | some o => rw [ex a o q] at z; cases z
  have old : ∀ a, (0 < one x a ∨ upd (upd H dx (.own x)) x (.ins (c.cl n) dx []) a = none) → H a = none := fun a z => by
    rcases z with z | z
    · rw [one_pos z]; exact hx
    · exact back a z
  have gr : ∀ {P' H' : Hp} {T : FP}, Stp P (one x) (upd (upd H dx (.own x)) x (.ins (c.cl n) dx [])) P' T H' → Gr P H P' H' := fun st => ⟨st.p0, fun a o z => st.fr a o (by unfold one; rw [if_neg (ne_of_none z hx)]) (ex a o z), st.ph, fun a z => by
    rcases st.np a z with z | z | z
    · exact .inl z
    · exact .inr (old a (.inl z))
    · exact .inr (old a (.inr z))⟩
  refine ⟨P, fa (one x) fz, .obj true n [] [] :: ds, r, ⟨.ref x, vs, one x, fz, rfl, ⟨x, dx, [], fz, rfl, upd_same, rfl, ⟨rfl, rfl⟩, (fa_fz _).symm⟩, RepL.mono (.refl P) ds vs fz (fun b o h1 _ => by simp [fz] at h1) rl, rfl⟩, e.trans ex, fun a => by rw [fa_fz]; exact one_le a, fun a z => ?_, hf, ?_⟩
  · rw [fa_fz] at z; rw [one_pos z]; exact none_of e hx
  · cases r with
    | inl r =>
      obtain ⟨d, rs⟩ := r
      cases rs with
      | nil => cases d <;> cases hr
      | cons self rs =>
        have hd : d = .non ∧ r0 = .inl (self, ρ) := by cases d <;> first | (cases hr; exact ⟨rfl, rfl⟩) | cases hr
        obtain ⟨hd, h0⟩ := hd
        subst hd h0
        intro v H' P' U S' st rd rs
        rw [fa_fz] at st
        obtain ⟨y, ys, T1, T2, e1, r1, _, e2⟩ := rs
        cases e1
        have g := gr st
        have w2 := w.aside g (U := T1) (fun a => by have := st.le a; rw [e2] at this; simp only [fa] at this; omega) (fun a h => ⟨old a (st.ns a (by rw [e2]; simp only [fa]; omega)), st.out a (by rw [e2]; simp only [fa]; omega)⟩) (Rep.there _ _ T1 r1)
        rw [fz_fa] at w2
        exact ⟨rd.1, q (.ref x) H' P' S T1 w2 g.p r1⟩
    | inr r =>
      obtain ⟨k', fs, es', rs⟩ := r
      cases hr
      intro us H' P' S' st re rs
      rw [fa_fz] at st
      exact q us H' P' S (w.grow (gr st)) (gr st).p re
theorem f_mkX (n : Nat) (M : Mk X.K (cl n) f) (G : FnOk X.prog X.w X.K X.mg X.base (L2N.CX X.prog X.w) k f fd ps (spX ⟨X.K, cl, X.w⟩ F)) (hr : Room (k + 1) X.A) (hg : Gl X x) (hm : X.mg x = some (.ref (cl n))) (hb : Binds X.K fd ps []) (tk : L2N.Takes X E.xw)
    (ha : PA X (e :: es) (tAR ⟨X.K, cl, X.w⟩ E ms)) (hdb : (x == ("__debug__" : Str)) = false := by decide) (he : starEach (e :: es) X.env = (false, eval e X.env) :: starEach es X.env := by rfl) (hpl : (backTo pos (starEach es X.env)).any (·.1) = false := by rfl) :
    PE X (.Call (.Name x p) (e :: es) [] pos) (tX ⟨X.K, cl, X.w⟩ E (mkX n F ms)) := PE_imp (pe_makeS (W := WE E.xw) M G hr hg hm hb (fun σ => L2N.passAt tk σ) ha hdb he hpl) fun σ H Q ⟨P, S, ρ, r0, w, h, q⟩ => by
  unfold mkX at h
  cases e1 : ms ρ with
  | none => rw [e1] at h; cases h
  | some ds =>
    rw [e1, Option.bind_some] at h
    split at h
    · rename_i hz
      cases e2 : F (.obj true n [] [] :: ds) with
      | none => rw [e2] at h; cases h
      | some r =>
        rw [e2, Option.bind_some] at h
        refine ⟨P, S, fz, ρ, ds, w, e1, fun vs H1 P1 U1 g1 r1 => ?_⟩
        have := RepL.frz0 ds vs U1 hz r1
        subst this
        refine mkX_run (r0 := r0) (w.grow g1) r1 e2 h ?_
        cases r0 with
        | inl r0 => exact fun v H' P' S' U w' e' rd => q v H' P' S' U w' (g1.p.trans e') rd
        | inr r0 => exact fun us H' P' S' w' e' re => q us H' P' S' w' (g1.p.trans e') re
    · cases h
end
def exI {κ : Type} (ec : κ → D) (ds' : List D) : Exn ⊕ κ → (D × List D) ⊕ (Nat × List Str × List D × List D)
  | .inr y => .inl (.non, ec y :: ds')
  | .inl e => .inr (e.1, exF e, exD e, ds')
def Tnx {τ κ : Type} (n : Nat) (et : τ → List D) (ec : κ → D) (F : FX) (t : τ → Option (Exn ⊕ κ)) : Prop := ∀ p r, t p = some r → ∃ ds', F (.obj true n [] [] :: et p) = some (exI ec ds' r)
def QfXI {κ : Type} (ec : κ → D) (kp : List Bool) (mk : κ → List D) : Fl → List D → Exn ⊕ κ → Prop := fun fl ρ r => match r with
  | .inr y => (fl = .nx ∨ fl = .rt .non) ∧ ∃ ds', maskL kp ρ = ec y :: ds'
  | .inl x => fl = .ex x.1 (exF x) (exD x)
theorem run_TXI {κ : Type} {ec : κ → D} {n : Nat} {kp : List Bool} {m : SM} {ds : List D} {mk : κ → List D} {o : Option (Exn ⊕ κ)} {r : Exn ⊕ κ} (hl : (ds.length == kp.length) = true) (hb : Bk (QfXI ec kp mk) m (ds ++ List.replicate (n - ds.length) .gone) o) (h : o = some r) :
    ∃ ds', runX n kp m ds = some (exI ec ds' r) := by
  obtain ⟨fl, ρ', h1, h2⟩ := hb r h
  unfold runX
  rw [if_pos (by simpa using hl), h1, Option.bind_some]
  cases r with
  | inl x =>
    have h2 : fl = .ex x.1 (exF x) (exD x) := h2
    subst h2
    exact ⟨_, rfl⟩
  | inr y =>
    obtain ⟨h2, ds', h3⟩ := h2
    rcases h2 with rfl | rfl
    · exact ⟨ds', by show some (Sum.inl (D.non, maskL kp ρ')) = some (Sum.inl (D.non, ec y :: ds')); rw [h3]⟩
    · exact ⟨ds', by show some (Sum.inl (D.non, maskL kp ρ')) = some (Sum.inl (D.non, ec y :: ds')); rw [h3]⟩
section
variable {κ τ σ υ : Type} {ρ : List D} {ms : AM}
theorem x_mkX {ec : κ → D} {et et' : τ → List D} {F : FX} {t : τ → Option (Exn ⊕ κ)} {n : Nat} {os : Option τ} (hT : Tnx n et ec F t) (hs : Ea et et' true ms ρ os) : EvX ec (mkX n F ms) ρ (os.bind t) := fun r hr => by
  obtain ⟨p, h1, h2⟩ := ob_some hr
  obtain ⟨ds', h3⟩ := hT p r h2
  unfold mkX
  rw [hs.run p h1, Option.bind_some, if_pos (hs.fz rfl p), h3, Option.bind_some]
  cases r <;> rfl
end
end LI

namespace LI
open PySem PySem.Spec PyProof.Rows L2 HotX L2H
section
variable {X : Cx} {k : Nat} {f : Addr} {fd : FuncData} {ps : List Str} {sp : Addr → Obj → Sp} {x : Str} {q pos : Pos} {e : Expr} {es : List Expr} {t : TA} {a : Addr} {oe : Obj}
end
structure Hd (c : LC) (P : Hp) (n : Nat) (fs : List Str) (es : List D) (cls : Value) (d : Option Addr) : Prop where
  cls : cls = .ref (c.cl n)
  no : fs = [] → d = none
  fld : fs ≠ [] → ∃ dd us, d = some dd ∧ P dd = some (.xd (fs.zip us)) ∧ ∀ H, RepL c P H es us fz
theorem Held.hd {c : LC} {E : En} {i n : Nat} {a : Addr} {fs : List Str} {es : List D} {cls : Value} {d : Option Addr} {P : Hp} (h : Held c E i a n fs es cls d) (e : Ex E.P0 P) : Hd c P n fs es cls d := ⟨h.cls, h.no, fun z => by
  obtain ⟨dd, us, h1, h2, h3⟩ := h.fld z
  exact ⟨dd, us, h1, e _ _ h2, fun H => RepL.mono e _ _ fz (fun b o h1 _ => by simp [fz] at h1) (h3 H)⟩⟩
abbrev FE := Nat → List Str → List D → Option D
section
variable {P : Program} {w : World} {K : PySem.W.Frag} {mg : Str → Option Value} {base : Heap} {cl : Nat → Addr}
end
section
variable {X : Cx} {cl : Nat → Addr} {E : En} {p p1 pos : Pos} {a : Addr} {oe : Obj} {cls : Value} {d : Option Addr} {pn : List (Addr × Obj)} {ms : AM} {F : FE} {i n : Nat} {fs : List Str} {es : List D} {ok : Nat → List Str → Bool}
end
theorem o2_eqG {α β : Type} {e : α → D} {e' : β → D} : O2 eqD e e' eB (fun x y => eqB (e x) (e' y)) := fun x y z h => by simp [eqD, h]; rfl
end LI

namespace LI
open PySem L2 PyProof.Rows
def QtB {σ υ : Type} (env : σ → List D) (Q : Fl → List D → υ → Prop) : Fl → List D → (Exn × σ) ⊕ υ → Prop := fun fl ρ t => match t with
  | .inl (e, s) => fl = .ex e.1 (exF e) (exD e) ∧ ρ = env s
  | .inr u => noEx fl = true ∧ Q fl ρ u
def tryB {σ υ : Type} (ok : Exn → Bool) (o : Option ((Exn × σ) ⊕ υ)) (h : σ → Exn → Option υ) : Option υ := o.bind fun r => match r with
  | .inr u => some u
  | .inl (e, s) => if ok e = true then h s e else none
end LI

namespace LI
open PySem PySem.Spec L2 PyProof.Rows
abbrev TSu := Addr → Value → Option Addr → TS
def sufx (D : Ends) (i : Nat) : Ends := { nx := fun σ H => D.nx (σ.set i none) H, rt := D.rt, bk := fun σ H => D.bk (σ.set i none) H, ct := fun σ H => D.ct (σ.set i none) H }
def wAsM (K : PySem.W.Frag) (i : Nat) (Wout : WX) (D : Ends) : List (Value × TSu) → WX
  | [] => Wout
  | t :: r => fun cls d σ H => ∃ b, PySem.W.exmOne K cls t.1 = some b ∧ (b = true → ∀ a, H a = none → t.2 a cls d (sufx D i) (σ.set i (some (.ref a))) H) ∧ (b = false → wAsM K i Wout D r cls d σ H)
inductive HdsA (X : Cx) (nm : Str) : List ExceptHandler → List (Value × TSu) → Prop
  | nil : HdsA X nm [] []
  | cons {x : Str} {c : Value} {ts : TSu} {b₀ : Stmt} {suite : List Stmt} {np pos' : Pos} {hds : List ExceptHandler} {l : List (Value × TSu)} (hc : Names X x c)
      (hsu : ∀ (a : Addr) (oe : Obj) (cls : Value) (d : Option Addr) (pn : List (Addr × Obj)), L2N.Zn cls d oe → (∃ vs, oe.data = .fields vs) → PSs (X.suite a ((a, oe) :: pn)) (b₀ :: suite) (ts a cls d)) (rest : HdsA X nm hds l) :
      HdsA X nm (.ExceptHandler (some (.Name x np)) (some nm) (b₀ :: suite) pos' :: hds) ((c, ts) :: l)
section
variable {X : Cx} {nm : Str} {i : Nat} {body : List Stmt} {h₀ : ExceptHandler} {hds : List ExceptHandler} {l : List (Value × TSu)} {pos : Pos} {tb : WX → TS} {Wout : WX}
open L2N in
theorem ps_manyAs (hs : X.stack = X.env :: X.outer) (hf : X.env.frame = some X.env.locals) (hN : X.N.Nodup) (hi : X.N[i]? = some nm) (hln : X.env.kindOf nm = some .local) (tk : L2N.Takes X Wout)
    (hb : ∀ (W : WX) (pn : List (Addr × Obj)) (xe : Value → Shared → Prop), L2N.Takes (X.tr pn xe) W → PassesOwn (model X.prog X.w) X.A X.env xe → PSs (X.tr pn xe) body (tb W))
    (hh : HdsA X nm (h₀ :: hds) l) : PS X (.Try body (h₀ :: hds) [] [] pos) (fun D σ H => tb (wAsM X.K i Wout D l) D σ H) := by
  refine ⟨fun pins s σ H D I hyp => ?_⟩
  have okk := I.ok
  have frm : X.A.frames = some (X.env :: X.outer) := by rw [okk.frames, hs]
  have lcl : L2.Loc X.env.scope nm := .inl hln
  refine wpAny_Try_except (wpAny_mono ((hb (wAsM X.K i Wout D l) (X.pn ++ pins) (fun e z1 => wpAny (model X.prog X.w) X.A (noteFrame e X.env) (fun _ z2 => wpAny (model X.prog X.w) X.A (setFlight e none) (fun _ z3 => wpAny (model X.prog X.w) X.A (handleBy e X.env (h₀ :: hds)) (SP X pins D) X.xe z3) X.xe z2) X.xe z1) (fun u z xx => ?_) PassesOwn.looking).run [] s σ H D (I.toTry _) hyp) (fun f z end1 => ?_) (fun e z he => he))
  · obtain ⟨a, B, sI, pins1, σ1, H1, cls, d, rfl, J0, nb, up, sky, na, os, ag, ww⟩ := xx
    have J : Inv X pins σ1 H1 sI := J0.ofTry okk
    have sk2 : Sky B (X.env :: X.outer) a (Zn cls d) X.env.locals z.heap := by rw [← hs]; exact sky
    show wpAny (model X.prog X.w) X.A (noteFrame (.ref a) X.env) _ _ _
    refine Sky.land Zn.steady frm hf sk2 fun k3 fl3 up3 => ?_
    have J3 : Inv X pins σ1 H1 { z with heap := k3 } := J.landed nb fl3.1 (up.trans up3) os ag
    obtain ⟨oz, wz, hoz, hzz, hdz⟩ := fl3.there
    have nofr : a ∉ frs (X.env :: X.outer) := fun hm => by
      obtain ⟨_, o2, e2, hn2⟩ := fl3.2.2.1.mem hm
      rw [hoz] at e2
      cases e2
      exact hn2 _ hdz
    have nL : a ≠ X.env.locals := fun q => nofr (List.mem_filterMap.mpr ⟨X.env, .head _, by rw [hf, q]⟩)
    have nF : a ∉ X.fs := fun hm => by
      obtain ⟨e, he, q⟩ := List.mem_filterMap.mp hm
      exact nofr (List.mem_filterMap.mpr ⟨e, .tail _ he, q⟩)
    have S3 := J3.suite hoz hdz na nL nF
    have go : ∀ {hds1 : List ExceptHandler} {l1 : List (Value × TSu)}, HdsA X nm hds1 l1 → wAsM X.K i Wout D l1 cls d σ1 H1 → wpAny (model X.prog X.w) X.A (handleBy (.ref a) X.env hds1) (SP X pins D) X.xe { z with heap := k3 } := by
      intro hds1 l1 hk
      induction hk with
      | nil =>
        intro w0
        refine wpAny_handleBy_nil ?_
        obtain ⟨k1, k2, k3', oe, vs, T, oT, ts', he, hz, hd, h1, hr⟩ := id fl3
        unfold PySem.passOn
        refine wpAny_bind (wpAny_field he hd h1 ?_)
        rw [if_neg (show ¬ ((Value.ref T == Value.none) = true) by simp)]
        have last : wpAny (model X.prog X.w) X.A (setFlight (.ref a) X.env.frame) (fun _ y => wpAny (model X.prog X.w) X.A (throw (.ref a) : Sem Flow) (SP X pins D) X.xe y) X.xe { z with heap := k3 } := by
          rw [hf]
          refine HandSPX.setFlight_upZ fl3 fun k4 hk4 up4 => wpAny_throw (tk _ _ ?_)
          exact ⟨a, B, sI, pins, σ1, H1, cls, d, rfl, J, nb, (up.trans up3).trans up4, .inr (.inr (by rw [hs]; exact hk4)), na, os, ag, w0⟩
        first | exact wpAny_bind (wpAny_pure (wpAny_bind last)) | exact wpAny_bind last
      | @cons x c ts b₀ suite np pos' hds2 l2 hc hsu rest ih =>
        intro w0
        obtain ⟨b, hb1, yes, no⟩ := w0
        refine wpAny_handleBy_cons (codeAny_handlers_test ?_) (by intro q; cases q)
        have LM := PySem.W.exm_one (M := model X.prog X.w) (J3.kIn) (fun A Q E y k q => wpAny_typeOf_ref (k _ _ hoz) (by rw [hzz.1]; exact q) : PySem.W.Looks (model X.prog X.w) k3 (typeOf (.ref a)) cls) hb1
        have test : ∀ {Q : Value → Shared → Prop} {E : Value → Shared → Prop}, Q c { z with heap := k3 } → wpAny (model X.prog X.w) (X.A.mark (some (.ref a))) (eval (.Name x np) X.env) Q E { z with heap := k3 } := fun {Q E} q => by
          obtain ⟨hg, hdb, hm | ⟨hm, hv, hnn⟩⟩ := hc
          · exact ld_glob (X := X.suite a ((a, oz) :: (X.pn ++ pins))) S3 hg hm q hdb
          · exact ld_blt (X := X.suite a ((a, oz) :: (X.pn ++ pins))) S3 hg hm hv q hnn hdb
        refine test (LM.here ?_)
        cases b with
        | true =>
          refine codeAny_handlers_suite_as (HandSPX.lands_againZ fl3 fun k4 fl4 up4 => ?_)
          have J4 : Inv X pins σ1 H1 { z with heap := k4 } := J.landed nb fl4.1 ((up.trans up3).trans up4) os ag
          obtain ⟨oy, wy, hoy, hzy, hdy⟩ := fl4.there
          have S4 := J4.suite hoy hdy na nL nF
          refine store_ok (X := X.suite a ((a, oy) :: (X.pn ++ pins))) (v := .ref a) S4 hN hi lcl rfl (fun s5 S5 => wpAny_mono ((hsu a oy cls d (X.pn ++ pins) hzy ⟨_, hdy⟩).run [] s5 _ H1 _ S5 (yes rfl a na)) (fun f s6 q => ?_) (fun _ _ q => False.elim q)) (.inr hln)
          have fin : ∀ {σ6 : L2.St} {H6 : Hp} {Q : Shared → Prop}, Inv (X.suite a ((a, oy) :: (X.pn ++ pins))) [] σ6 H6 s6 → (∀ s7, Inv X pins (σ6.set i none) H6 s7 → Q s7) → wpAny (model X.prog X.w) X.A (do bindName X.env nm .none; unbindBehindTheSuite X.env nm pos') (fun _ s7 => Q s7) X.xe s6 := fun {_ _ _} S6 hq => gone_ok (S6.unsuite okk) hN hi hln hq
          cases f with
          | next =>
            obtain ⟨_, _, S6, q6⟩ := q
            exact fin S6 fun _ J7 => ⟨_, _, J7, q6⟩
          | brk =>
            obtain ⟨_, _, S6, q6⟩ := q
            exact fin S6 fun _ J7 => ⟨_, _, J7, q6⟩
          | cont =>
            obtain ⟨_, _, S6, q6⟩ := q
            exact fin S6 fun _ J7 => ⟨_, _, J7, q6⟩
          | ret u =>
            obtain ⟨_, _, _, S6, r6, q6⟩ := q
            exact fin S6 fun _ J7 => ⟨_, _, _, J7, r6, q6⟩
        | false => exact ih (no rfl)
    exact go hh ww
  · cases f with
    | next =>
      obtain ⟨_, _, J1, q⟩ := end1
      exact wpAny_execs_nil ⟨_, _, J1.ofTry okk, q⟩
    | brk =>
      obtain ⟨_, _, J1, q⟩ := end1
      exact ⟨_, _, J1.ofTry okk, q⟩
    | cont =>
      obtain ⟨_, _, J1, q⟩ := end1
      exact ⟨_, _, J1.ofTry okk, q⟩
    | ret u =>
      obtain ⟨_, _, _, J1, r, q⟩ := end1
      exact ⟨_, _, _, J1.ofTry okk, r, q⟩
end
abbrev MC := Nat → List Str → Option Bool
abbrev MH := Nat → List Str → List D → SM
def pickM : List (MC × MH) → Nat → List Str → List D → Option SM
  | [], _, _, _ => none
  | t :: r, n, fs, es => match t.1 n fs with
    | some true => some (t.2 n fs es)
    | some false => pickM r n fs es
    | none => none
def tryMs (i : Nat) (mb : SM) (hs : List (MC × MH)) : SM := fun ρ => (mb ρ).bind fun r => match r.1 with
  | .ex n fs es => if i < r.2.length then (pickM hs n fs es).bind fun sm => (sm (r.2.set i .gone)).bind fun r2 => match r2.1 with
    | .ex _ _ _ => none
    | f => some (f, r2.2.set i .gone)
    else none
  | _ => some r
inductive HM (X : Cx) (cl : Nat → Addr) (kpH : List Bool) (i : Nat) (nm : Str) : List ExceptHandler → List (Value × TSu) → List (MC × MH) → Prop
  | nil : HM X cl kpH i nm [] [] []
  | cons {x : Str} {b₀ : Stmt} {suite : List Stmt} {np pos' : Pos} {hds : List ExceptHandler} {l : List (Value × TSu)} {hs : List (MC × MH)} {m : MC} {mh : MH} (C : Nat) (hc : Names X x (.ref (cl C))) (hm : ∀ n fs b, m n fs = some b → PySem.W.exmOne X.K (.ref (cl n)) (.ref (cl C)) = some b)
      (hsu : ∀ (a : Addr) (oe : Obj) (cls : Value) (d : Option Addr) (pn : List (Addr × Obj)) (n : Nat) (fs : List Str) (es : List D) (E' : En), L2N.Zn cls d oe → (∃ vs, oe.data = .fields vs) → E'.kp = kpH → m n fs = some true → Held ⟨X.K, cl, X.w⟩ E' i a n fs es cls d → PSs (X.suite a ((a, oe) :: pn)) (b₀ :: suite) (tS ⟨X.K, cl, X.w⟩ E' (mh n fs es))) (rest : HM X cl kpH i nm hds l hs) :
      HM X cl kpH i nm (.ExceptHandler (some (.Name x np)) (some nm) (b₀ :: suite) pos' :: hds) ((.ref (cl C), tSu ⟨X.K, cl, X.w⟩ kpH i mh (fun n fs => m n fs == some true)) :: l) ((m, mh) :: hs)
theorem HM.hds {X : Cx} {cl : Nat → Addr} {kpH : List Bool} {i : Nat} {nm : Str} {hds : List ExceptHandler} {l : List (Value × TSu)} {hs : List (MC × MH)} (h : HM X cl kpH i nm hds l hs) : HdsA X nm hds l := by
  induction h with
  | nil => exact .nil
  | cons C hc hm hsu rest ih =>
    refine .cons hc (fun a oe cls d pn hz hd => ⟨fun pins s σ H De I h => ?_⟩) ih
    obtain ⟨E', n, fs, es, h1, h2, h3, h4⟩ := h
    exact (hsu a oe cls d pn n fs es E' hz hd h1 (beq_iff_eq.mp h2) h3).run pins s σ H De I h4
section
variable {X : Cx} {cl : Nat → Addr} {E : En} {nm : Str} {body : List Stmt} {h₀ : ExceptHandler} {hds : List ExceptHandler} {l : List (Value × TSu)} {hs : List (MC × MH)} {pos : Pos} {mb : SM}
theorem s_tryMs (i : Nat) (kpH : List Bool) (hkH : kpAt E.kp i = kpH) (hst : X.stack = X.env :: X.outer) (hf : X.env.frame = some X.env.locals) (hN : X.N.Nodup) (hi : X.N[i]? = some nm) (hln : X.env.kindOf nm = some .local) (hk : E.kp[i]? ≠ some true)
    (hb : ∀ (W : WX) (pn : List (Addr × Obj)) (xe : Value → Shared → Prop), L2N.Takes (X.tr pn xe) W → PassesOwn (model X.prog X.w) X.A X.env xe → PSs (X.tr pn xe) body (tS ⟨X.K, cl, X.w⟩ { E with xw := W } mb))
    (hh : HM X cl kpH i nm (h₀ :: hds) l hs) : PS X (.Try body (h₀ :: hds) [] [] pos) (tS ⟨X.K, cl, X.w⟩ E (tryMs i mb hs)) := by
  refine PS_imp (ps_manyAs (i := i) (Wout := fun _ _ _ _ => False) (tb := fun W => tS ⟨X.K, cl, X.w⟩ { E with xw := W } mb) hst hf hN hi hln takesN0 hb hh.hds) fun D σ H ⟨P, S, ρ, fl, ρ', w, hm, q⟩ => ?_
  unfold tryMs at hm
  cases eb : mb ρ with
  | none => rw [eb] at hm; cases hm
  | some r =>
    obtain ⟨f1, ρ1⟩ := r
    rw [eb, Option.bind_some] at hm
    refine ⟨P, S, ρ, f1, ρ1, w.wish _, eb, ?_⟩
    cases f1 with
    | nx => cases hm; exact fun σ' H' P' S' w' e => q σ' H' P' S' w'.unwish e
    | rt d => cases hm; exact fun v σ' H' P' S' U w' r => q v σ' H' P' S' U w'.unwish r
    | bk => cases hm; exact fun σ' H' P' S' w' e => q σ' H' P' S' w'.unwish e
    | ct => cases hm; exact fun σ' H' P' S' w' e => q σ' H' P' S' w'.unwish e
    | ex n fs es =>
      dsimp only at hm
      split at hm
      · rename_i hil
        cases ep : pickM hs n fs es with
        | none => rw [ep] at hm; cases hm
        | some sm =>
          rw [ep, Option.bind_some] at hm
          cases eh : sm (ρ1.set i .gone) with
          | none => rw [eh] at hm; cases hm
          | some r2 =>
            obtain ⟨f2, ρ2⟩ := r2
            rw [eh, Option.bind_some] at hm
            have hnx : ∀ n fs es, f2 ≠ .ex n fs es := fun n fs es z => by subst z; cases hm
            have hfl : (f2, ρ2.set i .gone) = (fl, ρ') := by
              cases f2 <;> first | (cases hm; rfl) | (exact absurd rfl (hnx _ _ _))
            obtain ⟨hfl1, hfl2⟩ := Prod.mk.inj hfl
            subst hfl1 hfl2
            intro us σ' H' P' S' U w' ex re
            have w1 := w'.unwish
            have hlen : i < σ'.length := by rw [← RepE.len _ _ _ w1.env]; exact hil
            have main : ∀ (P2 H2 : Hp) (d : Option Addr), Wd ⟨X.K, cl, X.w⟩ E P2 S' U σ' H2 ρ1 → Ex P P2 → (fs = [] → d = none) → (fs ≠ [] → ∃ dd us, d = some dd ∧ P2 dd = some (.xd (fs.zip us)) ∧ ∀ H, RepL ⟨X.K, cl, X.w⟩ P2 H es us fz) → ∀ {hds1 : List ExceptHandler} {l1 : List (Value × TSu)} {hs1 : List (MC × MH)}, HM X cl kpH i nm hds1 l1 hs1 → pickM hs1 n fs es = some sm →
                wAsM X.K i (fun _ _ _ _ => False) D l1 (.ref (cl n)) d σ' H2 := by
              intro P2 H2 d w2 e2 h1 h2 hds1 l1 hs1 hk1
              induction hk1 with
              | nil => intro z; cases z
              | @cons _ _ _ _ _ _ _ _ m mh C hc hm hsu rest ih =>
                intro hp
                unfold pickM at hp
                dsimp only at hp
                cases hmn : m n fs with
                | none => rw [hmn] at hp; cases hp
                | some b =>
                  cases b with
                  | false => rw [hmn] at hp; exact ⟨false, hm n fs _ hmn, (fun z => by cases z), fun _ => ih hp⟩
                  | true =>
                    rw [hmn] at hp
                    cases hp
                    refine ⟨true, hm n fs _ hmn, fun _ a ha => ?_, fun z => by cases z⟩
                    obtain ⟨S3, w3⟩ := w2.toSuite i a hlen
                    refine ⟨enH E P2 i a, n, fs, es, hkH, by simp [hmn], ⟨?_, vsAt_self, rfl, h1, h2⟩, P2, S3, _, f2, ρ2, w3, eh, ?_⟩
                    · show (kpAt E.kp i)[i]? = some true
                      unfold kpAt
                      rw [List.getElem?_set_self (by rw [List.length_append, List.length_replicate]; omega)]
                    · exact su_post (Pq := P) w2 hk hnx e2 q
            refine ⟨fun hfs => main P' H' none w1 ex (fun _ => rfl) (fun z => absurd hfs z) hh ep, fun hfs dd hdd => ?_⟩
            have hPd := none_of w1.ph hdd
            have eP : Ex P' (upd P' dd (.xd (fs.zip us))) := fun b o z => by rw [upd_ne (ne_of_none z hPd)]; exact z
            have eH : Ex H' (upd H' dd (.xd (fs.zip us))) := fun b o z => by rw [upd_ne (ne_of_none z hdd)]; exact z
            have g : Gr P' H' (upd P' dd (.xd (fs.zip us))) (upd H' dd (.xd (fs.zip us))) := ⟨eP, eH, fun b o z => by
              by_cases hb : b = dd
              · subst hb; rw [upd_same] at z ⊢; exact z
              · rw [upd_ne hb] at z ⊢; exact w1.ph b o z, fun b z => by
              by_cases hb : b = dd
              · subst hb; exact .inr hdd
              · rw [upd_ne hb] at z; exact .inl z⟩
            exact main _ _ (some dd) (w1.grow g) (ex.trans eP) (fun z => absurd z hfs) (fun _ => ⟨dd, us, rfl, upd_same, fun H => RepL.mono eP _ _ fz (fun b o h1 _ => by simp [fz] at h1) re⟩) hh ep
      · cases hm
end
def mOf (l1 l0 : List (Nat × List Str)) : MC := fun n fs => if okL l1 n fs = true then some true else if okL l0 n fs = true then some false else none
theorem mOf_is {l1 l0 : List (Nat × List Str)} {p : Nat → Bool → Prop} (h1 : ∀ n fs, (n, fs) ∈ l1 → p n true) (h0 : ∀ n fs, (n, fs) ∈ l0 → p n false) : ∀ n fs b, mOf l1 l0 n fs = some b → p n b := fun n fs b h => by
  unfold mOf at h
  split at h
  · rename_i q; cases h; exact h1 n fs (okL_mem q)
  · split at h
    · rename_i q; cases h; exact h0 n fs (okL_mem q)
    · cases h
theorem mOf_yes {l1 l0 : List (Nat × List Str)} {n : Nat} {fs : List Str} (h : mOf l1 l0 n fs = some true) : okL l1 n fs = true := by
  unfold mOf at h
  split at h
  · assumption
  · split at h <;> cases h
def HB {υ : Type} (Q : Fl → List D → υ → Prop) (i : Nat) (ρ : List D) (e : Exn) (hs : List (MC × MH)) (o : Option υ) : Prop := ∀ t, o = some t → ∃ sm fl ρ', pickM hs e.1 (exF e) (exD e) = some sm ∧ sm ρ = some (fl, ρ') ∧ noEx fl = true ∧ Q fl (ρ'.set i .gone) t
theorem hb_nil {υ : Type} {Q : Fl → List D → υ → Prop} {i : Nat} {ρ : List D} {e : Exn} : HB Q i ρ e [] none := fun t h => by cases h
theorem hb_cons {υ : Type} {Q : Fl → List D → υ → Prop} {i : Nat} {ρ : List D} {e : Exn} {l1 l0 : List (Nat × List Str)} {mh : MH} {hs : List (MC × MH)} {o1 o2 : Option υ} (h1 : Bk (Qi i Q) (mh e.1 (exF e) (exD e)) ρ o1) (r : HB Q i ρ e hs o2) :
    HB Q i ρ e ((mOf l1 l0, mh) :: hs) (if okL l1 e.1 (exF e) = true then o1 else if okL l0 e.1 (exF e) = true then o2 else none) := fun t h => by
  split at h
  · rename_i q
    obtain ⟨fl, ρ', k1, k2, k3⟩ := h1 t h
    exact ⟨_, fl, ρ', by simp only [pickM, mOf, if_pos q], k1, k2, k3⟩
  · split at h
    · rename_i q1 q
      obtain ⟨sm, fl, ρ', k0, k1, k2, k3⟩ := r t h
      exact ⟨sm, fl, ρ', by simp only [pickM, mOf, if_neg q1, if_pos q]; exact k0, k1, k2, k3⟩
    · cases h
theorem b_tryMs {σ υ : Type} {Q : Fl → List D → υ → Prop} {ρ : List D} {mb : SM} {i : Nat} {hs : List (MC × MH)} {o : Option ((Exn × σ) ⊕ υ)} {h : σ → Exn → Option υ} (env : σ → List D) (hb : Bk (QtB env Q) mb ρ o)
    (hi : ∀ s, decide (i < (env s).length) = true) (hρ : ∀ s, (env s).set i .gone = env s) (hh : ∀ s e, HB Q i (env s) e hs (h s e)) : Bk Q (tryMs i mb hs) ρ (tryB (fun _ => true) o h) := fun z hz => by
  obtain ⟨r, e1, e2⟩ := ob_some hz
  obtain ⟨fl, ρ', h1, h2⟩ := hb r e1
  unfold tryMs
  rw [h1, Option.bind_some]
  cases r with
  | inr u =>
    cases e2
    obtain ⟨h3, h4⟩ := h2
    refine ⟨fl, ρ', ?_, h4⟩
    cases fl <;> first | rfl | cases h3
  | inl p =>
    obtain ⟨e, s⟩ := p
    obtain ⟨h3, h4⟩ := h2
    subst h3 h4
    have e2 : h s e = some z := e2
    obtain ⟨sm, fl, ρ2, k0, k1, k2, k3⟩ := hh s e z e2
    refine ⟨fl, ρ2.set i .gone, ?_, k3⟩
    dsimp only
    rw [if_pos (by simpa using hi s), k0, Option.bind_some, hρ, k1, Option.bind_some]
    cases fl <;> first | rfl | cases k2
end LI

namespace LI
open PySem L2 PyProof.Rows
theorem o2_catP {α β γ : Type} {e : α → D} {e' : β → D} {f : γ → D} [Fz e] [Fz e'] (cat : α → β → γ) (h : ∀ x y, ∃ a b, e x = .tup a ∧ e' y = .tup b ∧ f (cat x y) = .tup (a ++ b) ∧ a.length + b.length ≤ LIM) : O2 addD e e' f (fun x y => some (cat x y)) := o2_tot fun x y => by
  obtain ⟨a, b, h1, h2, h3, h4⟩ := h x y
  have z1 := Fz.fz (e := e) x
  have z2 := Fz.fz (e := e') y
  rw [h1] at z1
  rw [h2] at z2
  rw [h1, h2, h3]
  show (if (frzL a && frzL b) = true ∧ a.length + b.length ≤ LIM then some (D.tup (a ++ b)) else none) = _
  rw [if_pos ⟨by rw [show frzL a = true from z1, show frzL b = true from z2]; rfl, h4⟩]
theorem o2_catV {α : Type} {e : α → D} [Fz e] : O2 addD (eV e) (eV e) (eV e) catL := fun x y z h => by
  unfold catL at h
  split at h
  · rename_i hl
    cases h
    show (if (frzL (x.map e) && frzL (y.map e)) = true ∧ (x.map e).length + (y.map e).length ≤ LIM then some (D.tup (x.map e ++ y.map e)) else none) = some (D.tup ((x ++ y).map e))
    rw [if_pos ⟨by rw [fz_map, fz_map]; rfl, by rw [List.length_map, List.length_map]; exact hl⟩, List.map_append]
  · cases h
def dA (d : D) : Option An := if h : notGone d = true ∧ frz d = true then some ⟨d, h.1, h.2⟩ else none
instance : Dc eA dA where
  dc := fun d x h => by
    unfold dA at h
    split at h
    · cases h; rfl
    · cases h
  od := fun x => by
    unfold dA
    rw [dif_pos (show notGone (eA x) = true ∧ frz (eA x) = true from ⟨x.ng, x.fz⟩)]; rfl
def e0 (_ : Unit) : D := .tup []
instance : Ng e0 := ⟨fun _ => rfl⟩
instance : Fz e0 := ⟨fun _ => rfl⟩
section
variable {α β γ δ ε ζ η : Type} {a : α → D} {b : β → D} {c : γ → D} {d : δ → D} {e : ε → D} {f : ζ → D} {g : η → D}
def e7 (a : α → D) (b : β → D) (c : γ → D) (d : δ → D) (e : ε → D) (f : ζ → D) (g : η → D) (t : α × β × γ × δ × ε × ζ × η) : D := .tup [a t.1, b t.2.1, c t.2.2.1, d t.2.2.2.1, e t.2.2.2.2.1, f t.2.2.2.2.2.1, g t.2.2.2.2.2.2]
instance : Ng (e7 a b c d e f g) := ⟨fun _ => rfl⟩
instance [Fz a] [Fz b] [Fz c] [Fz d] [Fz e] [Fz f] [Fz g] : Fz (e7 a b c d e f g) := ⟨fun x => by simp [e7, Fz.fz]⟩
end
end LI

namespace OW
open PySem L2 LI
def t_lw_cell (script : (List Int)) (k : Int) : Option Int :=
  if decide (k < (List.length script : Int)) = true then
  (atI script k)
  else
  some (0 : Int)
def t_lw_mix (cell_here : Int) (k : Int) : Option Int :=
  if decide ((1000000000000000000 : Int) < cell_here) = true then
  let rest : Int := cell_here
  ((rngT k).bind fun v1_ => (foldT (fun (s2_ : Int) (turn : Int) =>
  let rest : Int := (s2_ / 1000000000)
  some rest) v1_ rest).bind fun (s2_ : Int) =>
  some (s2_ % 1000000000))
  else
  let number : Int := ((cell_here % 2147483647) + (7919 : Int))
  ((rngT (k + (2 : Int))).bind fun v3_ => (foldT (fun (s4_ : Int) (turn : Int) =>
  let number : Int := (((s4_ * 48271) + (104729 : Int)) % 2147483629)
  some number) v3_ number).bind fun (s4_ : Int) =>
  (((mulT s4_ s4_).bind fun v5_ => some (v5_ % 998244353)).bind fun v6_ => some (v6_ / 11)))
end OW

namespace OW
open PySem L2 LI
end OW

namespace OW
open PySem L2 LI
end OW

namespace OW
open PySem L2 LI
def t_width_of (sign : Ts) : Option Int :=
  ((inS sign ['A', 'B', 'C', 'D', 'E', 'F', 'G', 'H', 'I', 'J', 'K', 'L', 'M', 'N', 'O', 'P', 'Q', 'R', 'S', 'T', 'U', 'V', 'W', 'X', 'Y', 'Z']).bind fun v1_ => if v1_ = true then
  some (2 : Int)
  else
  some (1 : Int))
def t_taken (letters : (List (Ts × Ts × Ts × Int))) (lo : Int) (wide : Int) : Option Int :=
  let room : Int := wide
  let at_ : Int := lo
  (whileT (fun (s1_ : (Int × Int)) => (if decide (s1_.2 < (List.length letters : Int)) = true then ((((atI letters s1_.2).bind fun v2_ => some v2_.1).bind fun v3_ => (t_width_of v3_)).bind fun v4_ => some (decide (v4_ ≤ s1_.1))) else some false)) (fun (s1_ : (Int × Int)) =>
  (((((atI letters s1_.2).bind fun v5_ => some v5_.1).bind fun v6_ => (t_width_of v6_)).bind fun v7_ => some (s1_.1 - v7_))).bind fun (room : Int) =>
  let at_ : Int := (s1_.2 + (1 : Int))
  some (room, at_)) 5000 (room, at_)).bind fun (s1_ : (Int × Int)) =>
  some s1_.2
end OW

namespace OW
open PySem L2 LI
end OW

namespace OW
open PySem L2 LI
end OW

namespace OW
open PySem L2 LI
end OW

namespace OW
open PySem L2 LI
end OW

namespace OW
open PySem L2 LI
end OW

namespace OW
open PySem L2 LI
def t_lw_whole_b (thing : An) : Option Bool :=
  ((isiA "int" thing).bind fun v1_ => (if v1_ = true then ((isiA "bool" thing).bind fun v2_ => some (!v2_)) else some false))
end OW

namespace OW
open PySem L2 LI
structure OPlan where
  high : Int
  wide : Int
  rooms : (List (Ts × Int × Int × Int × Int × Ts))
def t_is_name (thing : Ts) : Option Bool :=
  ((if (!true) = true then some true else (((lenS thing).bind fun v1_ => (if decide ((1 : Int) ≤ v1_) = true then some (decide (v1_ ≤ (8 : Int))) else some false)).bind fun v2_ => some (!v2_))).bind fun v3_ => if v3_ = true then
  some false
  else
  (forT (τ := Bool) (fun (s4_ : Unit) (sign : Ts) =>
  (((inS sign ['a', 'b', 'c', 'd', 'e', 'f', 'g', 'h', 'i', 'j', 'k', 'l', 'm', 'n', 'o', 'p', 'q', 'r', 's', 't', 'u', 'v', 'w', 'x', 'y', 'z']).bind fun k => some (!k)).bind fun v5_ => if v5_ = true then
  some (.rt false : (St Unit Bool))
  else
  some (.nx () : (St Unit Bool)))) (chars thing) ()).bind fun u => seqT u fun (s4_ : Unit) => some true)
def t_is_whole (thing : Int) : Option Bool :=
  some (true && (!false))
def t_is_among (thing : Int) (least : Int) (most : Int) : Option Bool :=
  ((t_is_whole thing).bind fun v1_ => (if v1_ = true then (some (decide (least ≤ thing) && decide (thing ≤ most))) else some false))
def t_is_room (thing : (Ts × Int × Int × Int × Int × Ts)) (high : Int) (wide : Int) : Option Bool :=
  if ((!true) || (!decide ((6 : Int) = (6 : Int)))) = true then
  some false
  else
  let u1_ : (Ts × Int × Int × Int × Int × Ts) := thing
  ((((t_is_name u1_.1).bind fun v2_ => some (!v2_)).bind fun v3_ => (if v3_ = true then some true else (some ((!true) || (!memT u1_.2.2.2.2.2 ([['c', 'u', 't'], ['c', 'e', 'l', 'l', 's'], ['w', 'o', 'r', 'd', 's'], ['e', 'v', 'e', 'n']] : List Ts)))))).bind fun v4_ => if v4_ = true then
  some false
  else
  ((((t_is_among u1_.2.1 (0 : Int) high).bind fun v5_ => some (!v5_)).bind fun v6_ => (if v6_ = true then some true else (((t_is_among u1_.2.2.2.1 (1 : Int) high).bind fun v7_ => some (!v7_)).bind fun v8_ => (if v8_ = true then some true else (some (decide (high < (u1_.2.1 + u1_.2.2.2.1)))))))).bind fun v9_ => if v9_ = true then
  some false
  else
  ((t_is_among u1_.2.2.1 (0 : Int) wide).bind fun v10_ => (if v10_ = true then ((t_is_among u1_.2.2.2.2.1 (2 : Int) wide).bind fun v11_ => (if v11_ = true then (some (decide ((u1_.2.2.1 + u1_.2.2.2.2.1) ≤ wide))) else some false)) else some false))))
def t_is_apart (one : (Ts × Int × Int × Int × Int × Ts)) (other : (Ts × Int × Int × Int × Int × Ts)) : Option Bool :=
  if (decide ((one.2.1 + one.2.2.2.1) ≤ other.2.1) || decide ((other.2.1 + other.2.2.2.1) ≤ one.2.1)) = true then
  some true
  else
  some (decide ((one.2.2.1 + one.2.2.2.2.1) ≤ other.2.2.1) || decide ((other.2.2.1 + other.2.2.2.2.1) ≤ one.2.2.1))
def t_Plan_init (high : Int) (wide : Int) (rooms : (List (Ts × Int × Int × Int × Int × Ts))) : Option OPlan :=
  ((((t_is_among high (1 : Int) (12 : Int)).bind fun v1_ => some (!v1_)).bind fun v2_ => (if v2_ = true then some true else ((t_is_among wide (2 : Int) (40 : Int)).bind fun v3_ => some (!v3_)))).bind fun v4_ => if v4_ = true then
  none
  else
  if ((!true) || (decide (rooms = ([] : (List (Ts × Int × Int × Int × Int × Ts)))))) = true then
  none
  else
  let u5_ : Int := high
  let u6_ : Int := wide
  let u7_ : (List (Ts × Int × Int × Int × Int × Ts)) := ([] : (List (Ts × Int × Int × Int × Int × Ts)))
  (foldT (fun (s8_ : OPlan) (x9_ : (Int × (Ts × Int × Int × Int × Int × Ts))) =>
  ((if decide ((6 : Int) ≤ x9_.1) = true then some true else ((t_is_room x9_.2 high wide).bind fun v10_ => some (!v10_))).bind fun v11_ => if v11_ = true then
  none
  else
  (srchT (fun (other : (Ts × Int × Int × Int × Int × Ts)) => (if (decide (other.1 = x9_.2.1)) = true then some true else ((t_is_apart other x9_.2).bind fun v12_ => some (!v12_)))) s8_.rooms).bind fun u => srchK u (((appT s8_.rooms x9_.2)).bind fun (u13_ : (List (Ts × Int × Int × Int × Int × Ts))) =>
  some ({ s8_ with rooms := u13_ })) (fun (other : (Ts × Int × Int × Int × Int × Ts)) =>
  none))) (enumT 0 rooms) ({ high := u5_, wide := u6_, rooms := u7_ : OPlan })).bind fun (s8_ : OPlan) =>
  some s8_)
def t_Plan_room_names (self : OPlan) : Option (List Ts) :=
  (compT (fun (room : (Ts × Int × Int × Int × Int × Ts)) => (some true)) (fun (room : (Ts × Int × Int × Int × Int × Ts)) => (some room.1)) self.rooms)
end OW

namespace OW
open PySem L2 LI
end OW

namespace OW
open PySem L2 LI
end OW

namespace OW
open PySem L2 LI
end OW

namespace OW
open PySem L2 LI
end OW

namespace OW
open PySem L2 LI

def cols : Ts := ['a', 'b', 'c', 'd', 'e', 'f', 'g', 'h', '.']
def isCol (c : Char) : Bool := decide (c ∈ cols)
abbrev Im := Int × Ts × Ts
def kSign : Ts := ['s', 'i', 'g', 'n']
def kInk : Ts := ['i', 'n', 'k']
def kGround : Ts := ['g', 'r', 'o', 'u', 'n', 'd']
def kPlain : Ts := ['p', 'l', 'a', 'i', 'n']
def kEnd : Ts := ['e', 'n', 'd']
def kAnew : Ts := ['a', 'n', 'e', 'w']
def sgI (c : Char) : Ts × Ts := if c = '\n' then (kEnd, []) else if c = '\t' then (kAnew, []) else (kSign, [c])
def isColO : Option Char → Bool
  | some c => isCol c
  | none => false
def stp (s : Ts) : (Ts × Ts) × Nat :=
  if s[0]? = some '[' then
    if s[1]? = some ']' then ((kPlain, []), 2)
    else if s[1]? = some '[' then ((kSign, ['[']), 2)
    else if isColO s[1]? = true ∧ s[2]? = some ']' then ((kInk, [s[1]?.getD ' ']), 3)
    else if s[1]? = some '/' ∧ isColO s[2]? = true ∧ s[3]? = some ']' then ((kGround, [s[2]?.getD ' ']), 4)
    else ((kSign, ['[']), 1)
  else (sgI (s[0]?.getD ' '), 1)
theorem stp_pos (s : Ts) : 0 < (stp s).2 := by
  unfold stp
  repeat' split
  all_goals simp
def its (p : Int) (s : Ts) : List Im :=
  if h : s = [] then [] else (p, (stp s).1.1, (stp s).1.2) :: its (p + (stp s).2) (s.drop (stp s).2)
termination_by s.length
decreasing_by
  have := stp_pos s
  have : 0 < s.length := List.length_pos_iff.mpr h
  rw [List.length_drop]; omega
end OW

namespace OW
open PySem L2 LI

theorem cell_eq (ns : List Int) (k : Nat) : t_lw_cell ns (k : Int) = some (ns.getD k 0) := by
  unfold t_lw_cell
  by_cases h : k < ns.length
  · simp [h, atI_nat h]
  · simp [h]
theorem mix_ex (c : Int) (k : Int) (h0 : 0 ≤ k) (hk : k ≤ 1000000) : ∃ v, t_lw_mix c k = some v ∧ 0 ≤ v ∧ v < 1000000000 := by
  unfold t_lw_mix
  by_cases hc : (1000000000000000000 : Int) < c
  · rw [if_pos (by simpa using hc)]
    dsimp only
    rw [rngT_ok (by omega) (by omega), Option.bind_some]
    obtain ⟨s, h1, _⟩ := foldT_inv (g := fun (s1 : Int) (turn : Int) => some (s1 / 1000000000)) (fun _ => True) ((List.range k.toNat).map fun (k : Nat) => (k : Int)) c trivial fun s x _ _ => ⟨_, rfl, trivial⟩
    rw [h1]
    exact ⟨_, rfl, by omega, by omega⟩
  · rw [if_neg (by simpa using hc)]
    dsimp only
    rw [rngT_ok (by omega) (by omega), Option.bind_some]
    obtain ⟨s, h1, h2, h3⟩ := foldT_inv (g := fun (s1 : Int) (turn : Int) => some ((s1 * 48271 + 104729) % 2147483629)) (fun s => 0 ≤ s ∧ s < 4294967296) ((List.range (k + 2).toNat).map fun (k : Nat) => (k : Int)) (c % 2147483647 + 7919) ⟨by omega, by omega⟩ fun s x _ _ => ⟨_, rfl, by omega, by omega⟩
    rw [h1, Option.bind_some, mulT_ok (by omega) (by omega), Option.bind_some, Option.bind_some]
    refine ⟨_, rfl, ?_⟩
    generalize s * s = z
    exact ⟨by omega, by omega⟩
end OW

namespace OW
open PySem L2 LI
theorem atI_all {α : Type} {xs : List α} {P : α → Prop} {i : Int} (h0 : 0 ≤ i) (h1 : i < (xs.length : Int)) (h : ∀ x ∈ xs, P x) : ∃ x, atI xs i = some x ∧ P x := by
  obtain ⟨x, h2, h3⟩ := atI_ok h0 h1
  exact ⟨x, h3, h x h2⟩
end OW

namespace OW
open PySem L2 LI
abbrev Lt := Ts × Ts × Ts × Int
end OW

namespace OW
open PySem L2 LI
end OW

namespace OW
open PySem L2 LI
abbrev Lt3 := Ts × Ts × Ts
abbrev Kv := Ts × Ts
def pln : Ts := ['.']
def kvI (i : Im) : Kv := (i.2.1, i.2.2)
def kvs (s : Ts) : List Kv := (its 0 s).map kvI
def rv : Ts → Ts
  | [] => []
  | c :: s => if c = '\n' ∨ c = '\t' then [c] else (stp (c :: s)).1.2
end OW

namespace OW
open PySem L2 LI
namespace TR
abbrev Mv (ν : Type) := Int × Ts × ν
abbrev Pr (ν : Type) := List (ν × Option Int)
def Le (a b : Option Int) : Prop := ∀ y, b = some y → ∃ x, a = some x ∧ x ≤ y
section
variable {ν : Type}
variable [DecidableEq ν]
variable (mv : ν → List (Mv ν))
variable (en : ν → Bool)
def Att (p : ν → Option Int) (n : ν) : Prop := ∀ d, p n = some d → (en n = true ∧ d = 0) ∨ ∃ m ∈ mv n, ∃ r, p m.2.2 = some r ∧ m.1 + r ≤ d
def NN (p : ν → Option Int) : Prop := ∀ n d, p n = some d → 0 ≤ d
theorem filter_lt {q r : ν → Bool} : ∀ {l : List ν}, (∀ n ∈ l, q n = true → r n = true) → (∃ n ∈ l, r n = true ∧ q n = false) → (l.filter q).length < (l.filter r).length
  | [], _, ⟨n, h, _⟩ => by cases h
  | x :: l, h, hx => by
    have le : ∀ {l : List ν}, (∀ n ∈ l, q n = true → r n = true) → (l.filter q).length ≤ (l.filter r).length := by
      intro l
      induction l with
      | nil => intro _; exact Nat.le_refl _
      | cons y l ih =>
        intro h
        have i := ih fun n hn => h n (List.mem_cons_of_mem _ hn)
        rw [List.filter_cons, List.filter_cons]
        by_cases hq : q y = true
        · rw [if_pos hq, if_pos (h y List.mem_cons_self hq), List.length_cons, List.length_cons]; omega
        · rw [if_neg hq]
          split
          · rw [List.length_cons]; omega
          · exact i
    have hl := fun n hn => h n (List.mem_cons_of_mem x hn)
    obtain ⟨n, hn, h1, h2⟩ := hx
    rw [List.filter_cons, List.filter_cons]
    rcases List.mem_cons.mp hn with e | e
    · subst e
      rw [h1, h2]
      simp only [if_true, Bool.false_eq_true, if_false, List.length_cons]
      have := le hl
      omega
    · have i := filter_lt hl ⟨n, e, h1, h2⟩
      by_cases hq : q x = true
      · rw [if_pos hq, if_pos (h x List.mem_cons_self hq), List.length_cons, List.length_cons]; omega
      · rw [if_neg hq]
        split
        · rw [List.length_cons]; omega
        · exact i
end
end TR
end OW

namespace OW
open PySem L2 LI
namespace TR
section
variable {ν : Type} [DecidableEq ν]
def val (m : Pr ν) (n : ν) : Option Int := (getT m n).getD none
theorem getT_key {m : Pr ν} {n : ν} : n ∈ m.map (·.1) ↔ ∃ v, getT m n = some v := by
  induction m with
  | nil => exact ⟨fun h => (by cases h), fun ⟨v, h⟩ => (by cases h)⟩
  | cons p m ih =>
    rw [List.map_cons, List.mem_cons, getT]
    by_cases h : p.1 = n
    · rw [if_pos h]; exact ⟨fun _ => ⟨_, rfl⟩, fun _ => .inl h.symm⟩
    · rw [if_neg h, ← ih]
      exact ⟨fun q => q.elim (fun z => absurd z.symm h) id, .inr⟩
theorem getT_val {m : Pr ν} {n : ν} (h : n ∈ m.map (·.1)) : getT m n = some (val m n) := by
  obtain ⟨v, e⟩ := getT_key.mp h
  unfold val
  rw [e]; rfl
def gFirst (mv : ν → Option (List (Mv ν))) (prices : Pr ν) (node : ν) : Option (Option (Ts × ν)) :=
  (((mv node).bind fun v1_ => some v1_).bind fun v2_ => (forT (τ := (Option (Ts × ν))) (fun (s3_ : Unit) (x4_ : Mv ν) =>
  ((((getT prices x4_.2.2).bind fun v5_ => some (Option.isSome v5_)).bind fun v6_ => (if v6_ = true then (((((getT prices x4_.2.2).bind fun x => x).bind fun v7_ => some (x4_.1 + v7_)).bind fun v8_ => some (some v8_)).bind fun v9_ => (getT prices node).bind fun v10_ => some (decide (v9_ = v10_))) else some false)).bind fun v11_ => if v11_ = true then
  some (.rt (some (x4_.2.1, x4_.2.2)) : (St Unit (Option (Ts × ν))))
  else
  some (.nx () : (St Unit (Option (Ts × ν)))))) v2_ ()).bind fun u => seqT u fun (s3_ : Unit) => some ((fun _ => none) ()))
def gWay (f2 : Nat) (mv : ν → Option (List (Mv ν))) (prices0 : Option (Pr ν)) (isEnd : ν → Option Bool) (first : Option ν) : Option (Option (Option Int × List Ts)) :=
  (prices0).bind fun (prices : (Pr ν)) =>
  (first).bind fun (node : ν) =>
  (((getT prices node).bind fun v1_ => some (Option.isNone v1_)).bind fun v2_ => if v2_ = true then
  some ((fun _ => none) ())
  else
  let names : (List Ts) := ([] : (List Ts))
  (whileT (fun (s3_ : (ν × (List Ts))) => (((isEnd s3_.1).bind fun v4_ => some (!v4_)).bind fun v5_ => (if v5_ = true then some true else (((getT prices s3_.1).bind fun x => x).bind fun v6_ => some (decide ((0 : Int) < v6_)))))) (fun (s3_ : (ν × (List Ts))) =>
  (((gFirst mv prices s3_.1).bind fun x => x)).bind fun (u7_ : (Ts × ν)) =>
  ((appT s3_.2 u7_.1)).bind fun (u8_ : (List Ts)) =>
  some (u7_.2, u8_)) f2 (node, names)).bind fun (s3_ : (ν × (List Ts))) =>
  (((first.bind fun v9_ => (getT prices v9_)).bind fun v10_ => some (v10_, s3_.2)).bind fun v11_ => some (some v11_)))
end
end TR
end OW

namespace OW
open PySem L2 LI
namespace TR
structure Tr (ν : Type) where
  last : Nat
  nds : Nat → List ν
  mvs : ν → List (Mv ν)
  en : ν → Bool
  at_ : ν → Nat
section
variable {ν : Type} [DecidableEq ν]
def In (T : Tr ν) (n : ν) : Prop := T.at_ n ≤ T.last ∧ n ∈ T.nds (T.at_ n)
structure TrOk (T : Tr ν) : Prop where
  at_ok : ∀ a, a ≤ T.last → ∀ n ∈ T.nds a, T.at_ n = a
  nodup : ∀ a, a ≤ T.last → (T.nds a).Nodup
  to : ∀ n, In T n → ∀ x ∈ T.mvs n, In T x.2.2
  up : ∀ n, In T n → ∀ x ∈ T.mvs n, T.at_ n < T.at_ x.2.2 ∨ (T.at_ x.2.2 = T.at_ n ∧ 1 ≤ x.1)
  nn : ∀ n, In T n → ∀ x ∈ T.mvs n, 0 ≤ x.1
structure Priced (T : Tr ν) (m : Pr ν) : Prop where
  keys : ∀ n, n ∈ m.map (·.1) ↔ In T n
  nn : NN (val m)
  att : ∀ n, Att T.mvs T.en (val m) n
  fair : ∀ n, In T n → ∀ x ∈ T.mvs n, ∀ r, val m x.2.2 = some r → Le (val m n) (some (x.1 + r))
  ends : ∀ n, In T n → T.en n = true → val m n = some 0
def tot (T : Tr ν) : Nat → Nat
  | 0 => 0
  | k + 1 => tot T k + (T.nds (T.last - k)).length
inductive Path (T : Tr ν) (m : Pr ν) : ν → List Ts → Prop where
  | done (n : ν) : In T n → T.en n = true → Path T m n []
  | step (n : ν) (x : Mv ν) (names : List Ts) (r : Int) : In T n → T.en n = false → x ∈ T.mvs n → val m x.2.2 = some r → val m n = some (x.1 + r) → Path T m x.2.2 names → Path T m n (x.2.1 :: names)
theorem exact {T : Tr ν} {m : Pr ν} (h : Priced T m) {n : ν} (hn : In T n) {d : Int} (hd : val m n = some d) (he : T.en n = false) : ∃ x ∈ T.mvs n, ∃ r, val m x.2.2 = some r ∧ d = x.1 + r := by
  rcases h.att n d hd with ⟨a, _⟩ | ⟨x, h1, r, h2, h3⟩
  · rw [he] at a; cases a
  · obtain ⟨d', h4, h5⟩ := h.fair n hn x h1 r h2 _ rfl
    rw [hd] at h4; cases h4
    exact ⟨x, h1, r, h2, by omega⟩
theorem first_ok {T : Tr ν} {m : Pr ν} (hT : TrOk T) (h : Priced T m) {mv : ν → Option (List (Mv ν))} (hmv : ∀ n, In T n → mv n = some (T.mvs n)) {n : ν} (hn : In T n) {d : Int} (hd : val m n = some d) (he : T.en n = false) : ∃ x ∈ T.mvs n, ∃ r, val m x.2.2 = some r ∧ d = x.1 + r ∧ gFirst mv m n = some (some (x.2.1, x.2.2)) := by
  have key : ∀ ms : List (Mv ν), (∀ x ∈ ms, x.2.2 ∈ m.map (·.1)) → (∃ x ∈ ms, ∃ r, val m x.2.2 = some r ∧ d = x.1 + r) → ∃ x ∈ ms, ∃ r, val m x.2.2 = some r ∧ d = x.1 + r ∧ forT (τ := (Option (Ts × ν))) (fun (s3_ : Unit) (x4_ : Mv ν) =>
  ((((getT m x4_.2.2).bind fun v5_ => some (Option.isSome v5_)).bind fun v6_ => (if v6_ = true then (((((getT m x4_.2.2).bind fun x => x).bind fun v7_ => some (x4_.1 + v7_)).bind fun v8_ => some (some v8_)).bind fun v9_ => (getT m n).bind fun v10_ => some (decide (v9_ = v10_))) else some false)).bind fun v11_ => if v11_ = true then
  some (.rt (some (x4_.2.1, x4_.2.2)) : (St Unit (Option (Ts × ν))))
  else
  some (.nx () : (St Unit (Option (Ts × ν)))))) ms () = some (.inr (some (x.2.1, x.2.2))) := by
    intro ms
    induction ms with
    | nil => intro _ ⟨x, hx, _⟩; cases hx
    | cons y ms ih =>
      intro ht hx
      rw [forT_cons, getT_val (ht y List.mem_cons_self), getT_val ((h.keys n).mpr hn)]
      by_cases hy : ∃ r, val m y.2.2 = some r ∧ d = y.1 + r
      · obtain ⟨r, h1, h2⟩ := hy
        refine ⟨y, List.mem_cons_self, r, h1, h2, ?_⟩
        simp only [Option.bind_some, h1, hd, Option.isSome_some, if_true, h2, decide_true]
      · obtain ⟨x, hx1, r, hx2, hx3⟩ := hx
        have hx' : ∃ x ∈ ms, ∃ r, val m x.2.2 = some r ∧ d = x.1 + r := by
          rcases List.mem_cons.mp hx1 with q | q
          · subst q; exact absurd ⟨r, hx2, hx3⟩ hy
          · exact ⟨x, q, r, hx2, hx3⟩
        obtain ⟨z, z1, r', z2, z3, z4⟩ := ih (fun x hx => ht x (List.mem_cons_of_mem _ hx)) hx'
        refine ⟨z, List.mem_cons_of_mem _ z1, r', z2, z3, ?_⟩
        have e : ((((some (val m y.2.2)).bind fun v5_ => some (Option.isSome v5_)).bind fun v6_ => (if v6_ = true then (((((some (val m y.2.2)).bind fun x => x).bind fun v7_ => some (y.1 + v7_)).bind fun v8_ => some (some v8_)).bind fun v9_ => (some (val m n)).bind fun v10_ => some (decide (v9_ = v10_))) else some false)).bind fun v11_ => if v11_ = true then
  some (.rt (some (y.2.1, y.2.2)) : (St Unit (Option (Ts × ν))))
  else
  some (.nx () : (St Unit (Option (Ts × ν))))) = some (.nx ()) := by
          cases hv : val m y.2.2 with
          | none => rfl
          | some r0 =>
            simp only [Option.bind_some, hd, Option.isSome_some, if_true]
            rw [if_neg]
            simp only [decide_eq_true_eq, Option.some.injEq]
            intro q
            exact hy ⟨r0, hv, q.symm⟩
        rw [e]
        rw [getT_val ((h.keys n).mpr hn)] at z4
        exact z4
  obtain ⟨x, h1, r, h2, h3, h4⟩ := key (T.mvs n) (fun x hx => (h.keys _).mpr (hT.to n hn x hx)) (exact h hn hd he)
  refine ⟨x, h1, r, h2, h3, ?_⟩
  unfold gFirst
  rw [hmv n hn, Option.bind_some, Option.bind_some, h4]
  rfl
def below (T : Tr ν) (m : Pr ν) (n k : ν) : Bool := decide (T.at_ n < T.at_ k) || (decide (T.at_ k = T.at_ n) && decide ((val m k).getD 0 < (val m n).getD 0))
def rank (T : Tr ν) (m : Pr ν) (n : ν) : Nat := ((m.map (·.1)).filter (below T m n)).length
theorem rank_lt {T : Tr ν} {m : Pr ν} (hT : TrOk T) (h : Priced T m) {n : ν} (hn : In T n) {x : Mv ν} (hx : x ∈ T.mvs n) {r : Int} (hr : val m x.2.2 = some r) (hd : val m n = some (x.1 + r)) : rank T m x.2.2 < rank T m n := by
  have hb : below T m n x.2.2 = true := by
    unfold below
    rcases hT.up n hn x hx with z | ⟨z, y⟩
    · simp [z]
    · rw [hr, hd]
      simp only [Option.getD_some]
      simp [z]; omega
  refine filter_lt (fun k _ hk => ?_) ⟨x.2.2, (h.keys _).mpr (hT.to n hn x hx), hb, by simp [below]⟩
  unfold below at hk hb ⊢
  simp only [Bool.or_eq_true, Bool.and_eq_true, decide_eq_true_eq] at hk hb ⊢
  rcases hk with hk | ⟨hk1, hk2⟩ <;> rcases hb with hb | ⟨hb1, hb2⟩
  · left; omega
  · left; omega
  · left; omega
  · right; exact ⟨by omega, by omega⟩
theorem way_ok {T : Tr ν} {m : Pr ν} (hT : TrOk T) (h : Priced T m) {f2 : Nat} {mv : ν → Option (List (Mv ν))} {isEnd : ν → Option Bool} (hmv : ∀ n, In T n → mv n = some (T.mvs n)) (hen : ∀ n, In T n → isEnd n = some (T.en n)) {fst : ν} (hf : In T fst) (hlen : m.length + 2 ≤ f2) (hl : m.length < LIM) :
    (val m fst = none ∧ gWay f2 mv (some m) isEnd (some fst) = some none) ∨ ∃ d names, val m fst = some d ∧ gWay f2 mv (some m) isEnd (some fst) = some (some (some d, names)) ∧ Path T m fst names := by
  unfold gWay
  rw [Option.bind_some, Option.bind_some, getT_val ((h.keys fst).mpr hf), Option.bind_some, Option.bind_some]
  cases hv : val m fst with
  | none => exact .inl ⟨rfl, rfl⟩
  | some d =>
    right
    have key : ∀ (N : Nat) (n : ν) (acc : List Ts) (f : Nat) (d : Int), In T n → rank T m n ≤ N → val m n = some d → N + 2 ≤ f → acc.length + N < LIM → ∃ n' names, whileT (fun (s3_ : (ν × (List Ts))) => (((isEnd s3_.1).bind fun v4_ => some (!v4_)).bind fun v5_ => (if v5_ = true then some true else (((getT m s3_.1).bind fun x => x).bind fun v6_ => some (decide ((0 : Int) < v6_)))))) (fun (s3_ : (ν × (List Ts))) =>
  (((gFirst mv m s3_.1).bind fun x => x)).bind fun (u7_ : (Ts × ν)) =>
  ((appT s3_.2 u7_.1)).bind fun (u8_ : (List Ts)) =>
  some (u7_.2, u8_)) f (n, acc) = some (n', acc ++ names) ∧ Path T m n names := by
      intro N
      induction N with
      | zero =>
        intro n acc f d hn hN hd hf hacc
        obtain ⟨g, rfl⟩ : ∃ g, f = g + 1 := ⟨f - 1, by omega⟩
        cases he : T.en n with
        | true =>
          refine ⟨n, [], ?_, .done n hn he⟩
          rw [whileT_succ, hen n hn, he, getT_val ((h.keys n).mpr hn), h.ends n hn he]
          simp
        | false =>
          obtain ⟨x, h1, r, h2, h3⟩ := exact h hn hd he
          have := rank_lt hT h hn h1 h2 (by rw [hd, h3])
          omega
      | succ N ih =>
        intro n acc f d hn hN hd hf hacc
        obtain ⟨g, rfl⟩ : ∃ g, f = g + 1 := ⟨f - 1, by omega⟩
        cases he : T.en n with
        | true =>
          refine ⟨n, [], ?_, .done n hn he⟩
          rw [whileT_succ, hen n hn, he, getT_val ((h.keys n).mpr hn), h.ends n hn he]
          simp
        | false =>
          obtain ⟨x, h1, r, h2, h3, h4⟩ := first_ok hT h hmv hn hd he
          have hr := rank_lt hT h hn h1 h2 (by rw [hd, h3])
          obtain ⟨n', names, e, p⟩ := ih x.2.2 (acc ++ [x.2.1]) g r (hT.to n hn x h1) (by omega) h2 (by omega) (by rw [List.length_append, List.length_singleton]; omega)
          refine ⟨n', x.2.1 :: names, ?_, .step n x names r hn he h1 h2 (by rw [hd, h3]) p⟩
          rw [whileT_succ, hen n hn, he]
          simp only [Option.bind_some, Bool.not_false, if_true]
          rw [h4]
          simp only [Option.bind_some]
          rw [appT_ok (by omega)]
          simp only [Option.bind_some]
          rw [e, List.append_assoc]
          rfl
    have hrk : rank T m fst ≤ m.length := by
      unfold rank
      have := List.length_filter_le (below T m fst) (m.map (·.1))
      rw [List.length_map] at this
      exact this
    obtain ⟨n', names, e, p⟩ := key m.length fst [] f2 d hf hrk hv hlen (by simpa using hl)
    refine ⟨d, names, rfl, ?_, p⟩
    rw [if_neg (by simp)]
    dsimp only
    rw [e]
    simp only [Option.bind_some]
    rw [getT_val ((h.keys fst).mpr hf), hv]
    rfl
end
end TR
end OW

namespace OW
open PySem L2 LI TR
abbrev NdS := Int × (Ts × Ts)
def colsI (L : List Lt3) : List Ts := (nub (L.map (fun l => l.2.1) ++ [pln])).mergeSort leTs
def colsG (L : List Lt3) : List Ts := (nub (L.map (fun l => l.2.2) ++ [pln])).mergeSort leTs
def wr1 (s : Ts) : Ts := if s = ['['] then ['[', '['] else s
def shw (l : Lt3) (st : Ts × Ts) : Bool := decide (l.2.2 = st.2) && (decide (l.1 = [' ']) || decide (l.2.1 = st.1))
def ndsS (L : List Lt3) (a : Nat) : List NdS := (colsI L).flatMap fun i => (colsG L).map fun g => ((a : Int), (i, g))
def mvsS (L : List Lt3) (n : NdS) : List (Mv NdS) :=
  ([(2, ['[', ']'], (n.1, (pln, pln)))] : List (Mv NdS)) ++ ((colsI L).map fun i => (((3 : Int), ['['] ++ i ++ [']'], (n.1, (i, n.2.2))) : Mv NdS)) ++ ((colsG L).map fun g => (((4 : Int), ['[', '/'] ++ g ++ [']'], (n.1, (n.2.1, g))) : Mv NdS)) ++
    (match L[n.1.toNat]? with | some l => if shw l n.2 = true then ([(0, wr1 l.1, (n.1 + 1, n.2))] : List (Mv NdS)) else [] | none => [])
def T (L : List Lt3) : Tr NdS := { last := L.length, nds := ndsS L, mvs := mvsS L, en := fun n => decide (n = ((L.length : Int), (pln, pln))), at_ := fun n => n.1.toNat }
end OW

namespace OW
open PySem L2 LI TR
end OW

namespace OW
open PySem L2 LI
end OW

namespace OW
open PySem L2 LI
section
variable {κ α : Type} [DecidableEq κ]
end
end OW

namespace OW
open PySem L2 LI
end OW

namespace OW
open PySem L2 LI
end OW

namespace OW
open PySem L2 LI
end OW

namespace OW
open PySem L2 LI
end OW

namespace OW
open PySem L2 LI
@[reducible] def grt : Ts := ['A', 'B', 'C', 'D', 'E', 'F', 'G', 'H', 'I', 'J', 'K', 'L', 'M', 'N', 'O', 'P', 'Q', 'R', 'S', 'T', 'U', 'V', 'W', 'X', 'Y', 'Z']
def wdC (s : Ts) : Int := match s with | [c] => if c ∈ grt then 2 else 1 | _ => 1
def okL (l : Lt) : Prop := ∃ c, l.1 = [c]
theorem width_eq {l : Lt} (h : okL l) : t_width_of l.1 = some (wdC l.1) := by
  obtain ⟨c, h⟩ := h
  unfold t_width_of wdC
  rw [h]
  have : inS [c] grt = some (decide (c ∈ grt)) := rfl
  rw [show inS [c] ['A', 'B', 'C', 'D', 'E', 'F', 'G', 'H', 'I', 'J', 'K', 'L', 'M', 'N', 'O', 'P', 'Q', 'R', 'S', 'T', 'U', 'V', 'W', 'X', 'Y', 'Z'] = some (decide (c ∈ grt)) from rfl, Option.bind_some]
  by_cases hc : c ∈ grt <;> simp only [hc, decide_true, decide_false, if_true, if_false, Bool.false_eq_true]
def tk : Int → List Lt → Nat
  | _, [] => 0
  | w, l :: ls => if wdC l.1 ≤ w then tk (w - wdC l.1) ls + 1 else 0
theorem tk_nil (w : Int) : tk w [] = 0 := rfl
theorem tk_cons (w : Int) (l : Lt) (ls : List Lt) : tk w (l :: ls) = if wdC l.1 ≤ w then tk (w - wdC l.1) ls + 1 else 0 := rfl
theorem drop_at {α : Type} {ls : List α} {a : Nat} (h : a < ls.length) : ls.drop a = ls[a] :: ls.drop (a + 1) := List.drop_eq_getElem_cons h
theorem taken_eq {ls : List Lt} (hk : ∀ l ∈ ls, okL l) (hl : ls.length < 5000) {lo : Nat} (h : lo ≤ ls.length) (w : Int) : t_taken ls (lo : Int) w = some ((lo + tk w (ls.drop lo) : Nat) : Int) := by
  unfold t_taken
  dsimp only
  obtain ⟨st, h1, _, h3⟩ := whileT_inv (p := fun (s1_ : (Int × Int)) => (if decide (s1_.2 < (List.length ls : Int)) = true then ((((atI ls s1_.2).bind fun v2_ => some v2_.1).bind fun v3_ => (t_width_of v3_)).bind fun v4_ => some (decide (v4_ ≤ s1_.1))) else some false)) (g := fun (s1_ : (Int × Int)) =>
      (((((atI ls s1_.2).bind fun v5_ => some v5_.1).bind fun v6_ => (t_width_of v6_)).bind fun v7_ => some (s1_.1 - v7_))).bind fun (room : Int) => some (room, (s1_.2 + (1 : Int))))
    (fun st => ∃ a : Nat, st.2 = (a : Int) ∧ a ≤ ls.length ∧ a + tk st.1 (ls.drop a) = lo + tk w (ls.drop lo)) (fun st => (ls.length - st.2).toNat) (fun st => st.2 = ((lo + tk w (ls.drop lo) : Nat) : Int)) (by
      rintro ⟨room, at_⟩ ⟨a, e1, h2, h3⟩
      dsimp only at e1 h2 h3 ⊢
      subst e1
      by_cases ha : a < ls.length
      · have hw := width_eq (hk ls[a] (List.getElem_mem ha))
        rw [drop_at ha, tk_cons] at h3
        by_cases hr : wdC ls[a].1 ≤ room
        · right
          rw [if_pos hr] at h3
          rw [if_pos (by simp [ha]), atI_nat ha]
          simp only [Option.bind_some, hw]
          refine ⟨by simp [hr], _, rfl, ⟨a + 1, by simp, by omega, by dsimp only; omega⟩, by dsimp only; omega⟩
        · left
          rw [if_neg hr] at h3
          rw [if_pos (by simp [ha]), atI_nat ha]
          simp only [Option.bind_some, hw]
          exact ⟨by simp [hr], by omega⟩
      · left
        have : a = ls.length := by omega
        subst this
        rw [List.drop_length, tk_nil] at h3
        exact ⟨by simp, by omega⟩) 5000 (w, (lo : Int)) ⟨lo, rfl, h, rfl⟩ (by dsimp only; omega)
  rw [h1, Option.bind_some, h3]
end OW

namespace OW
open PySem L2 LI
def sgnL (ls : List Lt) (i : Nat) : Ts := (ls[i]?.map fun l => l.1).getD []
def brkI (ls : List Lt) (x : Int) : Bool := decide (sgnL ls (x - 1).toNat = [' ']) && !decide (sgnL ls x.toNat = [' '])
def breaksL (ls : List Lt) : List Int := (((List.range (ls.length - 1)).map fun (j : Nat) => 1 + (j : Int)).filter (brkI ls)) ++ (if 0 < ls.length then [(ls.length : Int)] else [])
def bareN (ls : List Lt) (lo : Nat) : Nat → Nat
  | 0 => 0
  | h + 1 => if lo < h + 1 ∧ sgnL ls h = [' '] then bareN ls lo h else h + 1
def sumW (ls : List Lt) : Int := (ls.map fun l => wdC l.1).sum
def cel (ls : List Lt) (lo hi : Nat) : Int := sumW ((ls.take (bareN ls lo hi)).drop lo)
def rch (ls : List Lt) (lo : Nat) (w : Int) : List Int → List Int
  | [] => []
  | s :: ss => if (lo : Int) < s then (if cel ls lo s.toNat ≤ w then s :: rch ls lo w ss else []) else rch ls lo w ss
def lines1 (ls : List Lt) (lo : Nat) (w : Int) : List Int := if rch ls lo w (breaksL ls) = [] then [((lo + tk w (ls.drop lo) : Nat) : Int)] else rch ls lo w (breaksL ls)
end OW

namespace OW
open PySem L2 LI
section
variable {κ α : Type} [DecidableEq κ]
end
def costN (ls : List Lt) (w : Int) (lo hi : Nat) : Int := if hi = ls.length then 0 else (w - cel ls lo hi) * (w - cel ls lo hi)
def mv (ls : List Lt) (w : Int) (a : Nat) : List (Int × Ts × (Int × Int)) := (lines1 ls a w).map fun s => (costN ls w a s.toNat, (toString s).toList, (s, 0))
end OW

namespace OW
open PySem L2 LI
end OW

namespace OW
open PySem L2 LI
end OW

namespace OW
open PySem L2 LI
abbrev Cl := Ts × Ts × Ts
abbrev Wt := Int × Int × List Cl
def layR (row : List Cl) (c : Nat) (cs : List Cl) : List Cl := row.take c ++ cs ++ row.drop (c + cs.length)
def lay (p : List (List Cl)) (x : Wt) : List (List Cl) := p.set x.1.toNat (layR (p.getD x.1.toNat []) x.2.1.toNat x.2.2)
end OW

namespace OW
open PySem L2 LI
abbrev Rm := Ts × Int × Int × Int × Int × Ts
def lineAt (lines : List (List Lt)) (k : Int) : List Lt := lines.getD k.toNat []
structure RmOk (h w : Nat) (rm : Rm) : Prop where
  top : 0 ≤ rm.2.1
  tall : 1 ≤ rm.2.2.2.1
  low : rm.2.1 + rm.2.2.2.1 ≤ h
  left : 0 ≤ rm.2.2.1
  broad : 2 ≤ rm.2.2.2.2.1
  right : rm.2.2.1 + rm.2.2.2.2.1 ≤ w
structure LnOk (rm : Rm) (lines : List (List Lt)) : Prop where
  ok : ∀ ls ∈ lines, ∀ l ∈ ls, okL l
  wide : ∀ ls ∈ lines, sumW ls ≤ rm.2.2.2.2.1
theorem LnOk.at {rm : Rm} {lines : List (List Lt)} {h w : Nat} (R : RmOk h w rm) (L : LnOk rm lines) (k : Int) : (∀ l ∈ lineAt lines k, okL l) ∧ sumW (lineAt lines k) ≤ rm.2.2.2.2.1.toNat := by
  have hb := R.broad
  unfold lineAt
  rw [List.getD_eq_getElem?_getD]
  cases e : lines[k.toNat]? with
  | none => exact ⟨fun l hl => by simp at hl, by show (0 : Int) ≤ _; omega⟩
  | some ls =>
    have hm := List.mem_of_getElem? e
    have := L.wide ls hm
    exact ⟨L.ok ls hm, by show sumW ls ≤ _; omega⟩
end OW

namespace OW
open PySem L2 LI
abbrev Sp := List (Int × Int)
def kPass : Ts := ['p', 'a', 's', 's']
def kBegin : Ts := ['b', 'e', 'g', 'i', 'n']
def kOn : Ts := ['o', 'n']
def likeS (one other : List Cl) (x : Int × Int) : Bool := decide (cutL one (some x.1) (some (x.1 + x.2)) = cutL other (some x.1) (some (x.1 + x.2)))
def chM (one other : List Cl) (n : Int × Int) (x : Int × Int) : List (TR.Mv (Int × Int)) := (if likeS one other x = true then [((0 : Int), kPass, (n.1 + 1, (0 : Int)))] else []) ++ [if n.2 = 0 then ((4 : Int) + x.2, kBegin, (n.1 + 1, (1 : Int))) else (x.2, kOn, (n.1 + 1, (1 : Int)))]
section
variable {one other : List Cl} {sp : Sp} {w : Int}
end
end OW

namespace OW
open PySem L2 LI
section
variable {one other : List Cl} {r c b st : Int} {W : List Wt} {w : Nat}
end
section
variable {one other : List Cl} {r c b st : Int} {W : List Wt} {w : Nat}
end
end OW

namespace OW
open PySem L2 LI
end OW

namespace OW
open PySem L2 LI
def apart (a b : Rm) : Bool := (decide (a.2.1 + a.2.2.2.1 ≤ b.2.1) || decide (b.2.1 + b.2.2.2.1 ≤ a.2.1)) || (decide (a.2.2.1 + a.2.2.2.2.1 ≤ b.2.2.1) || decide (b.2.2.1 + b.2.2.2.2.1 ≤ a.2.2.1))
theorem apart_eq (a b : Rm) : t_is_apart a b = some (apart a b) := by
  unfold t_is_apart apart
  split
  · rename_i h; rw [h]; rfl
  · rename_i h; rw [Bool.not_eq_true _ |>.mp h, Bool.false_or]
theorem among_eq (t a b : Int) : t_is_among t a b = some (decide (a ≤ t) && decide (t ≤ b)) := rfl
def smalls : Ts := ['a', 'b', 'c', 'd', 'e', 'f', 'g', 'h', 'i', 'j', 'k', 'l', 'm', 'n', 'o', 'p', 'q', 'r', 's', 't', 'u', 'v', 'w', 'x', 'y', 'z']
def nm1 (s : Ts) : Prop := 1 ≤ s.length ∧ s.length ≤ 8 ∧ ∀ c ∈ s, c ∈ smalls
theorem is_name_1 {s : Ts} (h : nm1 s) : t_is_name s = some true := by
  obtain ⟨h1, h2, h3⟩ := h
  unfold t_is_name
  rw [if_neg (by decide), lenS_ok (by unfold LIM; omega), Option.bind_some, if_pos (by simpa using (by omega : (1 : Int) ≤ s.length)), Option.bind_some]
  rw [show decide ((s.length : Int) ≤ 8) = true by simpa using (by omega : (s.length : Int) ≤ 8), Option.bind_some, if_neg (by decide), forT_unit, Option.bind_some, seqT_inl]
  intro x hx
  obtain ⟨c, hc, rfl⟩ := chars_mem hx
  rw [inS_1, Option.bind_some, Option.bind_some]
  have : decide (c ∈ (['a', 'b', 'c', 'd', 'e', 'f', 'g', 'h', 'i', 'j', 'k', 'l', 'm', 'n', 'o', 'p', 'q', 'r', 's', 't', 'u', 'v', 'w', 'x', 'y', 'z'] : Ts)) = true := decide_eq_true (h3 c hc)
  rw [this]; rfl
def wys : List Ts := [['c', 'u', 't'], ['c', 'e', 'l', 'l', 's'], ['w', 'o', 'r', 'd', 's'], ['e', 'v', 'e', 'n']]
structure RmG (r : Rm) (hi wi : Int) : Prop where
  nm : nm1 r.1
  wy : r.2.2.2.2.2 ∈ wys
  t0 : 0 ≤ r.2.1
  t1 : 1 ≤ r.2.2.2.1
  t2 : r.2.1 + r.2.2.2.1 ≤ hi
  l0 : 0 ≤ r.2.2.1
  l1 : 2 ≤ r.2.2.2.2.1
  l2 : r.2.2.1 + r.2.2.2.2.1 ≤ wi
theorem is_room_ok {r : Rm} {hi wi : Int} (h : RmG r hi wi) : t_is_room r hi wi = some true := by
  unfold t_is_room
  obtain ⟨nm, wy, t0, t1, t2, l0, l1, l2⟩ := h
  have hw : memT r.2.2.2.2.2 ([['c', 'u', 't'], ['c', 'e', 'l', 'l', 's'], ['w', 'o', 'r', 'd', 's'], ['e', 'v', 'e', 'n']] : List Ts) = true := by
    simp only [wys, List.mem_cons, List.not_mem_nil, or_false] at wy
    rcases wy with h | h | h | h <;> (rw [h]; decide)
  rw [if_neg (by decide)]
  dsimp only
  rw [is_name_1 nm, Option.bind_some, Option.bind_some, if_neg (by decide), hw, Option.bind_some, if_neg (by decide)]
  simp only [among_eq, Option.bind_some]
  rw [decide_eq_true t0, decide_eq_true (show r.2.1 ≤ hi by omega), decide_eq_true t1, decide_eq_true (show r.2.2.2.1 ≤ hi by omega), decide_eq_true l0, decide_eq_true (show r.2.2.1 ≤ wi by omega), decide_eq_true l1, decide_eq_true (show r.2.2.2.2.1 ≤ wi by omega), decide_eq_true l2, decide_eq_false (show ¬ hi < r.2.1 + r.2.2.2.1 by omega)]
  rfl
def Rs (rs : List Rm) : Prop := rs.Pairwise fun a b => a.1 ≠ b.1 ∧ apart a b = true
theorem srch_none {α : Type} {c : α → Option Bool} : ∀ {xs : List α}, (∀ x ∈ xs, c x = some false) → srchT c xs = some none
  | [], _ => rfl
  | x :: xs, h => by
    rw [srchT, h x List.mem_cons_self, Option.bind_some, if_neg (by decide)]
    exact srch_none fun y hy => h y (List.mem_cons_of_mem _ hy)
theorem plan_loop {hi wi : Int} {g : OPlan → Int × Rm → Option OPlan}
    (hg : ∀ (p : OPlan) (k : Nat) (r : Rm), k < 6 → RmG r hi wi → (∀ o ∈ p.rooms, o.1 ≠ r.1 ∧ apart o r = true) → p.rooms.length < 100 → g p ((k : Int), r) = some { p with rooms := p.rooms ++ [r] }) :
    ∀ (rs : List Rm) (k : Nat) (p : OPlan), k + rs.length ≤ 6 → (∀ r ∈ rs, RmG r hi wi) → Rs (p.rooms ++ rs) → p.rooms.length + rs.length < 100 → foldT g (enumT k rs) p = some { p with rooms := p.rooms ++ rs }
  | [], k, p, _, _, _, _ => by simp [enumT]
  | r :: rs, k, p, h1, h2, h3, h4 => by
    rw [List.length_cons] at h1 h4
    have h5 := List.pairwise_append.mp h3
    rw [enumT, foldT_cons, hg p k r (by omega) (h2 r List.mem_cons_self) (fun o ho => h5.2.2 o ho r List.mem_cons_self) (by omega), Option.bind_some]
    rw [plan_loop hg rs (k + 1) _ (by omega) (fun x hx => h2 x (List.mem_cons_of_mem _ hx)) (by dsimp only; rw [List.append_assoc]; exact h3) (by dsimp only; rw [List.length_append, List.length_singleton]; omega)]
    simp
theorem plan_init {rs : List Rm} {hi wi : Int} (a1 : 1 ≤ hi) (a2 : hi ≤ 12) (b1 : 2 ≤ wi) (b2 : wi ≤ 40) (h0 : rs ≠ []) (h6 : rs.length ≤ 6) (hr : ∀ r ∈ rs, RmG r hi wi) (hs : Rs rs) : t_Plan_init hi wi rs = some ⟨hi, wi, rs⟩ := by
  unfold t_Plan_init
  rw [among_eq, among_eq, decide_eq_true a1, decide_eq_true a2, decide_eq_true b1, decide_eq_true b2]
  simp only [Option.bind_some, Bool.and_self, Bool.not_true, Bool.false_eq_true, if_false, Bool.false_or]
  rw [if_neg (by simpa using h0)]
  rw [plan_loop (hi := hi) (wi := wi) (fun p k r hk hr ho hl => ?_) rs 0 ⟨hi, wi, []⟩ (by omega) hr (by simpa using hs) (by simp; omega)]
  · simp
  · rw [if_neg (by simpa using (by omega : ¬ (6 : Int) ≤ (k : Int))), is_room_ok hr, Option.bind_some, Option.bind_some, if_neg (by decide)]
    rw [srch_none, Option.bind_some]
    · show (appT _ _).bind _ = _
      rw [appT_ok (by unfold LIM; omega)]; rfl
    · intro o h
      obtain ⟨n1, n2⟩ := ho o h
      rw [if_neg (by simpa using n1), apart_eq, n2]; rfl
theorem smalls_ix {v : Int} (h0 : 0 ≤ v) : ∃ h : (v % 26).toNat < smalls.length, ixS smalls (v % 26) = some [smalls[(v % 26).toNat]] := by
  have := mod_in v 26 (by omega)
  have hl : (v % 26).toNat < smalls.length := by rw [show smalls.length = 26 from rfl]; omega
  refine ⟨hl, ?_⟩
  have := ixS_ok (s := smalls) (i := (v % 26).toNat) (by rw [show smalls.length = 26 from rfl]; unfold LIM; omega) hl
  rw [← this]; congr 1; omega
theorem smalls_inj (i j : Nat) (hi : i < 26) (hj : j < 26) (h : smalls[i]? = smalls[j]?) : i = j :=
  (by decide : ∀ i : Fin 26, ∀ j : Fin 26, smalls[i.val]? = smalls[j.val]? → i.val = j.val) ⟨i, hi⟩ ⟨j, hj⟩ h
theorem way_ex {v : Int} : ∃ w ∈ wys, atI [(['c', 'u', 't'] : Ts), (['c', 'e', 'l', 'l', 's'] : Ts), (['w', 'o', 'r', 'd', 's'] : Ts), (['e', 'v', 'e', 'n'] : Ts)] (v % 4) = some w := by
  have := mod_in v 4 (by omega)
  exact atI_ok (xs := wys) this.1 (by simpa [wys] using this.2)
end OW

namespace LW
open PySem L2 LI OW
def xL : List (Nat × List Str) := [(4, []), (5, ["at"])]
def kL : List Nat := [0, 1, 2, 3, 5, 6]
def subX (n k : Nat) : Bool := decide ((n, k) ∈ ([(5, 5), (5, 0), (4, 0)] : List (Nat × Nat)))
def xN_NoSize : List (Nat × List Str) := [(5, ["at"])]
def xN_NoRoom : List (Nat × List Str) := [(4, [])]
def xL_NoSize : List (Nat × List Str) := [(4, [])]
theorem sbX_NoSize : ∀ p ∈ xL_NoSize, p ∈ xL := by decide
def xL_NoRoom : List (Nat × List Str) := [(5, ["at"])]
theorem sbX_NoRoom : ∀ p ∈ xL_NoRoom, p ∈ xL := by decide
def t_is_name__X1 (thing : An) : Option Bool :=
  ((((isiA "str" thing).bind fun v1_ => some (!v1_)).bind fun v2_ => (if v2_ = true then some true else (((lenA thing).bind fun v3_ => (if decide ((1 : Int) ≤ v3_) = true then some (decide (v3_ ≤ (8 : Int))) else some false)).bind fun v4_ => some (!v4_)))).bind fun v5_ => if v5_ = true then
  some false
  else
  (((dS thing.d).bind fun v6_ => some (chars v6_)).bind fun v7_ => (forT (τ := Bool) (fun (s8_ : Unit) (sign : Ts) =>
  (((inS sign ['a', 'b', 'c', 'd', 'e', 'f', 'g', 'h', 'i', 'j', 'k', 'l', 'm', 'n', 'o', 'p', 'q', 'r', 's', 't', 'u', 'v', 'w', 'x', 'y', 'z']).bind fun k => some (!k)).bind fun v9_ => if v9_ = true then
  some (.rt false : (St Unit Bool))
  else
  some (.nx () : (St Unit Bool)))) v7_ ()).bind fun u => seqT u fun (s8_ : Unit) => some true))
def t_is_among__X1 (thing : An) (least : Int) (most : Int) : Option Bool :=
  ((t_lw_whole_b thing).bind fun v1_ => (if v1_ = true then ((dI thing.d).bind fun v2_ => (if decide (least ≤ v2_) = true then some (decide (v2_ ≤ most)) else some false)) else some false))
def t_is_room__X1 (thing : An) (high : Int) (wide : Int) : Option Bool :=
  ((((isiA "tuple" thing).bind fun v1_ => some (!v1_)).bind fun v2_ => (if v2_ = true then some true else ((lenA thing).bind fun v3_ => some (!decide (v3_ = (6 : Int)))))).bind fun v4_ => if v4_ = true then
  some false
  else
  (((d6 dA dA dA dA dA dA) thing.d)).bind fun (u5_ : (An × An × An × An × An × An)) =>
  ((((t_is_name__X1 u5_.1).bind fun v6_ => some (!v6_)).bind fun v7_ => (if v7_ = true then some true else (((isiA "str" u5_.2.2.2.2.2).bind fun v8_ => some (!v8_)).bind fun v9_ => (if v9_ = true then some true else ((dS u5_.2.2.2.2.2.d).bind fun v10_ => some (!memT v10_ ([['c', 'u', 't'], ['c', 'e', 'l', 'l', 's'], ['w', 'o', 'r', 'd', 's'], ['e', 'v', 'e', 'n']] : List Ts))))))).bind fun v11_ => if v11_ = true then
  some false
  else
  ((((t_is_among__X1 u5_.2.1 (0 : Int) high).bind fun v12_ => some (!v12_)).bind fun v13_ => (if v13_ = true then some true else (((t_is_among__X1 u5_.2.2.2.1 (1 : Int) high).bind fun v14_ => some (!v14_)).bind fun v15_ => (if v15_ = true then some true else (((dI u5_.2.1.d).bind fun v16_ => (dI u5_.2.2.2.1.d).bind fun v17_ => some (v16_ + v17_)).bind fun v18_ => some (decide (high < v18_))))))).bind fun v19_ => if v19_ = true then
  some false
  else
  ((t_is_among__X1 u5_.2.2.1 (0 : Int) wide).bind fun v20_ => (if v20_ = true then ((t_is_among__X1 u5_.2.2.2.2.1 (2 : Int) wide).bind fun v21_ => (if v21_ = true then (((dI u5_.2.2.1.d).bind fun v22_ => (dI u5_.2.2.2.2.1.d).bind fun v23_ => some (v22_ + v23_)).bind fun v24_ => some (decide (v24_ ≤ wide))) else some false)) else some false)))))
def t_Plan_init__X1 (high : An) (wide : An) (rooms : An) : Option (Exn ⊕ OPlan) :=
  ((((t_is_among__X1 high (1 : Int) (12 : Int)).bind fun v1_ => some (!v1_)).bind fun v2_ => (if v2_ = true then some true else ((t_is_among__X1 wide (2 : Int) (40 : Int)).bind fun v3_ => some (!v3_)))).bind fun v4_ => if v4_ = true then
  some (.inl (4, []) : (Exn ⊕ OPlan))
  else
  ((((isiA "list" rooms).bind fun v5_ => some (!v5_)).bind fun v6_ => (if v6_ = true then some true else (eqAE rooms ((an (eL false eU)) ([] : (List Unit)))))).bind fun v7_ => if v7_ = true then
  (some (0 : Int)).bind fun x8_ => some (.inl (5, [("at", an eI x8_)]) : (Exn ⊕ OPlan))
  else
  ((dI high.d)).bind fun (u9_ : Int) =>
  ((dI wide.d)).bind fun (u10_ : Int) =>
  let u11_ : (List Rm) := ([] : (List Rm))
  ((((dL dA) rooms.d).bind fun v12_ => some (enumT 0 v12_)).bind fun v13_ => (forT (τ := (Exn ⊕ OPlan)) (fun (s14_ : OPlan) (x15_ : (Int × An)) =>
  ((if decide ((6 : Int) ≤ x15_.1) = true then some true else (((dI high.d).bind fun v16_ => (dI wide.d).bind fun v17_ => (t_is_room__X1 x15_.2 v16_ v17_)).bind fun v18_ => some (!v18_))).bind fun v19_ => if v19_ = true then
  (some x15_.1).bind fun x20_ => some (.rt (.inl (5, [("at", an eI x20_)]) : (Exn ⊕ OPlan)) : (St OPlan (Exn ⊕ OPlan)))
  else
  (srchT (fun (other : Rm) => ((((ixA x15_.2 (0 : Int)).bind fun v21_ => (dS v21_.d)).bind fun v22_ => some (decide (other.1 = v22_))).bind fun v23_ => (if v23_ = true then some true else ((((d6 dS dI dI dI dI dS) x15_.2.d).bind fun v24_ => (t_is_apart other v24_)).bind fun v25_ => some (!v25_))))) s14_.rooms).bind fun u => srchK u (((((d6 dS dI dI dI dI dS) x15_.2.d).bind fun v26_ => (appT s14_.rooms v26_))).bind fun (u27_ : (List Rm)) =>
  some (.nx ({ s14_ with rooms := u27_ }) : (St OPlan (Exn ⊕ OPlan)))) (fun (other : Rm) =>
  (some x15_.1).bind fun x28_ => some (.rt (.inl (5, [("at", an eI x28_)]) : (Exn ⊕ OPlan)) : (St OPlan (Exn ⊕ OPlan)))))) v13_ ({ high := u9_, wide := u10_, rooms := u11_ : OPlan })).bind fun u => seqT u fun (s14_ : OPlan) => some (.inr s14_ : (Exn ⊕ OPlan)))))
def t_lw_mix_c (cell : Int) (k : Int) : Option Int :=
  if decide ((1000000000000000000 : Int) < cell) = true then
  let rest : Int := cell
  ((rngT k).bind fun v1_ => (foldT (fun (s2_ : Int) (turn : Int) =>
  let rest : Int := (s2_ / 1000000000)
  some rest) v1_ rest).bind fun (s2_ : Int) =>
  some (s2_ % 1000000000))
  else
  let number_here : Int := ((cell % 2147483647) + (7919 : Int))
  ((rngT (k + (2 : Int))).bind fun v3_ => (foldT (fun (s4_ : Int) (turn : Int) =>
  let number_here : Int := (((s4_ * 48271) + (104729 : Int)) % 2147483629)
  some number_here) v3_ number_here).bind fun (s4_ : Int) =>
  (((mulT s4_ s4_).bind fun v5_ => some (v5_ % 998244353)).bind fun v6_ => some (v6_ / 11)))
def t_lw_names_c (cell : Int) (many : Int) : Option (List Ts) :=
  let letters : Ts := (['a', 'b', 'c', 'd', 'e', 'f', 'g', 'h', 'i', 'j', 'k', 'l', 'm', 'n', 'o', 'p', 'q', 'r', 's', 't', 'u', 'v', 'w', 'x', 'y', 'z'] : Ts)
  let base : Ts := ([] : Ts)
  ((rngT (8 : Int)).bind fun v1_ => (foldT (fun (s2_ : Ts) (k : Int) =>
  (((((t_lw_mix_c cell k).bind fun v3_ => some (v3_ % 26)).bind fun v4_ => (ixS letters v4_)).bind fun v5_ => (catS s2_ v5_))).bind fun (base : Ts) =>
  some base) v1_ base).bind fun (s2_ : Ts) =>
  if (decide ((cell % 3) = (0 : Int))) = true then
  ((rngT many).bind fun v6_ => (compT (fun (k : Int) => (some true)) (fun (k : Int) => (slS none (some (k + (1 : Int))) s2_)) v6_))
  else
  let at_ : Int := ((cell / 3) % 8)
  let names_here : (List Ts) := ([] : (List Ts))
  ((rngT many).bind fun v7_ => (foldT (fun (s8_ : (List Ts)) (k : Int) =>
  (((((t_lw_mix_c cell (8 : Int)).bind fun v9_ => some (v9_ + k)).bind fun v10_ => some (v10_ % 26)).bind fun v11_ => (ixS letters v11_))).bind fun (sign : Ts) =>
  ((((((slS none (some at_) s2_).bind fun v12_ => (catS v12_ sign)).bind fun v13_ => (slS (some (at_ + (1 : Int))) none s2_).bind fun v14_ => (catS v13_ v14_)).bind fun v15_ => (slS none (some (max (at_ + (1 : Int)) ((1 : Int) + ((cell / 24) % 8)))) v15_)).bind fun v16_ => (appT s8_ v16_))).bind fun (u17_ : (List Ts)) =>
  some u17_) v7_ names_here).bind fun (s8_ : (List Ts)) =>
  some s8_))
def t_lw_good (script : (List Int)) (many : Int) : Option (Int × Int × (List Rm)) :=
  ((t_lw_cell script (0 : Int))).bind fun (cell : Int) =>
  (((t_lw_cell script (1 : Int)).bind fun v1_ => (t_lw_names_c v1_ many))).bind fun (names_here : (List Ts)) =>
  let rooms : (List Rm) := ([] : (List Rm))
  let at_ : Int := (0 : Int)
  ((rngT many).bind fun v2_ => (foldT (fun (s3_ : ((List Rm) × Int)) (k : Int) =>
  ((((t_lw_mix_c cell ((14 : Int) + (6 * k))).bind fun v4_ => some (v4_ % 3)).bind fun v5_ => some ((1 : Int) + v5_))).bind fun (tall : Int) =>
  ((((t_lw_mix_c cell ((15 : Int) + (6 * k))).bind fun v6_ => some (v6_ % 3)).bind fun v7_ => some ((2 : Int) + v7_))).bind fun (broad : Int) =>
  ((((t_lw_mix_c cell ((16 : Int) + (6 * k))).bind fun v8_ => some (v8_ % 4)).bind fun v9_ => (atI ([(['c', 'u', 't'] : Ts), (['c', 'e', 'l', 'l', 's'] : Ts), (['w', 'o', 'r', 'd', 's'] : Ts), (['e', 'v', 'e', 'n'] : Ts)] : (List Ts)) v9_))).bind fun (way : Ts) =>
  ((((atI names_here k).bind fun v10_ => ((t_lw_mix_c cell ((17 : Int) + (6 * k))).bind fun v11_ => some (v11_ % 3)).bind fun v12_ => some (v10_, v12_, s3_.2, tall, broad, way)).bind fun v13_ => (appT s3_.1 v13_))).bind fun (u14_ : (List Rm)) =>
  let at_ : Int := (s3_.2 + broad)
  some (u14_, at_)) v2_ (rooms, at_)).bind fun (s3_ : ((List Rm) × Int)) =>
  ((((t_lw_mix_c cell (9 : Int)).bind fun v15_ => some (v15_ % 3)).bind fun v16_ => some ((5 : Int) + v16_)).bind fun v17_ => (((t_lw_mix_c cell (10 : Int)).bind fun v18_ => some (v18_ % 3)).bind fun v19_ => some ((30 : Int) + v19_)).bind fun v20_ => some (v17_, v20_, s3_.1)))
def t_lw_number (cell : Int) (room : Rm) (high : Int) (wide : Int) : Option An :=
  let at_ : Int := ((1 : Int) + (cell % 4))
  let some_ : (List (List An)) := ([([((an eI) (-1 : Int)), ((an eU) ()), ((an eB) true), ((an eS) (['0'] : Ts))] : (List An)), ([((an eI) (-1 : Int)), ((an eU) ()), ((an eB) false), ((an eS) (['0'] : Ts))] : (List An)), ([((an eI) (0 : Int)), ((an eU) ()), ((an eB) true), ((an eS) (['1'] : Ts))] : (List An)), ([((an eI) (1 : Int)), ((an eU) ()), ((an eB) true), ((an eS) (['2'] : Ts))] : (List An))] : (List (List An)))
  ((atI ([high, wide, (high + (1 : Int)), (wide + (1 : Int))] : (List Int)) (at_ - (1 : Int)))).bind fun (far : Int) =>
  (((atI ([(high - room.2.2.2.1), (wide - room.2.2.2.2.1), (high - room.2.1), (wide - room.2.2.1)] : (List Int)) (at_ - (1 : Int))).bind fun v1_ => some (v1_ + (1 : Int)))).bind fun (near : Int) =>
  ((((atI some_ (at_ - (1 : Int))).bind fun v2_ => (catL v2_ ([((an eI) far), ((an eI) near)] : (List An)))).bind fun v3_ => (atI v3_ ((cell / 4) % 6)))).bind fun (bad_here : An) =>
  (((catL (cutL ((fun t : Rm => ([(an eS) t.1, (an eI) t.2.1, (an eI) t.2.2.1, (an eI) t.2.2.2.1, (an eI) t.2.2.2.2.1, (an eS) t.2.2.2.2.2] : (List An))) room) none (some at_)) ((fun t : (An) => ([t] : (List An))) (bad_here))).bind fun v4_ => (catL v4_ (cutL ((fun t : Rm => ([(an eS) t.1, (an eI) t.2.1, (an eI) t.2.2.1, (an eI) t.2.2.2.1, (an eI) t.2.2.2.2.1, (an eS) t.2.2.2.2.2] : (List An))) room) (some (at_ + (1 : Int))) none))).bind fun v5_ => some ((an (eV eA)) v5_))
def t_lw_over (cell : Int) (room : Rm) (other : Rm) (high : Int) (wide : Int) : Option Rm :=
  (((modT (cell / 64) other.2.2.2.1).bind fun v1_ => some (other.2.1 + v1_))).bind fun (row : Int) =>
  (((modT (cell / 256) other.2.2.2.2.1).bind fun v2_ => some (other.2.2.1 + v2_))).bind fun (col : Int) =>
  ((modT (cell / 1024) (row + (1 : Int)))).bind fun (top : Int) =>
  (((modT (cell / 4096) (high - row)).bind fun v3_ => some (((row - top) + (1 : Int)) + v3_))).bind fun (tall : Int) =>
  ((modT (cell / 65536) (col + (1 : Int)))).bind fun (left : Int) =>
  ((((modT (cell / 1048576) (wide - col)).bind fun v4_ => some (((col - left) + (1 : Int)) + v4_)).bind fun v5_ => some (max (2 : Int) v5_))).bind fun (broad : Int) =>
  some (room.1, top, left, tall, broad, room.2.2.2.2.2)
def t_lw_bad (cell : Int) (room : Rm) (ahead : (List Rm)) (high : Int) (wide : Int) : Option An :=
  let way : Int := (cell % 8)
  if (decide (way = (0 : Int))) = true then
  (atI ([((an eU) ()), ((an (eL false eA)) ((fun t : Rm => ([(an eS) t.1, (an eI) t.2.1, (an eI) t.2.2.1, (an eI) t.2.2.2.1, (an eI) t.2.2.2.2.1, (an eS) t.2.2.2.2.2] : (List An))) room)), ((an eS) (['r', 'o', 'o', 'm'] : Ts)), ((an eI) (7 : Int)), ((an (e0 )) ())] : (List An)) ((cell / 8) % 5))
  else
  if (decide (way = (1 : Int))) = true then
  (atI ([((an (e5 eS eI eI eI eI)) (room.1, room.2.1, room.2.2.1, room.2.2.2.1, room.2.2.2.2.1)), ((an (e7 eS eI eI eI eI eS eI)) ((fun (t : Rm) (u : (Int)) => (t.1, t.2.1, t.2.2.1, t.2.2.2.1, t.2.2.2.2.1, t.2.2.2.2.2, u)) room ((0 : Int))))] : (List An)) ((cell / 8) % 2))
  else
  if (decide (way = (2 : Int))) = true then
  ((((atI ([((an eU) ()), ((an eS) ([] : Ts)), ((an eS) (['A'] : Ts)), ((an eS) (['a', 'b', 'c', 'd', 'e', 'f', 'g', 'h', 'i'] : Ts)), ((an eS) (['a', ' ', 'b'] : Ts)), ((an eI) (1 : Int)), ((an (eL false eS)) ([(['a'] : Ts)] : (List Ts)))] : (List An)) ((cell / 8) % 7)).bind fun v1_ => some (v1_)).bind fun v2_ => some ((fun (t : (An)) (u : (Int × Int × Int × Int × Ts)) => (t, u.1, u.2.1, u.2.2.1, u.2.2.2.1, u.2.2.2.2)) v2_ (room.2.1, room.2.2.1, room.2.2.2.1, room.2.2.2.2.1, room.2.2.2.2.2))).bind fun v3_ => some ((an (e6 eA eI eI eI eI eS)) v3_))
  else
  if (decide (way = (3 : Int))) = true then
  ((((atI ([((an eU) ()), ((an eS) ([] : Ts)), ((an eS) (['e', 'v', 'e', 'n', ' '] : Ts)), ((an eS) (['c', 'e', 'l', 'l', 's', ','] : Ts)), ((an eI) (0 : Int)), ((an (e1 eS)) ((['c', 'u', 't'] : Ts)))] : (List An)) ((cell / 8) % 6)).bind fun v4_ => some (v4_)).bind fun v5_ => some ((fun (t : (Ts × Int × Int × Int × Int)) (u : (An)) => (t.1, t.2.1, t.2.2.1, t.2.2.2.1, t.2.2.2.2, u)) (room.1, room.2.1, room.2.2.1, room.2.2.2.1, room.2.2.2.2.1) v5_)).bind fun v6_ => some ((an (e6 eS eI eI eI eI eA)) v6_))
  else
  if ((decide (way = (4 : Int))) && (!decide (ahead = ([] : (List Rm))))) = true then
  ((((((modT (cell / 8) (List.length ahead : Int)).bind fun v7_ => (atI ahead v7_)).bind fun v8_ => some v8_.1).bind fun v9_ => some (v9_)).bind fun v10_ => some ((fun (t : (Ts)) (u : (Int × Int × Int × Int × Ts)) => (t, u.1, u.2.1, u.2.2.1, u.2.2.2.1, u.2.2.2.2)) v10_ (room.2.1, room.2.2.1, room.2.2.2.1, room.2.2.2.2.1, room.2.2.2.2.2))).bind fun v11_ => some ((an (e6 eS eI eI eI eI eS)) v11_))
  else
  if ((decide (way = (5 : Int))) && (!decide (ahead = ([] : (List Rm))))) = true then
  ((((modT (cell / 8) (List.length ahead : Int)).bind fun v12_ => (atI ahead v12_)).bind fun v13_ => (t_lw_over cell room v13_ high wide)).bind fun v14_ => some ((an (e6 eS eI eI eI eI eS)) v14_))
  else
  (t_lw_number (cell / 8) room high wide)
def t_lw_refused (high : An) (wide : An) (rooms : An) (due : (Ts × An × Bool)) : Option Bool :=
  let found : (Option (Ts × An × Bool)) := ((fun _ => none) ())
  ((tryB (fun _ => true) (bindX (fun r => r) (t_Plan_init__X1 high wide rooms) (fun (r1_ : (Exn ⊕ OPlan)) (y2_ : OPlan) =>
  some (.inr (.inl found : ((Option (Ts × An × Bool)) ⊕ Bool)) : ((Exn × Unit) ⊕ ((Option (Ts × An × Bool)) ⊕ Bool)))) (fun (r1_ : (Exn ⊕ OPlan)) (x3_ : Exn) => (.inl (x3_, ()) : ((Exn × Unit) ⊕ ((Option (Ts × An × Bool)) ⊕ Bool)))) : Option ((Exn × Unit) ⊕ ((Option (Ts × An × Bool)) ⊕ Bool))) (fun (s4_ : Unit) (e5_ : Exn) =>
  if okL xL_NoSize e5_.1 (exF e5_) = true then
  let found_2 : (Option (Ts × An × Bool)) := (some ((['s', 'i', 'z', 'e'] : Ts), ((an eI) (0 : Int)), ((!(subX e5_.1 5)) && (subX e5_.1 0))))
  some (.inl found_2 : ((Option (Ts × An × Bool)) ⊕ Bool))
  else if okL xN_NoSize e5_.1 (exF e5_) = true then (if okL xL_NoRoom e5_.1 (exF e5_) = true then
  ((if (subX e5_.1 0) = true then (if true = true then (((fldT "at" e5_).bind fun v6_ => (isiA "bool" v6_)).bind fun v7_ => some (!v7_)) else some false) else some false)).bind fun (good_here : Bool) =>
  ((((fldT "at" e5_).bind fun v8_ => some ((['r', 'o', 'o', 'm'] : Ts), v8_, (good_here && (!(([6, 2, 1, 3] : List Nat).any (subX e5_.1)))))).bind fun v9_ => some (some v9_))).bind fun (found_2 : (Option (Ts × An × Bool))) =>
  some (.inl found_2 : ((Option (Ts × An × Bool)) ⊕ Bool))
  else if okL xN_NoRoom e5_.1 (exF e5_) = true then none else none) else none) : Option ((Option (Ts × An × Bool)) ⊕ Bool))).bind fun u => seqT u fun (s10_ : (Option (Ts × An × Bool))) => (eqB ((eO (e3 eS eA eB)) s10_) ((eO (e3 eS eA eB)) (some due)))
def t_lw_taken_b (high : Int) (wide : Int) (rooms : (List Rm)) : Option Bool :=
  (((t_Plan_init high wide rooms).bind fun v1_ => (t_Plan_room_names v1_)).bind fun v2_ => (compT (fun (room : Rm) => (some true)) (fun (room : Rm) => (some room.1)) rooms).bind fun v3_ => some (decide (v2_ = v3_)))
def t_lw_edges (high : Int) (wide : Int) (room : Rm) : Option Bool :=
  let u1_ : Rm := room
  let some_ : (List (Int × Int × Int × Int)) := ([((high - u1_.2.2.2.1), u1_.2.2.1, u1_.2.2.2.1, u1_.2.2.2.2.1), (u1_.2.1, (wide - u1_.2.2.2.2.1), u1_.2.2.2.1, u1_.2.2.2.2.1)] : (List (Int × Int × Int × Int)))
  ((catL some_ ([(u1_.2.1, u1_.2.2.1, (high - u1_.2.1), u1_.2.2.2.2.1), (u1_.2.1, u1_.2.2.1, u1_.2.2.2.1, (wide - u1_.2.2.1)), ((0 : Int), (0 : Int), high, wide)] : (List (Int × Int × Int × Int))))).bind fun (some__2 : (List (Int × Int × Int × Int))) =>
  ((compT (fun (one : (Int × Int × Int × Int)) => (some true)) (fun (one : (Int × Int × Int × Int)) => (t_lw_taken_b high wide ([((fun (t : (Ts × Int × Int × Int × Int)) (u : (Ts)) => (t.1, t.2.1, t.2.2.1, t.2.2.2.1, t.2.2.2.2, u)) ((fun (t : (Ts)) (u : (Int × Int × Int × Int)) => (t, u.1, u.2.1, u.2.2.1, u.2.2.2)) (u1_.1) one) (u1_.2.2.2.2.2))] : (List Rm)))) some__2).bind fun v2_ => some (List.all v2_ id))
def t_lw_sizes (script : (List Int)) (high : Int) (wide : Int) (rooms : (List Rm)) : Option Bool :=
  ((t_lw_cell script (3 : Int))).bind fun (cell : Int) =>
  ((atI ([((an (eL false (e6 eS eI eI eI eI eS))) rooms), ((an (eL false eU)) ([] : (List Unit))), ((an eU) ()), ((an (eL false eU)) ([()] : (List Unit)))] : (List An)) ((cell / 16) % 4))).bind fun (some_ : An) =>
  if (decide ((cell % 2) = (0 : Int))) = true then
  ((atI ([((an eI) (0 : Int)), ((an eI) (13 : Int)), ((an eI) (-1 : Int)), ((an eU) ()), ((an eB) true), ((an eS) (['5'] : Ts)), ((an eI) (1000000000000000000000000000000 : Int)), ((an (e1 eI)) ((5 : Int)))] : (List An)) ((cell / 2) % 8)).bind fun v1_ => (t_lw_refused v1_ ((an eI) wide) some_ ((['s', 'i', 'z', 'e'] : Ts), ((an eI) (0 : Int)), true)))
  else
  ((atI ([((an eI) (1 : Int)), ((an eI) (41 : Int)), ((an eI) (-2 : Int)), ((an eU) ()), ((an eB) true), ((an eS) (['3', '0'] : Ts)), ((an eI) (1000000000000000000000000000000 : Int)), ((an (eL false eI)) ([(30 : Int)] : (List Int)))] : (List An)) ((cell / 2) % 8))).bind fun (bad_here : An) =>
  (t_lw_refused ((an eI) high) bad_here some_ ((['s', 'i', 'z', 'e'] : Ts), ((an eI) (0 : Int)), true))
def t_law (script : (List Int)) : Option Bool :=
  ((t_lw_cell script (2 : Int))).bind fun (cell : Int) =>
  let many : Int := ((1 : Int) + ((cell / 4) % 6))
  ((t_lw_good script (7 : Int))).bind fun (u1_ : (Int × Int × (List Rm))) =>
  let good_here : (List Rm) := (cutL u1_.2.2 none (some many))
  ((((t_lw_taken_b u1_.1 u1_.2.1 good_here).bind fun v2_ => some (!v2_)).bind fun v3_ => (if v3_ = true then some true else (((atI good_here (-1 : Int)).bind fun v4_ => (t_lw_edges u1_.1 u1_.2.1 v4_)).bind fun v5_ => some (!v5_)))).bind fun v6_ => if v6_ = true then
  some false
  else
  ((if (decide ((cell % 4) = (0 : Int))) = true then ((t_lw_sizes script u1_.1 u1_.2.1 good_here).bind fun v7_ => some (!v7_)) else some false).bind fun v8_ => if v8_ = true then
  some false
  else
  (((((dispT ([] : (List (Ts × Int)))).bind fun v9_ => some ((an (eD false kS eI)) v9_)).bind fun v10_ => some ([((an eU) ()), ((an (e0 )) ()), ((an eS) ([] : Ts)), v10_, ((an (eL false eU)) ([] : (List Unit))), ((an eI) (0 : Int))] : (List An))).bind fun v11_ => (atI v11_ ((cell / 24) % 6)))).bind fun (none_ : An) =>
  ((if (decide ((cell % 4) = (1 : Int))) = true then ((t_lw_refused ((an eI) u1_.1) ((an eI) u1_.2.1) none_ ((['r', 'o', 'o', 'm'] : Ts), ((an eI) (0 : Int)), true)).bind fun v12_ => some (!v12_)) else some false).bind fun v13_ => if v13_ = true then
  some false
  else
  ((if (decide ((cell % 4) = (2 : Int))) = true then ((t_lw_refused ((an eI) u1_.1) ((an eI) u1_.2.1) ((an (eL false (e6 eS eI eI eI eI eS))) u1_.2.2) ((['r', 'o', 'o', 'm'] : Ts), ((an eI) (6 : Int)), true)).bind fun v14_ => some (!v14_)) else some false).bind fun v15_ => if v15_ = true then
  some false
  else
  ((t_lw_cell script (4 : Int))).bind fun (first : Int) =>
  ((modT first many)).bind fun (at_ : Int) =>
  let spoilt : (List An) := ((List.map (an (e6 eS eI eI eI eI eS))) good_here)
  ((atI good_here at_).bind fun v16_ => (t_lw_bad (first / 8) v16_ (cutL good_here none (some at_)) u1_.1 u1_.2.1)).bind fun u17_ => ((some at_)).bind fun i18_ => (setT spoilt i18_ u17_).bind fun y19_ =>
  ((t_lw_cell script (5 : Int))).bind fun (second : Int) =>
  ((if (decide ((second % 2) = (1 : Int))) = true then
  ((((atI ([((an eU) ()), ((an (e0 )) ()), ((an eI) (5 : Int))] : (List An)) ((second / 2) % 3)).bind fun v20_ => some ([v20_] : (List An))).bind fun v21_ => (catL y19_ v21_))).bind fun (spoilt : (List An)) =>
  some spoilt
  else
  some y19_ : Option (List An))).bind fun (s22_ : (List An)) =>
  (((t_lw_refused ((an eI) u1_.1) ((an eI) u1_.2.1) ((an (eL false eA)) s22_) ((['r', 'o', 'o', 'm'] : Ts), ((an eI) at_), true)).bind fun v23_ => some (!v23_)).bind fun v24_ => if v24_ = true then
  some false
  else
  (t_lw_taken_b u1_.1 u1_.2.1 good_here))))))
end LW

namespace LW
open PySem L2 PyProof.Rows LI
def m_is_name__X1 : SM := (seqM (ifM (orB (notB (truM (isiM "str" (vM 0)))) (notB (bM (chM leD leD (kM (.int 1)) (mA lenD (consM (vM 0) nilM)) (kM (.int 8)))))) (seqM (retM (upF (kM (.bl false)))) skipM) skipM)
  (seqM (forM (nameT 1) (seqM (ifM (bM (m2 ninD (vM 1) (kM (.str [97, 98, 99, 100, 101, 102, 103, 104, 105, 106, 107, 108, 109, 110, 111, 112, 113, 114, 115, 116, 117, 118, 119, 120, 121, 122])))) (seqM (retM (upF (kM (.bl false)))) skipM) skipM)
  skipM) [1] (itM (vM 0)))
  (seqM (retM (upF (kM (.bl true)))) skipM)))
def F_is_name__X1 : FM := runM 2 [true] m_is_name__X1
def m_is_name : SM := (seqM (ifM (orB (notB (truM (isiM "str" (vM 0)))) (notB (bM (chM leD leD (kM (.int 1)) (mA lenD (consM (vM 0) nilM)) (kM (.int 8)))))) (seqM (retM (upF (kM (.bl false)))) skipM) skipM)
  (seqM (forM (nameT 1) (seqM (ifM (bM (m2 ninD (vM 1) (kM (.str [97, 98, 99, 100, 101, 102, 103, 104, 105, 106, 107, 108, 109, 110, 111, 112, 113, 114, 115, 116, 117, 118, 119, 120, 121, 122])))) (seqM (retM (upF (kM (.bl false)))) skipM) skipM)
  skipM) [1] (itM (vM 0)))
  (seqM (retM (upF (kM (.bl true)))) skipM)))
def F_is_name : FM := runM 2 [true] m_is_name
def m_is_whole__X1 : SM := (seqM (retM (upF (andM (isiM "int" (vM 0)) (notD (isiM "bool" (vM 0)))))) skipM)
def F_is_whole__X1 : FM := runM 1 [true] m_is_whole__X1
def m_is_whole : SM := (seqM (retM (upF (andM (isiM "int" (vM 0)) (notD (isiM "bool" (vM 0)))))) skipM)
def F_is_whole : FM := runM 1 [true] m_is_whole
def m_is_among__X1 : SM := (seqM (retM (upF (andM (callM F_is_whole__X1 (consM (vM 0) nilM)) (chM leD leD (vM 1) (vM 0) (vM 2))))) skipM)
def F_is_among__X1 : FM := runM 3 [true, true, true] m_is_among__X1
def m_is_among : SM := (seqM (retM (upF (andM (callM F_is_whole (consM (vM 0) nilM)) (chM leD leD (vM 1) (vM 0) (vM 2))))) skipM)
def F_is_among : FM := runM 3 [true, true, true] m_is_among
def m_is_room__X1 : SM := (seqM (ifM (orB (notB (truM (isiM "tuple" (vM 0)))) (bM (m2 neD (mA lenD (consM (vM 0) nilM)) (kM (.int 6))))) (seqM (retM (upF (kM (.bl false)))) skipM) skipM)
  (seqM (asgM (tupT (consT (nameT 3) (consT (nameT 4) (consT (nameT 5) (consT (nameT 6) (consT (nameT 7) (consT (nameT 8) nilT))))))) (upR (vM 0)))
  (seqM (ifM (orB (notB (truM (callM F_is_name__X1 (consM (vM 3) nilM)))) (orB (notB (truM (isiM "str" (vM 8)))) (bM (m2 ninD (vM 8) (kM (.kst [[99, 117, 116], [99, 101, 108, 108, 115], [119, 111, 114, 100, 115], [101, 118, 101, 110]])))))) (seqM (retM (upF (kM (.bl false)))) skipM) skipM)
  (seqM (ifM (orB (notB (truM (callM F_is_among__X1 (consM (vM 4) (consM (kM (.int 0)) (consM (vM 1) nilM)))))) (orB (notB (truM (callM F_is_among__X1 (consM (vM 6) (consM (kM (.int 1)) (consM (vM 1) nilM)))))) (bM (m2 gtD (m2 addD (vM 4) (vM 6)) (vM 1))))) (seqM (retM (upF (kM (.bl false)))) skipM) skipM)
  (seqM (retM (upF (andM (callM F_is_among__X1 (consM (vM 5) (consM (kM (.int 0)) (consM (vM 2) nilM)))) (andM (callM F_is_among__X1 (consM (vM 7) (consM (kM (.int 2)) (consM (vM 2) nilM)))) (m2 leD (m2 addD (vM 5) (vM 7)) (vM 2)))))) skipM)))))
def F_is_room__X1 : FM := runM 9 [true, true, true] m_is_room__X1
def m_is_room : SM := (seqM (ifM (orB (notB (truM (isiM "tuple" (vM 0)))) (bM (m2 neD (mA lenD (consM (vM 0) nilM)) (kM (.int 6))))) (seqM (retM (upF (kM (.bl false)))) skipM) skipM)
  (seqM (asgM (tupT (consT (nameT 3) (consT (nameT 4) (consT (nameT 5) (consT (nameT 6) (consT (nameT 7) (consT (nameT 8) nilT))))))) (upR (vM 0)))
  (seqM (ifM (orB (notB (truM (callM F_is_name (consM (vM 3) nilM)))) (orB (notB (truM (isiM "str" (vM 8)))) (bM (m2 ninD (vM 8) (kM (.kst [[99, 117, 116], [99, 101, 108, 108, 115], [119, 111, 114, 100, 115], [101, 118, 101, 110]])))))) (seqM (retM (upF (kM (.bl false)))) skipM) skipM)
  (seqM (ifM (orB (notB (truM (callM F_is_among (consM (vM 4) (consM (kM (.int 0)) (consM (vM 1) nilM)))))) (orB (notB (truM (callM F_is_among (consM (vM 6) (consM (kM (.int 1)) (consM (vM 1) nilM)))))) (bM (m2 gtD (m2 addD (vM 4) (vM 6)) (vM 1))))) (seqM (retM (upF (kM (.bl false)))) skipM) skipM)
  (seqM (retM (upF (andM (callM F_is_among (consM (vM 5) (consM (kM (.int 0)) (consM (vM 2) nilM)))) (andM (callM F_is_among (consM (vM 7) (consM (kM (.int 2)) (consM (vM 2) nilM)))) (m2 leD (m2 addD (vM 5) (vM 7)) (vM 2)))))) skipM)))))
def F_is_room : FM := runM 9 [true, true, true] m_is_room
def m_is_apart : SM := (seqM (ifM (orB (bM (m2 leD (m2 addD (m2 ixD (vM 0) (kM (.int 1))) (m2 ixD (vM 0) (kM (.int 3)))) (m2 ixD (vM 1) (kM (.int 1))))) (bM (m2 leD (m2 addD (m2 ixD (vM 1) (kM (.int 1))) (m2 ixD (vM 1) (kM (.int 3)))) (m2 ixD (vM 0) (kM (.int 1)))))) (seqM (retM (upF (kM (.bl true)))) skipM) skipM)
  (seqM (retM (upF (orM (m2 leD (m2 addD (m2 ixD (vM 0) (kM (.int 2))) (m2 ixD (vM 0) (kM (.int 4)))) (m2 ixD (vM 1) (kM (.int 2)))) (m2 leD (m2 addD (m2 ixD (vM 1) (kM (.int 2))) (m2 ixD (vM 1) (kM (.int 4)))) (m2 ixD (vM 0) (kM (.int 2))))))) skipM))
def F_is_apart : FM := runM 2 [true, true] m_is_apart
def m_Plan_init__X1 : SM := (seqM (ifM (orB (notB (truM (callM F_is_among__X1 (consM (vM 1) (consM (kM (.int 1)) (consM (kM (.int 12)) nilM)))))) (notB (truM (callM F_is_among__X1 (consM (vM 2) (consM (kM (.int 2)) (consM (kM (.int 40)) nilM))))))) (seqM (raise0 4) skipM) skipM)
  (seqM (ifM (orB (notB (truM (isiM "list" (vM 3)))) (bM (m2 (or2D eqD eqE) (vM 3) (coldM (lstM nilM))))) (seqM (raise1 5 "at" (kM (.int 0))) skipM) skipM)
  (seqM (fldM 7 "high" (vL 0) (upR (vM 1)))
  (seqM (fldM 7 "wide" (vL 0) (upR (vM 2)))
  (seqM (fldM 7 "rooms" (vL 0) (upF (lstM nilM)))
  (seqM (forM (tupT (consT (nameT 4) (consT (nameT 5) nilT))) (seqM (ifM (orB (bM (m2 geD (vM 4) (kM (.int 6)))) (notB (truM (callM F_is_room__X1 (consM (vM 5) (consM (vM 1) (consM (vM 2) nilM))))))) (seqM (raise1 5 "at" (vM 4)) skipM) skipM)
  (seqM (forFM (fldL 7 "rooms" (vL 0)) (nameT 6) (orB (bM (m2 eqD (m2 ixD (vM 6) (kM (.int 0))) (m2 ixD (vM 5) (kM (.int 0))))) (notB (truM (callM F_is_apart (consM (vM 6) (consM (vM 5) nilM)))))) (seqM (raise1 5 "at" (vM 4)) skipM) [6])
  (seqM (exprM (appL (fldL 7 "rooms" (vL 0)) (frM (vM 5))))
  skipM))) [4, 5, 6] (enumSM (vM 3)))
  skipM))))))
def F_Plan_init__X1 : FX := runX 7 [true, true, true, true] m_Plan_init__X1
def m_Plan_init : SM := (seqM (ifM (orB (notB (truM (callM F_is_among (consM (vM 1) (consM (kM (.int 1)) (consM (kM (.int 12)) nilM)))))) (notB (truM (callM F_is_among (consM (vM 2) (consM (kM (.int 2)) (consM (kM (.int 40)) nilM))))))) (seqM noM' skipM) skipM)
  (seqM (ifM (orB (notB (truM (isiM "list" (vM 3)))) (bM (m2 eqD (vM 3) (lstM nilM)))) (seqM noM' skipM) skipM)
  (seqM (fldM 7 "high" (vL 0) (upR (vM 1)))
  (seqM (fldM 7 "wide" (vL 0) (upR (vM 2)))
  (seqM (fldM 7 "rooms" (vL 0) (upF (lstM nilM)))
  (seqM (forM (tupT (consT (nameT 4) (consT (nameT 5) nilT))) (seqM (ifM (orB (bM (m2 geD (vM 4) (kM (.int 6)))) (notB (truM (callM F_is_room (consM (vM 5) (consM (vM 1) (consM (vM 2) nilM))))))) (seqM noM' skipM) skipM)
  (seqM (forFM (fldL 7 "rooms" (vL 0)) (nameT 6) (orB (bM (m2 eqD (m2 ixD (vM 6) (kM (.int 0))) (m2 ixD (vM 5) (kM (.int 0))))) (notB (truM (callM F_is_apart (consM (vM 6) (consM (vM 5) nilM)))))) (seqM noM' skipM) [6])
  (seqM (exprM (appL (fldL 7 "rooms" (vL 0)) (frM (vM 5))))
  skipM))) [4, 5, 6] (enumSM (vM 3)))
  skipM))))))
def F_Plan_init : FM := runM 7 [true, true, true, true] m_Plan_init
def m_Plan_room_names : SM := (seqM (retM (upF (compM [1] (nameT 1) yesB (m2 ixD (vM 1) (kM (.int 0))) (itV (fldL 7 "rooms" (vL 0)).get)))) skipM)
def F_Plan_room_names : FM := runM 2 [true] m_Plan_room_names
def m_lw_cell_at : SM := (seqM (ifM (bM (m2 ltD (vM 1) (mA lenD (consM (vM 0) nilM)))) (seqM (retM (upR (m2 ixD (vM 0) (vM 1)))) skipM) skipM)
  (seqM (retM (upF (kM (.int 0)))) skipM))
def F_lw_cell_at : FM := runM 2 [true, true] m_lw_cell_at
def m_lw_mix : SM := (seqM (ifM (bM (m2 gtD (vM 0) (m2 powD (kM (.int 10)) (kM (.int 18))))) (seqM (asgM (nameT 2) (upR (vM 0)))
  (seqM (forM (nameT 3) (seqM (asgM (nameT 2) (upF (m2 fdivD (vM 2) (m2 powD (kM (.int 10)) (kM (.int 9))))))
  skipM) [3] (rng1M (vM 1)))
  (seqM (retM (upF (m2 modD (vM 2) (m2 powD (kM (.int 10)) (kM (.int 9)))))) skipM))) skipM)
  (seqM (asgM (nameT 4) (upF (m2 addD (m2 modD (vM 0) (kM (.int 2147483647))) (kM (.int 7919)))))
  (seqM (forM (nameT 3) (seqM (asgM (nameT 4) (upF (m2 modD (m2 addD (m2 mulD (vM 4) (kM (.int 48271))) (kM (.int 104729))) (kM (.int 2147483629)))))
  skipM) [3] (rng1M (m2 addD (vM 1) (kM (.int 2)))))
  (seqM (retM (upF (m2 fdivD (m2 modD (m2 mulD (vM 4) (vM 4)) (kM (.int 998244353))) (kM (.int 11))))) skipM))))
def F_lw_mix : FM := runM 5 [true, true] m_lw_mix
def m_lw_names : SM := (seqM (asgM (nameT 2) (upF (kM (.str [97, 98, 99, 100, 101, 102, 103, 104, 105, 106, 107, 108, 109, 110, 111, 112, 113, 114, 115, 116, 117, 118, 119, 120, 121, 122]))))
  (seqM (asgM (nameT 3) (upF (kM (.str []))))
  (seqM (forM (nameT 4) (seqM (asgM (nameT 3) (upF (m2 addD (vM 3) (m2 ixD (vM 2) (m2 modD (callM F_lw_mix (consM (vM 0) (consM (vM 4) nilM))) (kM (.int 26)))))))
  skipM) [4] (rng1M (kM (.int 8))))
  (seqM (ifM (bM (m2 eqD (m2 modD (vM 0) (kM (.int 3))) (kM (.int 0)))) (seqM (retM (upF (compM [4] (nameT 4) yesB (slM (vM 3) noM (soM (m2 addD (vM 4) (kM (.int 1))))) (rng1M (vM 1))))) skipM) skipM)
  (seqM (asgM (nameT 5) (upF (m2 modD (m2 fdivD (vM 0) (kM (.int 3))) (kM (.int 8)))))
  (seqM (asgM (nameT 6) (upF (lstM nilM)))
  (seqM (forM (nameT 4) (seqM (asgM (nameT 7) (upR (m2 ixD (vM 2) (m2 modD (m2 addD (callM F_lw_mix (consM (vM 0) (consM (kM (.int 8)) nilM))) (vM 4)) (kM (.int 26))))))
  (seqM (exprM (appL (vL 6) (slM (m2 addD (m2 addD (slM (vM 3) noM (soM (vM 5))) (vM 7)) (slM (vM 3) (soM (m2 addD (vM 5) (kM (.int 1)))) noM)) noM (soM (mA max2D (consM (m2 addD (vM 5) (kM (.int 1))) (consM (m2 addD (kM (.int 1)) (m2 modD (m2 fdivD (vM 0) (kM (.int 24))) (kM (.int 8)))) nilM)))))))
  skipM)) [4, 7] (rng1M (vM 1)))
  (seqM (retM (mvM (vL 6))) skipM))))))))
def F_lw_names : FM := runM 8 [true, true] m_lw_names
def m_lw_good : SM := (seqM (asgM (nameT 2) (upF (callM F_lw_cell_at (consM (vM 0) (consM (kM (.int 0)) nilM)))))
  (seqM (asgM (nameT 3) (upF (coldM (callM F_lw_names (consM (callM F_lw_cell_at (consM (vM 0) (consM (kM (.int 1)) nilM))) (consM (vM 1) nilM))))))
  (seqM (asgM (nameT 4) (upF (lstM nilM)))
  (seqM (asgM (nameT 5) (upF (kM (.int 0))))
  (seqM (forM (nameT 6) (seqM (asgM (nameT 7) (upF (m2 addD (kM (.int 1)) (m2 modD (callM F_lw_mix (consM (vM 2) (consM (m2 addD (kM (.int 14)) (m2 mulD (kM (.int 6)) (vM 6))) nilM))) (kM (.int 3))))))
  (seqM (asgM (nameT 8) (upF (m2 addD (kM (.int 2)) (m2 modD (callM F_lw_mix (consM (vM 2) (consM (m2 addD (kM (.int 15)) (m2 mulD (kM (.int 6)) (vM 6))) nilM))) (kM (.int 3))))))
  (seqM (asgM (nameT 9) (upR (m2 ixD (lstM (consM (kM (.str [99, 117, 116])) (consM (kM (.str [99, 101, 108, 108, 115])) (consM (kM (.str [119, 111, 114, 100, 115])) (consM (kM (.str [101, 118, 101, 110])) nilM))))) (m2 modD (callM F_lw_mix (consM (vM 2) (consM (m2 addD (kM (.int 16)) (m2 mulD (kM (.int 6)) (vM 6))) nilM))) (kM (.int 4))))))
  (seqM (exprM (appL (vL 4) (tupM (consM (m2 ixD (vM 3) (vM 6)) (consM (m2 modD (callM F_lw_mix (consM (vM 2) (consM (m2 addD (kM (.int 17)) (m2 mulD (kM (.int 6)) (vM 6))) nilM))) (kM (.int 3))) (consM (vM 5) (consM (vM 7) (consM (vM 8) (consM (vM 9) nilM)))))))))
  (seqM (asgM (nameT 5) (upF (m2 addD (vM 5) (vM 8))))
  skipM))))) [6, 7, 8, 9] (rng1M (vM 1)))
  (frzM 4 (seqM (retM (upF (tupM (consM (m2 addD (kM (.int 5)) (m2 modD (callM F_lw_mix (consM (vM 2) (consM (kM (.int 9)) nilM))) (kM (.int 3)))) (consM (m2 addD (kM (.int 30)) (m2 modD (callM F_lw_mix (consM (vM 2) (consM (kM (.int 10)) nilM))) (kM (.int 3)))) (consM (vM 4) nilM)))))) skipM)))))))
def F_lw_good : FM := runM 10 [true, true] m_lw_good
def m_lw_number : SM := (seqM (asgM (nameT 4) (upF (m2 addD (kM (.int 1)) (m2 modD (vM 0) (kM (.int 4))))))
  (seqM (asgM (nameT 5) (upF (coldM (lstM (consM (coldM (lstM (consM (m1 negD (kM (.int 1))) (consM (kM .non) (consM (kM (.bl true)) (consM (kM (.str [48])) nilM)))))) (consM (coldM (lstM (consM (m1 negD (kM (.int 1))) (consM (kM .non) (consM (kM (.bl false)) (consM (kM (.str [48])) nilM)))))) (consM (coldM (lstM (consM (kM (.int 0)) (consM (kM .non) (consM (kM (.bl true)) (consM (kM (.str [49])) nilM)))))) (consM (coldM (lstM (consM (kM (.int 1)) (consM (kM .non) (consM (kM (.bl true)) (consM (kM (.str [50])) nilM)))))) nilM))))))))
  (seqM (asgM (nameT 6) (upR (m2 ixD (lstM (consM (vM 2) (consM (vM 3) (consM (m2 addD (vM 2) (kM (.int 1))) (consM (m2 addD (vM 3) (kM (.int 1))) nilM))))) (m2 subD (vM 4) (kM (.int 1))))))
  (seqM (asgM (nameT 7) (upF (m2 addD (m2 ixD (lstM (consM (m2 subD (vM 2) (m2 ixD (vM 1) (kM (.int 3)))) (consM (m2 subD (vM 3) (m2 ixD (vM 1) (kM (.int 4)))) (consM (m2 subD (vM 2) (m2 ixD (vM 1) (kM (.int 1)))) (consM (m2 subD (vM 3) (m2 ixD (vM 1) (kM (.int 2)))) nilM))))) (m2 subD (vM 4) (kM (.int 1)))) (kM (.int 1)))))
  (seqM (asgM (nameT 8) (upR (m2 ixD (m2 addD (m2 ixD (vM 5) (m2 subD (vM 4) (kM (.int 1)))) (lstM (consM (vM 6) (consM (vM 7) nilM)))) (m2 modD (m2 fdivD (vM 0) (kM (.int 4))) (kM (.int 6))))))
  (seqM (retM (upF (m2 addD (m2 addD (slM (vM 1) noM (soM (vM 4))) (tupM (consM (vM 8) nilM))) (slM (vM 1) (soM (m2 addD (vM 4) (kM (.int 1)))) noM)))) skipM))))))
def F_lw_number : FM := runM 9 [true, true, true, true] m_lw_number
def m_lw_over : SM := (seqM (asgM (nameT 5) (upF (m2 addD (m2 ixD (vM 2) (kM (.int 1))) (m2 modD (m2 fdivD (vM 0) (kM (.int 64))) (m2 ixD (vM 2) (kM (.int 3)))))))
  (seqM (asgM (nameT 6) (upF (m2 addD (m2 ixD (vM 2) (kM (.int 2))) (m2 modD (m2 fdivD (vM 0) (kM (.int 256))) (m2 ixD (vM 2) (kM (.int 4)))))))
  (seqM (asgM (nameT 7) (upF (m2 modD (m2 fdivD (vM 0) (kM (.int 1024))) (m2 addD (vM 5) (kM (.int 1))))))
  (seqM (asgM (nameT 8) (upF (m2 addD (m2 addD (m2 subD (vM 5) (vM 7)) (kM (.int 1))) (m2 modD (m2 fdivD (vM 0) (kM (.int 4096))) (m2 subD (vM 3) (vM 5))))))
  (seqM (asgM (nameT 9) (upF (m2 modD (m2 fdivD (vM 0) (kM (.int 65536))) (m2 addD (vM 6) (kM (.int 1))))))
  (seqM (asgM (nameT 10) (upF (mA max2D (consM (kM (.int 2)) (consM (m2 addD (m2 addD (m2 subD (vM 6) (vM 9)) (kM (.int 1))) (m2 modD (m2 fdivD (vM 0) (kM (.int 1048576))) (m2 subD (vM 4) (vM 6)))) nilM)))))
  (seqM (retM (upF (tupM (consM (m2 ixD (vM 1) (kM (.int 0))) (consM (vM 7) (consM (vM 9) (consM (vM 8) (consM (vM 10) (consM (m2 ixD (vM 1) (kM (.int 5))) nilM))))))))) skipM)))))))
def F_lw_over : FM := runM 11 [true, true, true, true, true] m_lw_over
def m_lw_bad : SM := (seqM (asgM (nameT 5) (upF (m2 modD (vM 0) (kM (.int 8)))))
  (seqM (ifM (bM (m2 eqD (vM 5) (kM (.int 0)))) (seqM (retM (upR (m2 ixD (lstM (consM (kM .non) (consM (coldM (mA listD (consM (vM 1) nilM))) (consM (kM (.str [114, 111, 111, 109])) (consM (kM (.int 7)) (consM (tupM nilM) nilM)))))) (m2 modD (m2 fdivD (vM 0) (kM (.int 8))) (kM (.int 5)))))) skipM) skipM)
  (seqM (ifM (bM (m2 eqD (vM 5) (kM (.int 1)))) (seqM (retM (upR (m2 ixD (lstM (consM (slM (vM 1) noM (soM (kM (.int 5)))) (consM (m2 addD (vM 1) (tupM (consM (kM (.int 0)) nilM))) nilM))) (m2 modD (m2 fdivD (vM 0) (kM (.int 8))) (kM (.int 2)))))) skipM) skipM)
  (seqM (ifM (bM (m2 eqD (vM 5) (kM (.int 2)))) (seqM (retM (upF (m2 addD (tupM (consM (m2 ixD (lstM (consM (kM .non) (consM (kM (.str [])) (consM (kM (.str [65])) (consM (kM (.str [97, 98, 99, 100, 101, 102, 103, 104, 105])) (consM (kM (.str [97, 32, 98])) (consM (kM (.int 1)) (consM (coldM (lstM (consM (kM (.str [97])) nilM))) nilM)))))))) (m2 modD (m2 fdivD (vM 0) (kM (.int 8))) (kM (.int 7)))) nilM)) (slM (vM 1) (soM (kM (.int 1))) noM)))) skipM) skipM)
  (seqM (ifM (bM (m2 eqD (vM 5) (kM (.int 3)))) (seqM (retM (upF (m2 addD (slM (vM 1) noM (soM (kM (.int 5)))) (tupM (consM (m2 ixD (lstM (consM (kM .non) (consM (kM (.str [])) (consM (kM (.str [101, 118, 101, 110, 32])) (consM (kM (.str [99, 101, 108, 108, 115, 44])) (consM (kM (.int 0)) (consM (tupM (consM (kM (.str [99, 117, 116])) nilM)) nilM))))))) (m2 modD (m2 fdivD (vM 0) (kM (.int 8))) (kM (.int 6)))) nilM))))) skipM) skipM)
  (seqM (ifM (andB (bM (m2 eqD (vM 5) (kM (.int 4)))) (bM (m2 neD (vM 2) (lstM nilM)))) (seqM (retM (upF (m2 addD (tupM (consM (m2 ixD (m2 ixD (vM 2) (m2 modD (m2 fdivD (vM 0) (kM (.int 8))) (mA lenD (consM (vM 2) nilM)))) (kM (.int 0))) nilM)) (slM (vM 1) (soM (kM (.int 1))) noM)))) skipM) skipM)
  (seqM (ifM (andB (bM (m2 eqD (vM 5) (kM (.int 5)))) (bM (m2 neD (vM 2) (lstM nilM)))) (seqM (retM (upF (callM F_lw_over (consM (vM 0) (consM (vM 1) (consM (m2 ixD (vM 2) (m2 modD (m2 fdivD (vM 0) (kM (.int 8))) (mA lenD (consM (vM 2) nilM)))) (consM (vM 3) (consM (vM 4) nilM)))))))) skipM) skipM)
  (seqM (retM (upF (callM F_lw_number (consM (m2 fdivD (vM 0) (kM (.int 8))) (consM (vM 1) (consM (vM 3) (consM (vM 4) nilM))))))) skipM))))))))
def F_lw_bad : FM := runM 6 [true, true, true, true, true] m_lw_bad
def m_lw_refused : SM := (seqM (asgM (nameT 4) (upF (kM .non)))
  (seqM (tryMs 5 (seqM (exprX (mkX 7 F_Plan_init__X1 (consM (vM 0) (consM (vM 1) (consM (vM 2) nilM)))))
  skipM) [(mOf xL_NoSize xN_NoSize, fun n fs es => (seqM (asgM (nameT 4) (upF (tupM (consM (kM (.str [115, 105, 122, 101])) (consM (kM (.int 0)) (consM (andM (notD (kM (.bl (subX n 5)))) (kM (.bl (subX n 0)))) nilM))))))
  skipM)), (mOf xL_NoRoom xN_NoRoom, fun n fs es => (seqM (asgM (nameT 6) (upF (andM (kM (.bl (subX n 0))) (andM (kM (.bl true)) (notD (isiM "bool" (xfldM "at" fs es)))))))
  (seqM (asgM (nameT 4) (upF (tupM (consM (kM (.str [114, 111, 111, 109])) (consM (xfldM "at" fs es) (consM (andM (vM 6) (notD (kM (.bl (([6, 2, 1, 3] : List Nat).any (subX n)))))) nilM))))))
  skipM)))])
  (killM [5, 6] (seqM (retM (upF (m2 eqD (vM 4) (vM 3)))) skipM))))
def F_lw_refused : FM := runM 7 [true, true, true, true] m_lw_refused
def m_lw_taken : SM := (seqM (retM (upF (m2 eqD (lookM 7 "room_names" (coldM (mkM 7 F_Plan_init (consM (vM 0) (consM (vM 1) (consM (coldM (mA listD (consM (vM 2) nilM))) nilM))))) F_Plan_room_names nilM) (compM [3] (nameT 3) yesB (m2 ixD (vM 3) (kM (.int 0))) (itV (vM 2)))))) skipM)
def F_lw_taken : FM := runM 4 [true, true, true] m_lw_taken
def m_lw_edges : SM := (seqM (asgM (tupT (consT (nameT 3) (consT (nameT 4) (consT (nameT 5) (consT (nameT 6) (consT (nameT 7) (consT (nameT 8) nilT))))))) (upR (vM 2)))
  (seqM (asgM (nameT 9) (upF (coldM (lstM (consM (tupM (consM (m2 subD (vM 0) (vM 6)) (consM (vM 5) (consM (vM 6) (consM (vM 7) nilM))))) (consM (tupM (consM (vM 4) (consM (m2 subD (vM 1) (vM 7)) (consM (vM 6) (consM (vM 7) nilM))))) nilM))))))
  (seqM (asgM (nameT 9) (upF (coldM (m2 addD (vM 9) (lstM (consM (tupM (consM (vM 4) (consM (vM 5) (consM (m2 subD (vM 0) (vM 4)) (consM (vM 7) nilM))))) (consM (tupM (consM (vM 4) (consM (vM 5) (consM (vM 6) (consM (m2 subD (vM 1) (vM 5)) nilM))))) (consM (tupM (consM (kM (.int 0)) (consM (kM (.int 0)) (consM (vM 0) (consM (vM 1) nilM))))) nilM))))))))
  (seqM (retM (upF (mA allD (consM (compM [10] (nameT 10) yesB (callM F_lw_taken (consM (vM 0) (consM (vM 1) (consM (coldM (lstM (consM (m2 addD (m2 addD (tupM (consM (vM 3) nilM)) (vM 10)) (tupM (consM (vM 8) nilM))) nilM))) nilM)))) (itV (vM 9))) nilM)))) skipM))))
def F_lw_edges : FM := runM 11 [true, true, true] m_lw_edges
def m_lw_sizes : SM := (seqM (asgM (nameT 4) (upF (callM F_lw_cell_at (consM (vM 0) (consM (kM (.int 3)) nilM)))))
  (seqM (asgM (nameT 5) (upR (m2 ixD (lstM (consM (vM 3) (consM (coldM (lstM nilM)) (consM (kM .non) (consM (coldM (lstM (consM (kM .non) nilM))) nilM))))) (m2 modD (m2 fdivD (vM 4) (kM (.int 16))) (kM (.int 4))))))
  (seqM (ifM (bM (m2 eqD (m2 modD (vM 4) (kM (.int 2))) (kM (.int 0)))) (seqM (retM (upF (callM F_lw_refused (consM (m2 ixD (lstM (consM (kM (.int 0)) (consM (kM (.int 13)) (consM (m1 negD (kM (.int 1))) (consM (kM .non) (consM (kM (.bl true)) (consM (kM (.str [53])) (consM (m2 powD (kM (.int 10)) (kM (.int 30))) (consM (tupM (consM (kM (.int 5)) nilM)) nilM))))))))) (m2 modD (m2 fdivD (vM 4) (kM (.int 2))) (kM (.int 8)))) (consM (vM 2) (consM (vM 5) (consM (tupM (consM (kM (.str [115, 105, 122, 101])) (consM (kM (.int 0)) (consM (kM (.bl true)) nilM)))) nilM))))))) skipM) skipM)
  (seqM (asgM (nameT 6) (upR (m2 ixD (lstM (consM (kM (.int 1)) (consM (kM (.int 41)) (consM (m1 negD (kM (.int 2))) (consM (kM .non) (consM (kM (.bl true)) (consM (kM (.str [51, 48])) (consM (m2 powD (kM (.int 10)) (kM (.int 30))) (consM (coldM (lstM (consM (kM (.int 30)) nilM))) nilM))))))))) (m2 modD (m2 fdivD (vM 4) (kM (.int 2))) (kM (.int 8))))))
  (seqM (retM (upF (callM F_lw_refused (consM (vM 1) (consM (vM 6) (consM (vM 5) (consM (tupM (consM (kM (.str [115, 105, 122, 101])) (consM (kM (.int 0)) (consM (kM (.bl true)) nilM)))) nilM))))))) skipM)))))
def F_lw_sizes : FM := runM 7 [true, true, true, true] m_lw_sizes
def m_law : SM := (seqM (asgM (nameT 1) (upF (callM F_lw_cell_at (consM (vM 0) (consM (kM (.int 2)) nilM)))))
  (seqM (asgM (nameT 2) (upF (m2 addD (kM (.int 1)) (m2 modD (m2 fdivD (vM 1) (kM (.int 4))) (kM (.int 6))))))
  (seqM (asgM (tupT (consT (nameT 3) (consT (nameT 4) (consT (nameT 5) nilT)))) (upF (callM F_lw_good (consM (vM 0) (consM (kM (.int 7)) nilM)))))
  (seqM (asgM (nameT 6) (upF (coldM (slM (vM 5) noM (soM (vM 2))))))
  (seqM (ifM (orB (notB (truM (callM F_lw_taken (consM (vM 3) (consM (vM 4) (consM (vM 6) nilM)))))) (notB (truM (callM F_lw_edges (consM (vM 3) (consM (vM 4) (consM (m2 ixD (vM 6) (m1 negD (kM (.int 1)))) nilM))))))) (seqM (retM (upF (kM (.bl false)))) skipM) skipM)
  (seqM (ifM (andB (bM (m2 eqD (m2 modD (vM 1) (kM (.int 4))) (kM (.int 0)))) (notB (truM (callM F_lw_sizes (consM (vM 0) (consM (vM 3) (consM (vM 4) (consM (vM 6) nilM)))))))) (seqM (retM (upF (kM (.bl false)))) skipM) skipM)
  (seqM (asgM (nameT 7) (upR (m2 ixD (lstM (consM (kM .non) (consM (tupM nilM) (consM (kM (.str [])) (consM (coldM (dispM nilM nilM)) (consM (coldM (lstM nilM)) (consM (kM (.int 0)) nilM))))))) (m2 modD (m2 fdivD (vM 1) (kM (.int 24))) (kM (.int 6))))))
  (seqM (ifM (andB (bM (m2 eqD (m2 modD (vM 1) (kM (.int 4))) (kM (.int 1)))) (notB (truM (callM F_lw_refused (consM (vM 3) (consM (vM 4) (consM (vM 7) (consM (tupM (consM (kM (.str [114, 111, 111, 109])) (consM (kM (.int 0)) (consM (kM (.bl true)) nilM)))) nilM)))))))) (seqM (retM (upF (kM (.bl false)))) skipM) skipM)
  (seqM (ifM (andB (bM (m2 eqD (m2 modD (vM 1) (kM (.int 4))) (kM (.int 2)))) (notB (truM (callM F_lw_refused (consM (vM 3) (consM (vM 4) (consM (coldM (mA listD (consM (vM 5) nilM))) (consM (tupM (consM (kM (.str [114, 111, 111, 109])) (consM (kM (.int 6)) (consM (kM (.bl true)) nilM)))) nilM)))))))) (seqM (retM (upF (kM (.bl false)))) skipM) skipM)
  (seqM (asgM (nameT 8) (upF (callM F_lw_cell_at (consM (vM 0) (consM (kM (.int 4)) nilM)))))
  (seqM (asgM (nameT 9) (upF (m2 modD (vM 8) (vM 2))))
  (seqM (asgM (nameT 10) (upF (mA listD (consM (vM 6) nilM))))
  (seqM (storeM (vL 10) (vM 9) (upF (callM F_lw_bad (consM (m2 fdivD (vM 8) (kM (.int 8))) (consM (m2 ixD (vM 6) (vM 9)) (consM (coldM (slM (vM 6) noM (soM (vM 9)))) (consM (vM 3) (consM (vM 4) nilM))))))))
  (seqM (asgM (nameT 11) (upF (callM F_lw_cell_at (consM (vM 0) (consM (kM (.int 5)) nilM)))))
  (seqM (ifM (bM (m2 eqD (m2 modD (vM 11) (kM (.int 2))) (kM (.int 1)))) (seqM (asgM (nameT 10) (upF (m2 addD (vM 10) (lstM (consM (m2 ixD (lstM (consM (kM .non) (consM (tupM nilM) (consM (kM (.int 5)) nilM)))) (m2 modD (m2 fdivD (vM 11) (kM (.int 2))) (kM (.int 3)))) nilM)))))
  skipM) skipM)
  (killM [] (seqM (ifM (notB (truM (viewsM [10] (callM F_lw_refused (consM (vM 3) (consM (vM 4) (consM (vM 10) (consM (tupM (consM (kM (.str [114, 111, 111, 109])) (consM (vM 9) (consM (kM (.bl true)) nilM)))) nilM)))))))) (seqM (retM (upF (kM (.bl false)))) skipM) skipM)
  (seqM (retM (upF (callM F_lw_taken (consM (vM 3) (consM (vM 4) (consM (vM 6) nilM)))))) skipM))))))))))))))))))
def F_law : FM := runM 12 [true] m_law
end LW

namespace LW
open PySem L2 LI OW
abbrev eRm := e6 eS eI eI eI eI eS
abbrev eRs := eL false eRm
def e_Plan (o : Bool) (x : OPlan) : D := .obj o 7 ["high", "wide", "rooms"] [eI x.high, eI x.wide, (eL o eRm) x.rooms]
instance {o : Bool} : Ic (e_Plan o) (e_Plan false) := ⟨fun x => by simp [e_Plan, eL, Ic.ic, icL]⟩
instance : Fz (e_Plan false) := ⟨fun x => by simp [e_Plan, Fz.fz, fzL]⟩
theorem L_is_name__X1  (thing : An) {r : Bool} (h : t_is_name__X1 thing = some r) : F_is_name__X1 [eA thing] = some (eB r, (fun _ => [eA thing]) r) := by
  have hb : Bk (Qf eB [true] (fun _ => [eA thing])) m_is_name__X1 [eA thing, .gone] _ := (b_ifT (et_or (et_not (et_tru (x_isiA (x_v eA thing rfl)))) (et_not (et_b (x_ch o2_leI o2_leI (x_k eI (1) rfl) (x_a1 o1_lenA (x_v eA thing rfl)) (x_k eI (8) rfl))))) (b_ret (k := fun (u5_ : Bool) => u5_) (eg_f (x_k eB false rfl)) (fun u5_ => ⟨rfl, ⟨.inl rfl, rfl⟩⟩)) (b_forR (fun (s7_ : Unit) => [eA thing, .gone]) () (fun (s7_ : Unit) (sign : Ts) => [eA thing, eS sign]) (ei_it (x_dec (e := eS) (x_v eA thing rfl))) rfl (fun _ _ => rfl) (fun (s7_ : Unit) (sign : Ts) => (b_ifT (et_b (x_m2 o2_nin (x_v eS sign rfl) (x_k eS ['a', 'b', 'c', 'd', 'e', 'f', 'g', 'h', 'i', 'j', 'k', 'l', 'm', 'n', 'o', 'p', 'q', 'r', 's', 't', 'u', 'v', 'w', 'x', 'y', 'z'] rfl))) (b_ret (k := fun (u8_ : Bool) => (.rt u8_ : (St Unit Bool))) (eg_f (x_k eB false rfl)) (fun u8_ => ⟨rfl, ⟨rfl, ⟨.inl rfl, rfl⟩⟩⟩)) (b_nil (t := (.nx () : (St Unit Bool))) ⟨rfl, rfl⟩))) (fun (s7_ : Unit) => (b_ret (k := fun (u10_ : Bool) => u10_) (eg_f (x_k eB true rfl)) (fun u10_ => ⟨.inl rfl, rfl⟩)))))
  refine run_T (n := 2) (kp := [true]) (m := m_is_name__X1) (ds := [eA thing]) rfl hb ?_
  first
    | (simp -implicitDefEqProofs only [t_is_name__X1, Option.bind_assoc, Option.bind_some, bind_same] at h ⊢; exact h)
    | (simp -implicitDefEqProofs only [t_is_name__X1, Option.bind_assoc, Option.bind_some, bind_same] at h; exact h)
    | exact h
    | (simp [t_is_name__X1] at h ⊢; exact h)
theorem T_is_name__X1 : Tf (τ := An × Unit) (fun t => [eA t.1]) eB F_is_name__X1 (fun t => t_is_name__X1 t.1) := fun t r h => ⟨_, L_is_name__X1 t.1 h⟩
theorem L_is_name  (thing : Ts) {r : Bool} (h : t_is_name thing = some r) : F_is_name [eS thing] = some (eB r, (fun _ => [eS thing]) r) := by
  have hb : Bk (Qf eB [true] (fun _ => [eS thing])) m_is_name [eS thing, .gone] _ := (b_ifT (et_or (et_not (et_tru (x_isK kit_str_str (x_v eS thing rfl)))) (et_not (et_b (x_ch o2_leI o2_leI (x_k eI (1) rfl) (x_a1 o1_lenS (x_v eS thing rfl)) (x_k eI (8) rfl))))) (b_ret (k := fun (u3_ : Bool) => u3_) (eg_f (x_k eB false rfl)) (fun u3_ => ⟨rfl, ⟨.inl rfl, rfl⟩⟩)) (b_forR (fun (s4_ : Unit) => [eS thing, .gone]) () (fun (s4_ : Unit) (sign : Ts) => [eS thing, eS sign]) (ei_it (x_v eS thing rfl)) rfl (fun _ _ => rfl) (fun (s4_ : Unit) (sign : Ts) => (b_ifT (et_b (x_m2 o2_nin (x_v eS sign rfl) (x_k eS ['a', 'b', 'c', 'd', 'e', 'f', 'g', 'h', 'i', 'j', 'k', 'l', 'm', 'n', 'o', 'p', 'q', 'r', 's', 't', 'u', 'v', 'w', 'x', 'y', 'z'] rfl))) (b_ret (k := fun (u5_ : Bool) => (.rt u5_ : (St Unit Bool))) (eg_f (x_k eB false rfl)) (fun u5_ => ⟨rfl, ⟨rfl, ⟨.inl rfl, rfl⟩⟩⟩)) (b_nil (t := (.nx () : (St Unit Bool))) ⟨rfl, rfl⟩))) (fun (s4_ : Unit) => (b_ret (k := fun (u7_ : Bool) => u7_) (eg_f (x_k eB true rfl)) (fun u7_ => ⟨.inl rfl, rfl⟩)))))
  refine run_T (n := 2) (kp := [true]) (m := m_is_name) (ds := [eS thing]) rfl hb ?_
  first
    | (simp -implicitDefEqProofs only [t_is_name, Option.bind_assoc, Option.bind_some, bind_same] at h ⊢; exact h)
    | (simp -implicitDefEqProofs only [t_is_name, Option.bind_assoc, Option.bind_some, bind_same] at h; exact h)
    | exact h
    | (simp [t_is_name] at h ⊢; exact h)
theorem T_is_name : Tf (τ := Ts × Unit) (fun t => [eS t.1]) eB F_is_name (fun t => t_is_name t.1) := fun t r h => ⟨_, L_is_name t.1 h⟩
theorem L_is_whole__X1  (thing : An) {r : Bool} (h : t_lw_whole_b thing = some r) : F_is_whole__X1 [eA thing] = some (eB r, (fun _ => [eA thing]) r) := by
  have hb : Bk (Qf eB [true] (fun _ => [eA thing])) m_is_whole__X1 [eA thing] _ := (b_retI (eg_f (x_and (x_isiA (x_v eA thing rfl)) (x_not (x_isiA (x_v eA thing rfl))))) (fun u3_ => ⟨.inl rfl, rfl⟩))
  refine run_T (n := 1) (kp := [true]) (m := m_is_whole__X1) (ds := [eA thing]) rfl hb ?_
  first
    | (simp -implicitDefEqProofs only [t_lw_whole_b, Option.bind_assoc, Option.bind_some, bind_same] at h ⊢; exact h)
    | (simp -implicitDefEqProofs only [t_lw_whole_b, Option.bind_assoc, Option.bind_some, bind_same] at h; exact h)
    | exact h
    | (simp [t_lw_whole_b] at h ⊢; exact h)
theorem T_is_whole__X1 : Tf (τ := An × Unit) (fun t => [eA t.1]) eB F_is_whole__X1 (fun t => t_lw_whole_b t.1) := fun t r h => ⟨_, L_is_whole__X1 t.1 h⟩
theorem L_is_whole  (thing : Int) {r : Bool} (h : t_is_whole thing = some r) : F_is_whole [eI thing] = some (eB r, (fun _ => [eI thing]) r) := by
  have hb : Bk (Qf eB [true] (fun _ => [eI thing])) m_is_whole [eI thing] _ := (b_ret (k := fun (u1_ : Bool) => u1_) (eg_f (x_andT (x_isK kit_int_int (x_v eI thing rfl)) (x_not (x_isK kit_int_bool (x_v eI thing rfl))))) (fun u1_ => ⟨.inl rfl, rfl⟩))
  refine run_T (n := 1) (kp := [true]) (m := m_is_whole) (ds := [eI thing]) rfl hb ?_
  first
    | (simp -implicitDefEqProofs only [t_is_whole, Option.bind_assoc, Option.bind_some, bind_same] at h ⊢; exact h)
    | (simp -implicitDefEqProofs only [t_is_whole, Option.bind_assoc, Option.bind_some, bind_same] at h; exact h)
    | exact h
    | (simp [t_is_whole] at h ⊢; exact h)
theorem T_is_whole : Tf (τ := Int × Unit) (fun t => [eI t.1]) eB F_is_whole (fun t => t_is_whole t.1) := fun t r h => ⟨_, L_is_whole t.1 h⟩
theorem L_is_among__X1  (thing : An) (least : Int) (most : Int) {r : Bool} (h : t_is_among__X1 thing least most = some r) : F_is_among__X1 [eA thing, eI least, eI most] = some (eB r, (fun _ => [eA thing, eI least, eI most]) r) := by
  have hb : Bk (Qf eB [true, true, true] (fun _ => [eA thing, eI least, eI most])) m_is_among__X1 [eA thing, eI least, eI most] _ := (b_retI (eg_f (x_and (x_call T_is_whole__X1 (ea_cons (x_v eA thing rfl) ea_nil)) (x_ch o2_leI o2_leI (x_v eI least rfl) (x_dec (e := eI) (x_v eA thing rfl)) (x_v eI most rfl)))) (fun u3_ => ⟨.inl rfl, rfl⟩))
  refine run_T (n := 3) (kp := [true, true, true]) (m := m_is_among__X1) (ds := [eA thing, eI least, eI most]) rfl hb ?_
  first
    | (simp -implicitDefEqProofs only [t_is_among__X1, Option.bind_assoc, Option.bind_some, bind_same] at h ⊢; exact h)
    | (simp -implicitDefEqProofs only [t_is_among__X1, Option.bind_assoc, Option.bind_some, bind_same] at h; exact h)
    | exact h
    | (simp [t_is_among__X1] at h ⊢; exact h)
theorem T_is_among__X1 : Tf (τ := An × Int × Int × Unit) (fun t => [eA t.1, eI t.2.1, eI t.2.2.1]) eB F_is_among__X1 (fun t => t_is_among__X1 t.1 t.2.1 t.2.2.1) := fun t r h => ⟨_, L_is_among__X1 t.1 t.2.1 t.2.2.1 h⟩
theorem L_is_among  (thing : Int) (least : Int) (most : Int) {r : Bool} (h : t_is_among thing least most = some r) : F_is_among [eI thing, eI least, eI most] = some (eB r, (fun _ => [eI thing, eI least, eI most]) r) := by
  have hb : Bk (Qf eB [true, true, true] (fun _ => [eI thing, eI least, eI most])) m_is_among [eI thing, eI least, eI most] _ := (b_retI (eg_f (x_and (x_call T_is_whole (ea_cons (x_v eI thing rfl) ea_nil)) (x_chT o2_leI o2_leI (x_v eI least rfl) (x_v eI thing rfl) (x_v eI most rfl)))) (fun u2_ => ⟨.inl rfl, rfl⟩))
  refine run_T (n := 3) (kp := [true, true, true]) (m := m_is_among) (ds := [eI thing, eI least, eI most]) rfl hb ?_
  first
    | (simp -implicitDefEqProofs only [t_is_among, Option.bind_assoc, Option.bind_some, bind_same] at h ⊢; exact h)
    | (simp -implicitDefEqProofs only [t_is_among, Option.bind_assoc, Option.bind_some, bind_same] at h; exact h)
    | exact h
    | (simp [t_is_among] at h ⊢; exact h)
theorem T_is_among : Tf (τ := Int × Int × Int × Unit) (fun t => [eI t.1, eI t.2.1, eI t.2.2.1]) eB F_is_among (fun t => t_is_among t.1 t.2.1 t.2.2.1) := fun t r h => ⟨_, L_is_among t.1 t.2.1 t.2.2.1 h⟩
theorem L_is_room__X1  (thing : An) (high : Int) (wide : Int) {r : Bool} (h : t_is_room__X1 thing high wide = some r) : F_is_room__X1 [eA thing, eI high, eI wide] = some (eB r, (fun _ => [eA thing, eI high, eI wide]) r) := by
  have hb : Bk (Qf eB [true, true, true] (fun _ => [eA thing, eI high, eI wide])) m_is_room__X1 [eA thing, eI high, eI wide, .gone, .gone, .gone, .gone, .gone, .gone] _ := (b_ifT (et_or (et_not (et_tru (x_isiA (x_v eA thing rfl)))) (et_b (x_m2 (o2_ne (e' := eI) (by decide)) (x_a1 o1_lenA (x_v eA thing rfl)) (x_k eI (6) rfl)))) (b_ret (k := fun (u4_ : Bool) => u4_) (eg_f (x_k eB false rfl)) (fun u4_ => ⟨rfl, ⟨.inl rfl, rfl⟩⟩)) (b_asg (fun (u5_ : (An × An × An × An × An × An)) => [eA thing, eI high, eI wide, eA u5_.1, eA u5_.2.1, eA u5_.2.2.1, eA u5_.2.2.2.1, eA u5_.2.2.2.2.1, eA u5_.2.2.2.2.2]) (eg_r (x_dec (e := (e6 eA eA eA eA eA eA)) (x_v eA thing rfl))) (fun _ => rfl) (fun (u5_ : (An × An × An × An × An × An)) => (b_ifT (et_or (et_not (et_tru (x_call T_is_name__X1 (ea_cons (x_v eA u5_.1 rfl) ea_nil)))) (et_or (et_not (et_tru (x_isiA (x_v eA u5_.2.2.2.2.2 rfl)))) (et_b (x_m2 (o2_ninT) (x_dec (e := eS) (x_v eA u5_.2.2.2.2.2 rfl)) (x_k eK [['c', 'u', 't'], ['c', 'e', 'l', 'l', 's'], ['w', 'o', 'r', 'd', 's'], ['e', 'v', 'e', 'n']] rfl))))) (b_ret (k := fun (u11_ : Bool) => u11_) (eg_f (x_k eB false rfl)) (fun u11_ => ⟨rfl, ⟨.inl rfl, rfl⟩⟩)) (b_ifT (et_or (et_not (et_tru (x_call T_is_among__X1 (ea_cons (x_v eA u5_.2.1 rfl) (ea_cons (x_k eI (0) rfl) (ea_cons (x_v eI high rfl) ea_nil)))))) (et_or (et_not (et_tru (x_call T_is_among__X1 (ea_cons (x_v eA u5_.2.2.2.1 rfl) (ea_cons (x_k eI (1) rfl) (ea_cons (x_v eI high rfl) ea_nil)))))) (et_b (x_m2 o2_gtI (x_m2 o2_addI (x_dec (e := eI) (x_v eA u5_.2.1 rfl)) (x_dec (e := eI) (x_v eA u5_.2.2.2.1 rfl))) (x_v eI high rfl))))) (b_ret (k := fun (u19_ : Bool) => u19_) (eg_f (x_k eB false rfl)) (fun u19_ => ⟨rfl, ⟨.inl rfl, rfl⟩⟩)) (b_retI (eg_f (x_and (x_call T_is_among__X1 (ea_cons (x_v eA u5_.2.2.1 rfl) (ea_cons (x_k eI (0) rfl) (ea_cons (x_v eI wide rfl) ea_nil)))) (x_and (x_call T_is_among__X1 (ea_cons (x_v eA u5_.2.2.2.2.1 rfl) (ea_cons (x_k eI (2) rfl) (ea_cons (x_v eI wide rfl) ea_nil)))) (x_m2 o2_leI (x_m2 o2_addI (x_dec (e := eI) (x_v eA u5_.2.2.1 rfl)) (x_dec (e := eI) (x_v eA u5_.2.2.2.2.1 rfl))) (x_v eI wide rfl))))) (fun u25_ => ⟨.inl rfl, rfl⟩)))))))
  refine run_T (n := 9) (kp := [true, true, true]) (m := m_is_room__X1) (ds := [eA thing, eI high, eI wide]) rfl hb ?_
  first
    | (simp -implicitDefEqProofs only [t_is_room__X1, Option.bind_assoc, Option.bind_some, bind_same] at h ⊢; exact h)
    | (simp -implicitDefEqProofs only [t_is_room__X1, Option.bind_assoc, Option.bind_some, bind_same] at h; exact h)
    | exact h
    | (simp [t_is_room__X1] at h ⊢; exact h)
theorem T_is_room__X1 : Tf (τ := An × Int × Int × Unit) (fun t => [eA t.1, eI t.2.1, eI t.2.2.1]) eB F_is_room__X1 (fun t => t_is_room__X1 t.1 t.2.1 t.2.2.1) := fun t r h => ⟨_, L_is_room__X1 t.1 t.2.1 t.2.2.1 h⟩
theorem L_is_room  (thing : Rm) (high : Int) (wide : Int) {r : Bool} (h : t_is_room thing high wide = some r) : F_is_room [eRm thing, eI high, eI wide] = some (eB r, (fun _ => [eRm thing, eI high, eI wide]) r) := by
  have hb : Bk (Qf eB [true, true, true] (fun _ => [eRm thing, eI high, eI wide])) m_is_room [eRm thing, eI high, eI wide, .gone, .gone, .gone, .gone, .gone, .gone] _ := (b_ifT (et_orT (et_not (et_tru (x_isK kit_tuple_tuple (x_v eRm thing rfl)))) (et_b (x_m2 (o2_ne (e' := eI) (by decide)) (x_a1 (o1_lenK (n := 6) (fun _ => rfl)) (x_v eRm thing rfl)) (x_k eI (6) rfl)))) (b_ret (k := fun (u1_ : Bool) => u1_) (eg_f (x_k eB false rfl)) (fun u1_ => ⟨rfl, ⟨.inl rfl, rfl⟩⟩)) (b_asg (fun (u2_ : Rm) => [eRm thing, eI high, eI wide, eS u2_.1, eI u2_.2.1, eI u2_.2.2.1, eI u2_.2.2.2.1, eI u2_.2.2.2.2.1, eS u2_.2.2.2.2.2]) (eg_r (x_v eRm thing rfl)) (fun _ => rfl) (fun (u2_ : Rm) => (b_ifT (et_or (et_not (et_tru (x_call T_is_name (ea_cons (x_v eS u2_.1 rfl) ea_nil)))) (et_orT (et_not (et_tru (x_isK kit_str_str (x_v eS u2_.2.2.2.2.2 rfl)))) (et_b (x_m2 (o2_ninT) (x_v eS u2_.2.2.2.2.2 rfl) (x_k eK [['c', 'u', 't'], ['c', 'e', 'l', 'l', 's'], ['w', 'o', 'r', 'd', 's'], ['e', 'v', 'e', 'n']] rfl))))) (b_ret (k := fun (u5_ : Bool) => u5_) (eg_f (x_k eB false rfl)) (fun u5_ => ⟨rfl, ⟨.inl rfl, rfl⟩⟩)) (b_ifT (et_or (et_not (et_tru (x_call T_is_among (ea_cons (x_v eI u2_.2.1 rfl) (ea_cons (x_k eI (0) rfl) (ea_cons (x_v eI high rfl) ea_nil)))))) (et_or (et_not (et_tru (x_call T_is_among (ea_cons (x_v eI u2_.2.2.2.1 rfl) (ea_cons (x_k eI (1) rfl) (ea_cons (x_v eI high rfl) ea_nil)))))) (et_b (x_m2 o2_gtI (x_m2 o2_addI (x_v eI u2_.2.1 rfl) (x_v eI u2_.2.2.2.1 rfl)) (x_v eI high rfl))))) (b_ret (k := fun (u10_ : Bool) => u10_) (eg_f (x_k eB false rfl)) (fun u10_ => ⟨rfl, ⟨.inl rfl, rfl⟩⟩)) (b_retI (eg_f (x_and (x_call T_is_among (ea_cons (x_v eI u2_.2.2.1 rfl) (ea_cons (x_k eI (0) rfl) (ea_cons (x_v eI wide rfl) ea_nil)))) (x_and (x_call T_is_among (ea_cons (x_v eI u2_.2.2.2.2.1 rfl) (ea_cons (x_k eI (2) rfl) (ea_cons (x_v eI wide rfl) ea_nil)))) (x_m2 o2_leI (x_m2 o2_addI (x_v eI u2_.2.2.1 rfl) (x_v eI u2_.2.2.2.2.1 rfl)) (x_v eI wide rfl))))) (fun u13_ => ⟨.inl rfl, rfl⟩)))))))
  refine run_T (n := 9) (kp := [true, true, true]) (m := m_is_room) (ds := [eRm thing, eI high, eI wide]) rfl hb ?_
  first
    | (simp -implicitDefEqProofs only [t_is_room, Option.bind_assoc, Option.bind_some, bind_same] at h ⊢; exact h)
    | (simp -implicitDefEqProofs only [t_is_room, Option.bind_assoc, Option.bind_some, bind_same] at h; exact h)
    | exact h
    | (simp [t_is_room] at h ⊢; exact h)
theorem T_is_room : Tf (τ := Rm × Int × Int × Unit) (fun t => [eRm t.1, eI t.2.1, eI t.2.2.1]) eB F_is_room (fun t => t_is_room t.1 t.2.1 t.2.2.1) := fun t r h => ⟨_, L_is_room t.1 t.2.1 t.2.2.1 h⟩
theorem L_is_apart  (one : Rm) (other : Rm) {r : Bool} (h : t_is_apart one other = some r) : F_is_apart [eRm one, eRm other] = some (eB r, (fun _ => [eRm one, eRm other]) r) := by
  have hb : Bk (Qf eB [true, true] (fun _ => [eRm one, eRm other])) m_is_apart [eRm one, eRm other] _ := (b_ifT (et_orT (et_b (x_m2 o2_leI (x_m2 o2_addI (x_pr (f := eI) 1 (fun t : Rm => t.2.1) (fun _ => rfl) (x_v eRm one rfl)) (x_pr (f := eI) 3 (fun t : Rm => t.2.2.2.1) (fun _ => rfl) (x_v eRm one rfl))) (x_pr (f := eI) 1 (fun t : Rm => t.2.1) (fun _ => rfl) (x_v eRm other rfl)))) (et_b (x_m2 o2_leI (x_m2 o2_addI (x_pr (f := eI) 1 (fun t : Rm => t.2.1) (fun _ => rfl) (x_v eRm other rfl)) (x_pr (f := eI) 3 (fun t : Rm => t.2.2.2.1) (fun _ => rfl) (x_v eRm other rfl))) (x_pr (f := eI) 1 (fun t : Rm => t.2.1) (fun _ => rfl) (x_v eRm one rfl))))) (b_ret (k := fun (u1_ : Bool) => u1_) (eg_f (x_k eB true rfl)) (fun u1_ => ⟨rfl, ⟨.inl rfl, rfl⟩⟩)) (b_ret (k := fun (u2_ : Bool) => u2_) (eg_f (x_orT (x_m2 o2_leI (x_m2 o2_addI (x_pr (f := eI) 2 (fun t : Rm => t.2.2.1) (fun _ => rfl) (x_v eRm one rfl)) (x_pr (f := eI) 4 (fun t : Rm => t.2.2.2.2.1) (fun _ => rfl) (x_v eRm one rfl))) (x_pr (f := eI) 2 (fun t : Rm => t.2.2.1) (fun _ => rfl) (x_v eRm other rfl))) (x_m2 o2_leI (x_m2 o2_addI (x_pr (f := eI) 2 (fun t : Rm => t.2.2.1) (fun _ => rfl) (x_v eRm other rfl)) (x_pr (f := eI) 4 (fun t : Rm => t.2.2.2.2.1) (fun _ => rfl) (x_v eRm other rfl))) (x_pr (f := eI) 2 (fun t : Rm => t.2.2.1) (fun _ => rfl) (x_v eRm one rfl))))) (fun u2_ => ⟨.inl rfl, rfl⟩)))
  refine run_T (n := 2) (kp := [true, true]) (m := m_is_apart) (ds := [eRm one, eRm other]) rfl hb ?_
  first
    | (simp -implicitDefEqProofs only [t_is_apart, Option.bind_assoc, Option.bind_some, bind_same] at h ⊢; exact h)
    | (simp -implicitDefEqProofs only [t_is_apart, Option.bind_assoc, Option.bind_some, bind_same] at h; exact h)
    | exact h
    | (simp [t_is_apart] at h ⊢; exact h)
theorem T_is_apart : Tf (τ := Rm × Rm × Unit) (fun t => [eRm t.1, eRm t.2.1]) eB F_is_apart (fun t => t_is_apart t.1 t.2.1) := fun t r h => ⟨_, L_is_apart t.1 t.2.1 h⟩
theorem L_Plan_init__X1  (high : An) (wide : An) (rooms : An) {r : (Exn ⊕ OPlan)} (h : t_Plan_init__X1 high wide rooms = some r) : ∃ ds', F_Plan_init__X1 [.obj true 7 [] [], eA high, eA wide, eA rooms] = some (exI (e_Plan true) ds' r) := by
  have hb : Bk (QfXI (e_Plan true) [true, true, true, true] (fun r : OPlan => e_Plan true r :: [eA high, eA wide, eA rooms])) m_Plan_init__X1 [(fun p_ : Unit => .obj true 7 [] []) (), eA high, eA wide, eA rooms, .gone, .gone, .gone] _ := (b_ifT (et_or (et_not (et_tru (x_call T_is_among__X1 (ea_cons (x_v eA high rfl) (ea_cons (x_k eI (1) rfl) (ea_cons (x_k eI (12) rfl) ea_nil)))))) (et_not (et_tru (x_call T_is_among__X1 (ea_cons (x_v eA wide rfl) (ea_cons (x_k eI (2) rfl) (ea_cons (x_k eI (40) rfl) ea_nil))))))) (b_raise0 (t := (.inl (4, []) : (Exn ⊕ OPlan))) ⟨rfl, rfl⟩) (b_ifT (et_or (et_not (et_tru (x_isiA (x_v eA rooms rfl)))) (et_b (x_m2 o2_eqAE (x_v eA rooms rfl) (x_map (e := (eL false eU)) (f := eA) (an (eL false eU)) (fun _ => rfl) (x_cold (x_lst (f := (eL true eU)) (fun t : Unit => ([] : (List Unit))) ea_nil (fun _ => rfl) (fun _ => (by decide : 0 ≤ LIM)))))))) (b_raise1 (k := fun x6_ => (.inl (5, [("at", an eI x6_)]) : (Exn ⊕ OPlan))) (x_k eI (0) rfl) (fun x6_ => ⟨rfl, rfl⟩)) (b_fld (fun (u7_ : Int) => [(fun p_ : Int => .obj true 7 ["high"] [eI p_]) u7_, eA high, eA wide, eA rooms, .gone, .gone, .gone]) (eg_r (x_dec (e := eI) (x_v eA high rfl))) (fun _ => rfl) (fun (u7_ : Int) => (b_fld (fun (u8_ : Int) => [(fun p_ : (Int × Int) => .obj true 7 ["high", "wide"] [eI p_.1, eI p_.2]) (u7_, u8_), eA high, eA wide, eA rooms, .gone, .gone, .gone]) (eg_r (x_dec (e := eI) (x_v eA wide rfl))) (fun _ => rfl) (fun (u8_ : Int) => (b_fld (fun (u9_ : (List Rm)) => [e_Plan true ({ high := u7_, wide := u8_, rooms := u9_ : OPlan }), eA high, eA wide, eA rooms, .gone, .gone, .gone]) (eg_f (x_lst (f := (eL true eRm)) (fun t : Unit => ([] : (List Rm))) ea_nil (fun _ => rfl) (fun _ => (by decide : 0 ≤ LIM)))) (fun _ => rfl) (fun (u9_ : (List Rm)) => (b_forR (fun (s11_ : OPlan) => [(e_Plan true) s11_, eA high, eA wide, eA rooms, .gone, .gone, .gone]) ({ high := u7_, wide := u8_, rooms := u9_ : OPlan }) (fun (s11_ : OPlan) (x12_ : (Int × An)) => [(e_Plan true) s11_, eA high, eA wide, eA rooms, eI x12_.1, eA x12_.2, .gone]) (ei_enum (x_dec (e := (eL false eA)) (x_v eA rooms rfl))) rfl (fun _ _ => rfl) (fun (s11_ : OPlan) (x12_ : (Int × An)) => (b_ifT (et_or (et_b (x_m2 o2_geI (x_v eI x12_.1 rfl) (x_k eI (6) rfl))) (et_not (et_tru (x_call T_is_room__X1 (ea_cons (x_v eA x12_.2 rfl) (ea_cons (x_dec (e := eI) (x_v eA high rfl)) (ea_cons (x_dec (e := eI) (x_v eA wide rfl)) ea_nil))))))) (b_raise1 (k := fun x16_ => (.rt (.inl (5, [("at", an eI x16_)]) : (Exn ⊕ OPlan)) : (St OPlan (Exn ⊕ OPlan)))) (x_v eI x12_.1 rfl) (fun x16_ => ⟨rfl, ⟨rfl, rfl⟩⟩)) (b_forF (e := eRm) (xs := s11_.rooms) (env1 := fun (other : Rm) => [(e_Plan true) s11_, eA high, eA wide, eA rooms, eI x12_.1, eA x12_.2, eRm other]) rfl (fun _ => rfl) (fun _ => rfl) (fun (other : Rm) => (et_or (et_b (x_m2 (o2_eq (e' := eS) (by decide)) (x_pr (f := eS) 0 (fun t : Rm => t.1) (fun _ => rfl) (x_v eRm other rfl)) (x_dec (e := eS) (x_m2 o2_ixA (x_v eA x12_.2 rfl) (x_k eI (0) rfl))))) (et_not (et_tru (x_call T_is_apart (ea_cons (x_v eRm other rfl) (ea_cons (x_dec (e := eRm) (x_v eA x12_.2 rfl)) ea_nil))))))) (fun (other : Rm) => (b_raise1 (k := fun x22_ => (.rt (.inl (5, [("at", an eI x22_)]) : (Exn ⊕ OPlan)) : (St OPlan (Exn ⊕ OPlan)))) (x_v eI x12_.1 rfl) (fun x22_ => ⟨rfl, ⟨rfl, rfl⟩⟩))) (b_expr (eg_app (a := eRm) (xs := s11_.rooms) (env := fun r_ => [(e_Plan true) ({ s11_ with rooms := r_ }), eA high, eA wide, eA rooms, eI x12_.1, eA x12_.2, .gone]) rfl (x_fr (x_dec (e := eRm) (x_v eA x12_.2 rfl))) (fun _ => rfl)) (fun (u24_ : (List Rm)) => (b_nil (t := (.nx ({ s11_ with rooms := u24_ }) : (St OPlan (Exn ⊕ OPlan)))) ⟨rfl, rfl⟩)))))) (fun (s11_ : OPlan) => (b_nil (t := (.inr s11_ : (Exn ⊕ OPlan))) ⟨.inl rfl, _, rfl⟩)))))))))))
  refine run_TXI (n := 7) (kp := [true, true, true, true]) (m := m_Plan_init__X1) (ds := [.obj true 7 [] [], eA high, eA wide, eA rooms]) rfl hb ?_
  first
    | (simp -implicitDefEqProofs only [t_Plan_init__X1, Option.bind_assoc, Option.bind_some, bind_same] at h ⊢; exact h)
    | (simp -implicitDefEqProofs only [t_Plan_init__X1, Option.bind_assoc, Option.bind_some, bind_same] at h; exact h)
    | exact h
    | (simp [t_Plan_init__X1] at h ⊢; exact h)
theorem T_Plan_init__X1 : Tnx (τ := An × An × An × Unit) 7 (fun t => [eA t.1, eA t.2.1, eA t.2.2.1]) (e_Plan true) F_Plan_init__X1 (fun t => t_Plan_init__X1 t.1 t.2.1 t.2.2.1) := fun t r h => L_Plan_init__X1 t.1 t.2.1 t.2.2.1 h
theorem L_Plan_init  (high : Int) (wide : Int) (rooms : (List Rm)) {r : OPlan} (h : t_Plan_init high wide rooms = some r) : F_Plan_init [.obj true 7 [] [], eI high, eI wide, eRs rooms] = some ((fun _ => .non) r, (fun r : OPlan => e_Plan true r :: [eI high, eI wide, eRs rooms]) r) := by
  have hb : Bk (Qf (fun _ => .non) [true, true, true, true] (fun r : OPlan => e_Plan true r :: [eI high, eI wide, eRs rooms])) m_Plan_init [(fun p_ : Unit => .obj true 7 [] []) (), eI high, eI wide, eRs rooms, .gone, .gone, .gone] _ := (b_ifT (et_or (et_not (et_tru (x_call T_is_among (ea_cons (x_v eI high rfl) (ea_cons (x_k eI (1) rfl) (ea_cons (x_k eI (12) rfl) ea_nil)))))) (et_not (et_tru (x_call T_is_among (ea_cons (x_v eI wide rfl) (ea_cons (x_k eI (2) rfl) (ea_cons (x_k eI (40) rfl) ea_nil))))))) b_never (b_ifT (et_orT (et_not (et_tru (x_isK kit_list_list (x_v eRs rooms rfl)))) (et_b (x_m2 (o2_eq (e' := eRs) (by decide)) (x_v eRs rooms rfl) (x_lst (f := (eL true eRm)) (fun t : Unit => ([] : (List Rm))) ea_nil (fun _ => rfl) (fun _ => (by decide : 0 ≤ LIM)))))) b_never (b_fld (fun (u4_ : Int) => [(fun p_ : Int => .obj true 7 ["high"] [eI p_]) u4_, eI high, eI wide, eRs rooms, .gone, .gone, .gone]) (eg_r (x_v eI high rfl)) (fun _ => rfl) (fun (u4_ : Int) => (b_fld (fun (u5_ : Int) => [(fun p_ : (Int × Int) => .obj true 7 ["high", "wide"] [eI p_.1, eI p_.2]) (u4_, u5_), eI high, eI wide, eRs rooms, .gone, .gone, .gone]) (eg_r (x_v eI wide rfl)) (fun _ => rfl) (fun (u5_ : Int) => (b_fld (fun (u6_ : (List Rm)) => [e_Plan true ({ high := u4_, wide := u5_, rooms := u6_ : OPlan }), eI high, eI wide, eRs rooms, .gone, .gone, .gone]) (eg_f (x_lst (f := (eL true eRm)) (fun t : Unit => ([] : (List Rm))) ea_nil (fun _ => rfl) (fun _ => (by decide : 0 ≤ LIM)))) (fun _ => rfl) (fun (u6_ : (List Rm)) => (b_for (fun (s7_ : OPlan) => [(e_Plan true) s7_, eI high, eI wide, eRs rooms, .gone, .gone, .gone]) ({ high := u4_, wide := u5_, rooms := u6_ : OPlan }) (fun (s7_ : OPlan) (x8_ : (Int × Rm)) => [(e_Plan true) s7_, eI high, eI wide, eRs rooms, eI x8_.1, eRm x8_.2, .gone]) (ei_enum (x_v eRs rooms rfl)) rfl (fun _ _ => rfl) (fun (s7_ : OPlan) (x8_ : (Int × Rm)) => (b_ifT (et_or (et_b (x_m2 o2_geI (x_v eI x8_.1 rfl) (x_k eI (6) rfl))) (et_not (et_tru (x_call T_is_room (ea_cons (x_v eRm x8_.2 rfl) (ea_cons (x_v eI high rfl) (ea_cons (x_v eI wide rfl) ea_nil))))))) b_never (b_forF (e := eRm) (xs := s7_.rooms) (env1 := fun (other : Rm) => [(e_Plan true) s7_, eI high, eI wide, eRs rooms, eI x8_.1, eRm x8_.2, eRm other]) rfl (fun _ => rfl) (fun _ => rfl) (fun (other : Rm) => (et_or (et_b (x_m2 (o2_eq (e' := eS) (by decide)) (x_pr (f := eS) 0 (fun t : Rm => t.1) (fun _ => rfl) (x_v eRm other rfl)) (x_pr (f := eS) 0 (fun t : Rm => t.1) (fun _ => rfl) (x_v eRm x8_.2 rfl)))) (et_not (et_tru (x_call T_is_apart (ea_cons (x_v eRm other rfl) (ea_cons (x_v eRm x8_.2 rfl) ea_nil))))))) (fun (other : Rm) => b_never) (b_expr (eg_app (a := eRm) (xs := s7_.rooms) (env := fun r_ => [(e_Plan true) ({ s7_ with rooms := r_ }), eI high, eI wide, eRs rooms, eI x8_.1, eRm x8_.2, .gone]) rfl (x_fr (x_v eRm x8_.2 rfl)) (fun _ => rfl)) (fun (u11_ : (List Rm)) => (b_nil (t := ({ s7_ with rooms := u11_ })) ⟨rfl, rfl⟩)))))) (fun (s7_ : OPlan) => (b_nil (t := s7_) ⟨.inr ⟨rfl, rfl⟩, rfl⟩)))))))))))
  refine run_T (n := 7) (kp := [true, true, true, true]) (m := m_Plan_init) (ds := [.obj true 7 [] [], eI high, eI wide, eRs rooms]) rfl hb ?_
  first
    | (simp -implicitDefEqProofs only [t_Plan_init, Option.bind_assoc, Option.bind_some, bind_same] at h ⊢; exact h)
    | (simp -implicitDefEqProofs only [t_Plan_init, Option.bind_assoc, Option.bind_some, bind_same] at h; exact h)
    | exact h
    | (simp [t_Plan_init] at h ⊢; exact h)
theorem T_Plan_init : Tn (τ := Int × Int × (List Rm) × Unit) 7 (fun t => [eI t.1, eI t.2.1, eRs t.2.2.1]) (e_Plan true) F_Plan_init (fun t => t_Plan_init t.1 t.2.1 t.2.2.1) := fun t r h => ⟨_, L_Plan_init t.1 t.2.1 t.2.2.1 h⟩
theorem L_Plan_room_names (o_ : Bool) (self : OPlan) {r : (List Ts)} (h : t_Plan_room_names self = some r) : F_Plan_room_names [(e_Plan o_) self] = some ((eL true eS) r, (fun _ => [(e_Plan o_) self]) r) := by
  have hb : Bk (Qf (eL true eS) [true] (fun _ => [(e_Plan o_) self])) m_Plan_room_names [(e_Plan o_) self, .gone] _ := (b_retI (eg_f (x_comp (fun (room : Rm) => [(e_Plan o_) self, eRm room]) (ei_itV (ev_get (e := (eL o_ eRm)) (x := self.rooms) rfl)) (fun _ => rfl) (fun (room : Rm) => et_yes) (fun (room : Rm) => (x_pr (f := eS) 0 (fun t : Rm => t.1) (fun _ => rfl) (x_v eRm room rfl))))) (fun u2_ => ⟨.inl rfl, rfl⟩))
  refine run_T (n := 2) (kp := [true]) (m := m_Plan_room_names) (ds := [(e_Plan o_) self]) rfl hb ?_
  first
    | (simp -implicitDefEqProofs only [t_Plan_room_names, Option.bind_assoc, Option.bind_some, bind_same] at h ⊢; exact h)
    | (simp -implicitDefEqProofs only [t_Plan_room_names, Option.bind_assoc, Option.bind_some, bind_same] at h; exact h)
    | exact h
    | (simp [t_Plan_room_names] at h ⊢; exact h)
theorem T_Plan_room_names {o_ : Bool} : To (τ := Unit) (e_Plan o_) (fun t => []) (eL true eS) F_Plan_room_names (fun x t => t_Plan_room_names x ) := fun x t r h => ⟨_, L_Plan_room_names o_ x  h⟩
theorem L_lw_cell_at  (script : (List Int)) (k : Int) {r : Int} (h : t_lw_cell script k = some r) : F_lw_cell_at [eC script, eI k] = some (eI r, (fun _ => [eC script, eI k]) r) := by
  have hb : Bk (Qf eI [true, true] (fun _ => [eC script, eI k])) m_lw_cell_at [eC script, eI k] _ := (b_ifT (et_b (x_m2 o2_ltI (x_v eI k rfl) (x_a1 o1_lenC (x_v eC script rfl)))) (b_retI (eg_r (x_m2 o2_ixC (x_v eC script rfl) (x_v eI k rfl))) (fun u1_ => ⟨rfl, ⟨.inl rfl, rfl⟩⟩)) (b_ret (k := fun (u2_ : Int) => u2_) (eg_f (x_k eI (0) rfl)) (fun u2_ => ⟨.inl rfl, rfl⟩)))
  refine run_T (n := 2) (kp := [true, true]) (m := m_lw_cell_at) (ds := [eC script, eI k]) rfl hb ?_
  first
    | (simp -implicitDefEqProofs only [t_lw_cell, Option.bind_assoc, Option.bind_some, bind_same] at h ⊢; exact h)
    | (simp -implicitDefEqProofs only [t_lw_cell, Option.bind_assoc, Option.bind_some, bind_same] at h; exact h)
    | exact h
    | (simp [t_lw_cell] at h ⊢; exact h)
theorem T_lw_cell_at : Tf (τ := (List Int) × Int × Unit) (fun t => [eC t.1, eI t.2.1]) eI F_lw_cell_at (fun t => t_lw_cell t.1 t.2.1) := fun t r h => ⟨_, L_lw_cell_at t.1 t.2.1 h⟩
theorem L_lw_mix  (cell : Int) (k : Int) {r : Int} (h : t_lw_mix_c cell k = some r) : F_lw_mix [eI cell, eI k] = some (eI r, (fun _ => [eI cell, eI k]) r) := by
  have hb : Bk (Qf eI [true, true] (fun _ => [eI cell, eI k])) m_lw_mix [eI cell, eI k, .gone, .gone, .gone] _ := (b_ifT (et_b (x_m2 o2_gtI (x_v eI cell rfl) (x_pow 10 18 1000000000000000000 (by decide)))) (b_asg (fun (rest : Int) => [eI cell, eI k, eI rest, .gone, .gone]) (eg_r (x_v eI cell rfl)) (fun _ => rfl) (fun (rest : Int) => (b_for (fun (s1_ : Int) => [eI cell, eI k, eI s1_, .gone, .gone]) rest (fun (s1_ : Int) (turn : Int) => [eI cell, eI k, eI s1_, eI turn, .gone]) (ei_rng1 (x_v eI k rfl)) rfl (fun _ _ => rfl) (fun (s1_ : Int) (turn : Int) => (b_asg (fun (rest : Int) => [eI cell, eI k, eI rest, eI turn, .gone]) (eg_f (x_fdivP 1000000000 (by decide) (x_v eI s1_ rfl) (x_pow 10 9 1000000000 (by decide)))) (fun _ => rfl) (fun (rest : Int) => (b_nil (t := rest) ⟨rfl, rfl⟩)))) (fun (s1_ : Int) => (b_ret (k := fun (u2_ : Int) => u2_) (eg_f (x_modP 1000000000 (by decide) (x_v eI s1_ rfl) (x_pow 10 9 1000000000 (by decide)))) (fun u2_ => ⟨rfl, ⟨.inl rfl, rfl⟩⟩)))))) (b_asg (fun (number_here : Int) => [eI cell, eI k, .gone, .gone, eI number_here]) (eg_f (x_m2 o2_addI (x_modP 2147483647 (by decide) (x_v eI cell rfl) (x_k eI (2147483647) rfl)) (x_k eI (7919) rfl))) (fun _ => rfl) (fun (number_here : Int) => (b_for (fun (s4_ : Int) => [eI cell, eI k, .gone, .gone, eI s4_]) number_here (fun (s4_ : Int) (turn : Int) => [eI cell, eI k, .gone, eI turn, eI s4_]) (ei_rng1 (x_m2 o2_addI (x_v eI k rfl) (x_k eI (2) rfl))) rfl (fun _ _ => rfl) (fun (s4_ : Int) (turn : Int) => (b_asg (fun (number_here : Int) => [eI cell, eI k, .gone, eI turn, eI number_here]) (eg_f (x_modP 2147483629 (by decide) (x_m2 o2_addI (x_mulR 48271 (by decide) (x_v eI s4_ rfl)) (x_k eI (104729) rfl)) (x_k eI (2147483629) rfl))) (fun _ => rfl) (fun (number_here : Int) => (b_nil (t := number_here) ⟨rfl, rfl⟩)))) (fun (s4_ : Int) => (b_retI (eg_f (x_fdivP 11 (by decide) (x_modP 998244353 (by decide) (x_m2 o2_mul (x_v eI s4_ rfl) (x_v eI s4_ rfl)) (x_k eI (998244353) rfl)) (x_k eI (11) rfl))) (fun u7_ => ⟨.inl rfl, rfl⟩)))))))
  refine run_T (n := 5) (kp := [true, true]) (m := m_lw_mix) (ds := [eI cell, eI k]) rfl hb ?_
  first
    | (simp -implicitDefEqProofs only [t_lw_mix_c, Option.bind_assoc, Option.bind_some, bind_same] at h ⊢; exact h)
    | (simp -implicitDefEqProofs only [t_lw_mix_c, Option.bind_assoc, Option.bind_some, bind_same] at h; exact h)
    | exact h
    | (simp [t_lw_mix_c] at h ⊢; exact h)
theorem T_lw_mix : Tf (τ := Int × Int × Unit) (fun t => [eI t.1, eI t.2.1]) eI F_lw_mix (fun t => t_lw_mix_c t.1 t.2.1) := fun t r h => ⟨_, L_lw_mix t.1 t.2.1 h⟩
theorem L_lw_names  (cell : Int) (many : Int) {r : (List Ts)} (h : t_lw_names_c cell many = some r) : F_lw_names [eI cell, eI many] = some ((eL true eS) r, (fun _ => [eI cell, eI many]) r) := by
  have hb : Bk (Qf (eL true eS) [true, true] (fun _ => [eI cell, eI many])) m_lw_names [eI cell, eI many, .gone, .gone, .gone, .gone, .gone, .gone] _ := (b_asg (fun (letters : Ts) => [eI cell, eI many, eS letters, .gone, .gone, .gone, .gone, .gone]) (eg_f (x_k eS ['a', 'b', 'c', 'd', 'e', 'f', 'g', 'h', 'i', 'j', 'k', 'l', 'm', 'n', 'o', 'p', 'q', 'r', 's', 't', 'u', 'v', 'w', 'x', 'y', 'z'] rfl)) (fun _ => rfl) (fun (letters : Ts) => (b_asg (fun (base : Ts) => [eI cell, eI many, eS letters, eS base, .gone, .gone, .gone, .gone]) (eg_f (x_k eS ([] : Ts) rfl)) (fun _ => rfl) (fun (base : Ts) => (b_for (fun (s1_ : Ts) => [eI cell, eI many, eS letters, eS s1_, .gone, .gone, .gone, .gone]) base (fun (s1_ : Ts) (k : Int) => [eI cell, eI many, eS letters, eS s1_, eI k, .gone, .gone, .gone]) (ei_rng1 (x_k eI (8) rfl)) rfl (fun _ _ => rfl) (fun (s1_ : Ts) (k : Int) => (b_asg (fun (base : Ts) => [eI cell, eI many, eS letters, eS base, eI k, .gone, .gone, .gone]) (eg_f (x_m2 o2_catS (x_v eS s1_ rfl) (x_m2 o2_ixS (x_v eS letters rfl) (x_modP 26 (by decide) (x_call T_lw_mix (ea_cons (x_v eI cell rfl) (ea_cons (x_v eI k rfl) ea_nil))) (x_k eI (26) rfl))))) (fun _ => rfl) (fun (base : Ts) => (b_nil (t := base) ⟨rfl, rfl⟩)))) (fun (s1_ : Ts) => (b_ifT (et_b (x_m2 (o2_eq (e' := eI) (by decide)) (x_modP 3 (by decide) (x_v eI cell rfl) (x_k eI (3) rfl)) (x_k eI (0) rfl))) (b_retI (eg_f (x_comp (fun (k : Int) => [eI cell, eI many, eS letters, eS s1_, eI k, .gone, .gone, .gone]) (ei_rng1 (x_v eI many rfl)) (fun _ => rfl) (fun (k : Int) => et_yes) (fun (k : Int) => (x_sl (x_v eS s1_ rfl) eo_no (eo_so (x_m2 o2_addI (x_v eI k rfl) (x_k eI (1) rfl))))))) (fun u7_ => ⟨rfl, ⟨.inl rfl, rfl⟩⟩)) (b_asg (fun (at_ : Int) => [eI cell, eI many, eS letters, eS s1_, .gone, eI at_, .gone, .gone]) (eg_f (x_modP 8 (by decide) (x_fdivP 3 (by decide) (x_v eI cell rfl) (x_k eI (3) rfl)) (x_k eI (8) rfl))) (fun _ => rfl) (fun (at_ : Int) => (b_asg (fun (names_here : (List Ts)) => [eI cell, eI many, eS letters, eS s1_, .gone, eI at_, (eL true eS) names_here, .gone]) (eg_f (x_lst (f := (eL true eS)) (fun t : Unit => ([] : (List Ts))) ea_nil (fun _ => rfl) (fun _ => (by decide : 0 ≤ LIM)))) (fun _ => rfl) (fun (names_here : (List Ts)) => (b_for (fun (s8_ : (List Ts)) => [eI cell, eI many, eS letters, eS s1_, .gone, eI at_, (eL true eS) s8_, .gone]) names_here (fun (s8_ : (List Ts)) (k : Int) => [eI cell, eI many, eS letters, eS s1_, eI k, eI at_, (eL true eS) s8_, .gone]) (ei_rng1 (x_v eI many rfl)) rfl (fun _ _ => rfl) (fun (s8_ : (List Ts)) (k : Int) => (b_asg (fun (sign : Ts) => [eI cell, eI many, eS letters, eS s1_, eI k, eI at_, (eL true eS) s8_, eS sign]) (eg_r (x_m2 o2_ixS (x_v eS letters rfl) (x_modP 26 (by decide) (x_m2 o2_addI (x_call T_lw_mix (ea_cons (x_v eI cell rfl) (ea_cons (x_k eI (8) rfl) ea_nil))) (x_v eI k rfl)) (x_k eI (26) rfl)))) (fun _ => rfl) (fun (sign : Ts) => (b_expr (eg_app (a := eS) (xs := s8_) (env := fun r_ => [eI cell, eI many, eS letters, eS s1_, eI k, eI at_, (eL true eS) r_, eS sign]) rfl (x_sl (x_m2 o2_catS (x_m2 o2_catS (x_sl (x_v eS s1_ rfl) eo_no (eo_so (x_v eI at_ rfl))) (x_v eS sign rfl)) (x_sl (x_v eS s1_ rfl) (eo_so (x_m2 o2_addI (x_v eI at_ rfl) (x_k eI (1) rfl))) eo_no)) eo_no (eo_so (x_a2 o2_max (x_m2 o2_addI (x_v eI at_ rfl) (x_k eI (1) rfl)) (x_m2 o2_addI (x_k eI (1) rfl) (x_modP 8 (by decide) (x_fdivP 24 (by decide) (x_v eI cell rfl) (x_k eI (24) rfl)) (x_k eI (8) rfl)))))) (fun _ => rfl)) (fun (u21_ : (List Ts)) => (b_nil (t := u21_) ⟨rfl, rfl⟩)))))) (fun (s8_ : (List Ts)) => (b_ret (k := fun (u22_ : (List Ts)) => u22_) (eg_mv (eL true eS) s8_ [eI cell, eI many, eS letters, eS s1_, .gone, eI at_, .gone, .gone] rfl rfl) (fun u22_ => ⟨.inl rfl, rfl⟩)))))))))))))))
  refine run_T (n := 8) (kp := [true, true]) (m := m_lw_names) (ds := [eI cell, eI many]) rfl hb ?_
  first
    | (simp -implicitDefEqProofs only [t_lw_names_c, Option.bind_assoc, Option.bind_some, bind_same] at h ⊢; exact h)
    | (simp -implicitDefEqProofs only [t_lw_names_c, Option.bind_assoc, Option.bind_some, bind_same] at h; exact h)
    | exact h
    | (simp [t_lw_names_c] at h ⊢; exact h)
theorem T_lw_names : Tf (τ := Int × Int × Unit) (fun t => [eI t.1, eI t.2.1]) (eL true eS) F_lw_names (fun t => t_lw_names_c t.1 t.2.1) := fun t r h => ⟨_, L_lw_names t.1 t.2.1 h⟩
theorem L_lw_good  (script : (List Int)) (many : Int) {r : (Int × Int × (List Rm))} (h : t_lw_good script many = some r) : F_lw_good [eC script, eI many] = some ((e3 eI eI eRs) r, (fun _ => [eC script, eI many]) r) := by
  have hb : Bk (Qf (e3 eI eI eRs) [true, true] (fun _ => [eC script, eI many])) m_lw_good [eC script, eI many, .gone, .gone, .gone, .gone, .gone, .gone, .gone, .gone] _ := (b_asg (fun (cell : Int) => [eC script, eI many, eI cell, .gone, .gone, .gone, .gone, .gone, .gone, .gone]) (eg_f (x_call T_lw_cell_at (ea_cons (x_v eC script rfl) (ea_cons (x_k eI (0) rfl) ea_nil)))) (fun _ => rfl) (fun (cell : Int) => (b_asg (fun (names_here : (List Ts)) => [eC script, eI many, eI cell, (eL false eS) names_here, .gone, .gone, .gone, .gone, .gone, .gone]) (eg_f (x_cold (x_call T_lw_names (ea_cons (x_call T_lw_cell_at (ea_cons (x_v eC script rfl) (ea_cons (x_k eI (1) rfl) ea_nil))) (ea_cons (x_v eI many rfl) ea_nil))))) (fun _ => rfl) (fun (names_here : (List Ts)) => (b_asg (fun (rooms : (List Rm)) => [eC script, eI many, eI cell, (eL false eS) names_here, (eL true eRm) rooms, .gone, .gone, .gone, .gone, .gone]) (eg_f (x_lst (f := (eL true eRm)) (fun t : Unit => ([] : (List Rm))) ea_nil (fun _ => rfl) (fun _ => (by decide : 0 ≤ LIM)))) (fun _ => rfl) (fun (rooms : (List Rm)) => (b_asg (fun (at_ : Int) => [eC script, eI many, eI cell, (eL false eS) names_here, (eL true eRm) rooms, eI at_, .gone, .gone, .gone, .gone]) (eg_f (x_k eI (0) rfl)) (fun _ => rfl) (fun (at_ : Int) => (b_for (fun (s2_ : ((List Rm) × Int)) => [eC script, eI many, eI cell, (eL false eS) names_here, (eL true eRm) s2_.1, eI s2_.2, .gone, .gone, .gone, .gone]) (rooms, at_) (fun (s2_ : ((List Rm) × Int)) (k : Int) => [eC script, eI many, eI cell, (eL false eS) names_here, (eL true eRm) s2_.1, eI s2_.2, eI k, .gone, .gone, .gone]) (ei_rng1 (x_v eI many rfl)) rfl (fun _ _ => rfl) (fun (s2_ : ((List Rm) × Int)) (k : Int) => (b_asg (fun (tall : Int) => [eC script, eI many, eI cell, (eL false eS) names_here, (eL true eRm) s2_.1, eI s2_.2, eI k, eI tall, .gone, .gone]) (eg_f (x_m2 o2_addI (x_k eI (1) rfl) (x_modP 3 (by decide) (x_call T_lw_mix (ea_cons (x_v eI cell rfl) (ea_cons (x_m2 o2_addI (x_k eI (14) rfl) (x_mulK 6 (by decide) (x_v eI k rfl))) ea_nil))) (x_k eI (3) rfl)))) (fun _ => rfl) (fun (tall : Int) => (b_asg (fun (broad : Int) => [eC script, eI many, eI cell, (eL false eS) names_here, (eL true eRm) s2_.1, eI s2_.2, eI k, eI tall, eI broad, .gone]) (eg_f (x_m2 o2_addI (x_k eI (2) rfl) (x_modP 3 (by decide) (x_call T_lw_mix (ea_cons (x_v eI cell rfl) (ea_cons (x_m2 o2_addI (x_k eI (15) rfl) (x_mulK 6 (by decide) (x_v eI k rfl))) ea_nil))) (x_k eI (3) rfl)))) (fun _ => rfl) (fun (broad : Int) => (b_asg (fun (way : Ts) => [eC script, eI many, eI cell, (eL false eS) names_here, (eL true eRm) s2_.1, eI s2_.2, eI k, eI tall, eI broad, eS way]) (eg_r (x_m2 o2_ixL (x_lst (f := (eL true eS)) (fun t : Ts × Ts × Ts × Ts × Unit => ([t.1, t.2.1, t.2.2.1, t.2.2.2.1] : (List Ts))) (ea_cons (x_k eS ['c', 'u', 't'] rfl) (ea_cons (x_k eS ['c', 'e', 'l', 'l', 's'] rfl) (ea_cons (x_k eS ['w', 'o', 'r', 'd', 's'] rfl) (ea_cons (x_k eS ['e', 'v', 'e', 'n'] rfl) ea_nil)))) (fun _ => rfl) (fun _ => (by decide : 4 ≤ LIM))) (x_modP 4 (by decide) (x_call T_lw_mix (ea_cons (x_v eI cell rfl) (ea_cons (x_m2 o2_addI (x_k eI (16) rfl) (x_mulK 6 (by decide) (x_v eI k rfl))) ea_nil))) (x_k eI (4) rfl)))) (fun _ => rfl) (fun (way : Ts) => (b_expr (eg_app (a := eRm) (xs := s2_.1) (env := fun r_ => [eC script, eI many, eI cell, (eL false eS) names_here, (eL true eRm) r_, eI s2_.2, eI k, eI tall, eI broad, eS way]) rfl (x_tup (f := eRm) (fun t : Ts × Int × Int × Int × Int × Ts × Unit => (t.1, t.2.1, t.2.2.1, t.2.2.2.1, t.2.2.2.2.1, t.2.2.2.2.2.1)) (ea_cons (x_m2 o2_ixL (x_v (eL false eS) names_here rfl) (x_v eI k rfl)) (ea_cons (x_modP 3 (by decide) (x_call T_lw_mix (ea_cons (x_v eI cell rfl) (ea_cons (x_m2 o2_addI (x_k eI (17) rfl) (x_mulK 6 (by decide) (x_v eI k rfl))) ea_nil))) (x_k eI (3) rfl)) (ea_cons (x_v eI s2_.2 rfl) (ea_cons (x_v eI tall rfl) (ea_cons (x_v eI broad rfl) (ea_cons (x_v eS way rfl) ea_nil)))))) (fun _ => rfl) (fun _ => (by decide : 6 ≤ LIM))) (fun _ => rfl)) (fun (u16_ : (List Rm)) => (b_asg (fun (at_ : Int) => [eC script, eI many, eI cell, (eL false eS) names_here, (eL true eRm) u16_, eI at_, eI k, eI tall, eI broad, eS way]) (eg_f (x_m2 o2_addI (x_v eI s2_.2 rfl) (x_v eI broad rfl))) (fun _ => rfl) (fun (at_ : Int) => (b_nil (t := (u16_, at_)) ⟨rfl, rfl⟩)))))))))))) (fun (s2_ : ((List Rm) × Int)) => (b_frz (ρ2 := [eC script, eI many, eI cell, (eL false eS) names_here, eRs s2_.1, eI s2_.2, .gone, .gone, .gone, .gone]) (e := (eL true eRm)) (x := s2_.1) rfl rfl (b_retI (eg_f (x_tup (f := (e3 eI eI eRs)) (fun t : Int × Int × (List Rm) × Unit => (t.1, t.2.1, t.2.2.1)) (ea_cons (x_m2 o2_addI (x_k eI (5) rfl) (x_modP 3 (by decide) (x_call T_lw_mix (ea_cons (x_v eI cell rfl) (ea_cons (x_k eI (9) rfl) ea_nil))) (x_k eI (3) rfl))) (ea_cons (x_m2 o2_addI (x_k eI (30) rfl) (x_modP 3 (by decide) (x_call T_lw_mix (ea_cons (x_v eI cell rfl) (ea_cons (x_k eI (10) rfl) ea_nil))) (x_k eI (3) rfl))) (ea_cons (x_v eRs s2_.1 rfl) ea_nil))) (fun _ => rfl) (fun _ => (by decide : 3 ≤ LIM)))) (fun u27_ => ⟨.inl rfl, rfl⟩)))))))))))))
  refine run_T (n := 10) (kp := [true, true]) (m := m_lw_good) (ds := [eC script, eI many]) rfl hb ?_
  first
    | (simp -implicitDefEqProofs only [t_lw_good, Option.bind_assoc, Option.bind_some, bind_same] at h ⊢; exact h)
    | (simp -implicitDefEqProofs only [t_lw_good, Option.bind_assoc, Option.bind_some, bind_same] at h; exact h)
    | exact h
    | (simp [t_lw_good] at h ⊢; exact h)
theorem T_lw_good : Tf (τ := (List Int) × Int × Unit) (fun t => [eC t.1, eI t.2.1]) (e3 eI eI eRs) F_lw_good (fun t => t_lw_good t.1 t.2.1) := fun t r h => ⟨_, L_lw_good t.1 t.2.1 h⟩
theorem L_lw_number  (cell : Int) (room : Rm) (high : Int) (wide : Int) {r : An} (h : t_lw_number cell room high wide = some r) : F_lw_number [eI cell, eRm room, eI high, eI wide] = some (eA r, (fun _ => [eI cell, eRm room, eI high, eI wide]) r) := by
  have hb : Bk (Qf eA [true, true, true, true] (fun _ => [eI cell, eRm room, eI high, eI wide])) m_lw_number [eI cell, eRm room, eI high, eI wide, .gone, .gone, .gone, .gone, .gone] _ := (b_asg (fun (at_ : Int) => [eI cell, eRm room, eI high, eI wide, eI at_, .gone, .gone, .gone, .gone]) (eg_f (x_m2 o2_addI (x_k eI (1) rfl) (x_modP 4 (by decide) (x_v eI cell rfl) (x_k eI (4) rfl)))) (fun _ => rfl) (fun (at_ : Int) => (b_asg (fun (some_ : (List (List An))) => [eI cell, eRm room, eI high, eI wide, eI at_, (eL false (eL false eA)) some_, .gone, .gone, .gone]) (eg_f (x_cold (x_lst (f := (eL true (eL false eA))) (fun t : (List An) × (List An) × (List An) × (List An) × Unit => ([t.1, t.2.1, t.2.2.1, t.2.2.2.1] : (List (List An)))) (ea_cons (x_cold (x_lst (f := (eL true eA)) (fun t : An × An × An × An × Unit => ([t.1, t.2.1, t.2.2.1, t.2.2.2.1] : (List An))) (ea_cons (x_map (e := eI) (f := eA) (an eI) (fun _ => rfl) (x_m1 o1_neg (x_k eI (1) rfl))) (ea_cons (x_map (e := eU) (f := eA) (an eU) (fun _ => rfl) (x_k eU () rfl)) (ea_cons (x_map (e := eB) (f := eA) (an eB) (fun _ => rfl) (x_k eB true rfl)) (ea_cons (x_map (e := eS) (f := eA) (an eS) (fun _ => rfl) (x_k eS ['0'] rfl)) ea_nil)))) (fun _ => rfl) (fun _ => (by decide : 4 ≤ LIM)))) (ea_cons (x_cold (x_lst (f := (eL true eA)) (fun t : An × An × An × An × Unit => ([t.1, t.2.1, t.2.2.1, t.2.2.2.1] : (List An))) (ea_cons (x_map (e := eI) (f := eA) (an eI) (fun _ => rfl) (x_m1 o1_neg (x_k eI (1) rfl))) (ea_cons (x_map (e := eU) (f := eA) (an eU) (fun _ => rfl) (x_k eU () rfl)) (ea_cons (x_map (e := eB) (f := eA) (an eB) (fun _ => rfl) (x_k eB false rfl)) (ea_cons (x_map (e := eS) (f := eA) (an eS) (fun _ => rfl) (x_k eS ['0'] rfl)) ea_nil)))) (fun _ => rfl) (fun _ => (by decide : 4 ≤ LIM)))) (ea_cons (x_cold (x_lst (f := (eL true eA)) (fun t : An × An × An × An × Unit => ([t.1, t.2.1, t.2.2.1, t.2.2.2.1] : (List An))) (ea_cons (x_map (e := eI) (f := eA) (an eI) (fun _ => rfl) (x_k eI (0) rfl)) (ea_cons (x_map (e := eU) (f := eA) (an eU) (fun _ => rfl) (x_k eU () rfl)) (ea_cons (x_map (e := eB) (f := eA) (an eB) (fun _ => rfl) (x_k eB true rfl)) (ea_cons (x_map (e := eS) (f := eA) (an eS) (fun _ => rfl) (x_k eS ['1'] rfl)) ea_nil)))) (fun _ => rfl) (fun _ => (by decide : 4 ≤ LIM)))) (ea_cons (x_cold (x_lst (f := (eL true eA)) (fun t : An × An × An × An × Unit => ([t.1, t.2.1, t.2.2.1, t.2.2.2.1] : (List An))) (ea_cons (x_map (e := eI) (f := eA) (an eI) (fun _ => rfl) (x_k eI (1) rfl)) (ea_cons (x_map (e := eU) (f := eA) (an eU) (fun _ => rfl) (x_k eU () rfl)) (ea_cons (x_map (e := eB) (f := eA) (an eB) (fun _ => rfl) (x_k eB true rfl)) (ea_cons (x_map (e := eS) (f := eA) (an eS) (fun _ => rfl) (x_k eS ['2'] rfl)) ea_nil)))) (fun _ => rfl) (fun _ => (by decide : 4 ≤ LIM)))) ea_nil)))) (fun _ => rfl) (fun _ => (by decide : 4 ≤ LIM))))) (fun _ => rfl) (fun (some_ : (List (List An))) => (b_asg (fun (far : Int) => [eI cell, eRm room, eI high, eI wide, eI at_, (eL false (eL false eA)) some_, eI far, .gone, .gone]) (eg_r (x_m2 o2_ixL (x_lst (f := (eL true eI)) (fun t : Int × Int × Int × Int × Unit => ([t.1, t.2.1, t.2.2.1, t.2.2.2.1] : (List Int))) (ea_cons (x_v eI high rfl) (ea_cons (x_v eI wide rfl) (ea_cons (x_m2 o2_addI (x_v eI high rfl) (x_k eI (1) rfl)) (ea_cons (x_m2 o2_addI (x_v eI wide rfl) (x_k eI (1) rfl)) ea_nil)))) (fun _ => rfl) (fun _ => (by decide : 4 ≤ LIM))) (x_m2 o2_subI (x_v eI at_ rfl) (x_k eI (1) rfl)))) (fun _ => rfl) (fun (far : Int) => (b_asg (fun (near : Int) => [eI cell, eRm room, eI high, eI wide, eI at_, (eL false (eL false eA)) some_, eI far, eI near, .gone]) (eg_f (x_m2 o2_addI (x_m2 o2_ixL (x_lst (f := (eL true eI)) (fun t : Int × Int × Int × Int × Unit => ([t.1, t.2.1, t.2.2.1, t.2.2.2.1] : (List Int))) (ea_cons (x_m2 o2_subI (x_v eI high rfl) (x_pr (f := eI) 3 (fun t : Rm => t.2.2.2.1) (fun _ => rfl) (x_v eRm room rfl))) (ea_cons (x_m2 o2_subI (x_v eI wide rfl) (x_pr (f := eI) 4 (fun t : Rm => t.2.2.2.2.1) (fun _ => rfl) (x_v eRm room rfl))) (ea_cons (x_m2 o2_subI (x_v eI high rfl) (x_pr (f := eI) 1 (fun t : Rm => t.2.1) (fun _ => rfl) (x_v eRm room rfl))) (ea_cons (x_m2 o2_subI (x_v eI wide rfl) (x_pr (f := eI) 2 (fun t : Rm => t.2.2.1) (fun _ => rfl) (x_v eRm room rfl))) ea_nil)))) (fun _ => rfl) (fun _ => (by decide : 4 ≤ LIM))) (x_m2 o2_subI (x_v eI at_ rfl) (x_k eI (1) rfl))) (x_k eI (1) rfl))) (fun _ => rfl) (fun (near : Int) => (b_asg (fun (bad_here : An) => [eI cell, eRm room, eI high, eI wide, eI at_, (eL false (eL false eA)) some_, eI far, eI near, eA bad_here]) (eg_r (x_m2 o2_ixL (x_m2 o2_catL (x_m2 o2_ixL (x_v (eL false (eL false eA)) some_ rfl) (x_m2 o2_subI (x_v eI at_ rfl) (x_k eI (1) rfl))) (x_lst (f := (eL true eA)) (fun t : An × An × Unit => ([t.1, t.2.1] : (List An))) (ea_cons (x_map (e := eI) (f := eA) (an eI) (fun _ => rfl) (x_v eI far rfl)) (ea_cons (x_map (e := eI) (f := eA) (an eI) (fun _ => rfl) (x_v eI near rfl)) ea_nil)) (fun _ => rfl) (fun _ => (by decide : 2 ≤ LIM)))) (x_modP 6 (by decide) (x_fdivP 4 (by decide) (x_v eI cell rfl) (x_k eI (4) rfl)) (x_k eI (6) rfl)))) (fun _ => rfl) (fun (bad_here : An) => (b_retI (eg_f (x_map (e := (eV eA)) (f := eA) (an (eV eA)) (fun _ => rfl) (x_m2 o2_catV (x_m2 o2_catV (x_sl (x_map (e := eRm) (f := (eV eA)) (fun t : Rm => ([(an eS) t.1, (an eI) t.2.1, (an eI) t.2.2.1, (an eI) t.2.2.2.1, (an eI) t.2.2.2.2.1, (an eS) t.2.2.2.2.2] : (List An))) (fun _ => rfl) (x_v eRm room rfl)) eo_no (eo_so (x_v eI at_ rfl))) (x_map (e := (e1 eA)) (f := (eV eA)) (fun t : (An) => ([t] : (List An))) (fun _ => rfl) (x_tup (f := (e1 eA)) (fun t : An × Unit => (t.1)) (ea_cons (x_v eA bad_here rfl) ea_nil) (fun _ => rfl) (fun _ => (by decide : 1 ≤ LIM))))) (x_sl (x_map (e := eRm) (f := (eV eA)) (fun t : Rm => ([(an eS) t.1, (an eI) t.2.1, (an eI) t.2.2.1, (an eI) t.2.2.2.1, (an eI) t.2.2.2.2.1, (an eS) t.2.2.2.2.2] : (List An))) (fun _ => rfl) (x_v eRm room rfl)) (eo_so (x_m2 o2_addI (x_v eI at_ rfl) (x_k eI (1) rfl))) eo_no)))) (fun u6_ => ⟨.inl rfl, rfl⟩))))))))))))
  refine run_T (n := 9) (kp := [true, true, true, true]) (m := m_lw_number) (ds := [eI cell, eRm room, eI high, eI wide]) rfl hb ?_
  first
    | (simp -implicitDefEqProofs only [t_lw_number, Option.bind_assoc, Option.bind_some, bind_same] at h ⊢; exact h)
    | (simp -implicitDefEqProofs only [t_lw_number, Option.bind_assoc, Option.bind_some, bind_same] at h; exact h)
    | exact h
    | (simp [t_lw_number] at h ⊢; exact h)
theorem T_lw_number : Tf (τ := Int × Rm × Int × Int × Unit) (fun t => [eI t.1, eRm t.2.1, eI t.2.2.1, eI t.2.2.2.1]) eA F_lw_number (fun t => t_lw_number t.1 t.2.1 t.2.2.1 t.2.2.2.1) := fun t r h => ⟨_, L_lw_number t.1 t.2.1 t.2.2.1 t.2.2.2.1 h⟩
theorem L_lw_over  (cell : Int) (room : Rm) (other : Rm) (high : Int) (wide : Int) {r : Rm} (h : t_lw_over cell room other high wide = some r) : F_lw_over [eI cell, eRm room, eRm other, eI high, eI wide] = some (eRm r, (fun _ => [eI cell, eRm room, eRm other, eI high, eI wide]) r) := by
  have hb : Bk (Qf eRm [true, true, true, true, true] (fun _ => [eI cell, eRm room, eRm other, eI high, eI wide])) m_lw_over [eI cell, eRm room, eRm other, eI high, eI wide, .gone, .gone, .gone, .gone, .gone, .gone] _ := (b_asg (fun (row : Int) => [eI cell, eRm room, eRm other, eI high, eI wide, eI row, .gone, .gone, .gone, .gone, .gone]) (eg_f (x_m2 o2_addI (x_pr (f := eI) 1 (fun t : Rm => t.2.1) (fun _ => rfl) (x_v eRm other rfl)) (x_m2 o2_mod (x_fdivP 64 (by decide) (x_v eI cell rfl) (x_k eI (64) rfl)) (x_pr (f := eI) 3 (fun t : Rm => t.2.2.2.1) (fun _ => rfl) (x_v eRm other rfl))))) (fun _ => rfl) (fun (row : Int) => (b_asg (fun (col : Int) => [eI cell, eRm room, eRm other, eI high, eI wide, eI row, eI col, .gone, .gone, .gone, .gone]) (eg_f (x_m2 o2_addI (x_pr (f := eI) 2 (fun t : Rm => t.2.2.1) (fun _ => rfl) (x_v eRm other rfl)) (x_m2 o2_mod (x_fdivP 256 (by decide) (x_v eI cell rfl) (x_k eI (256) rfl)) (x_pr (f := eI) 4 (fun t : Rm => t.2.2.2.2.1) (fun _ => rfl) (x_v eRm other rfl))))) (fun _ => rfl) (fun (col : Int) => (b_asg (fun (top : Int) => [eI cell, eRm room, eRm other, eI high, eI wide, eI row, eI col, eI top, .gone, .gone, .gone]) (eg_f (x_m2 o2_mod (x_fdivP 1024 (by decide) (x_v eI cell rfl) (x_k eI (1024) rfl)) (x_m2 o2_addI (x_v eI row rfl) (x_k eI (1) rfl)))) (fun _ => rfl) (fun (top : Int) => (b_asg (fun (tall : Int) => [eI cell, eRm room, eRm other, eI high, eI wide, eI row, eI col, eI top, eI tall, .gone, .gone]) (eg_f (x_m2 o2_addI (x_m2 o2_addI (x_m2 o2_subI (x_v eI row rfl) (x_v eI top rfl)) (x_k eI (1) rfl)) (x_m2 o2_mod (x_fdivP 4096 (by decide) (x_v eI cell rfl) (x_k eI (4096) rfl)) (x_m2 o2_subI (x_v eI high rfl) (x_v eI row rfl))))) (fun _ => rfl) (fun (tall : Int) => (b_asg (fun (left : Int) => [eI cell, eRm room, eRm other, eI high, eI wide, eI row, eI col, eI top, eI tall, eI left, .gone]) (eg_f (x_m2 o2_mod (x_fdivP 65536 (by decide) (x_v eI cell rfl) (x_k eI (65536) rfl)) (x_m2 o2_addI (x_v eI col rfl) (x_k eI (1) rfl)))) (fun _ => rfl) (fun (left : Int) => (b_asg (fun (broad : Int) => [eI cell, eRm room, eRm other, eI high, eI wide, eI row, eI col, eI top, eI tall, eI left, eI broad]) (eg_f (x_a2 o2_max (x_k eI (2) rfl) (x_m2 o2_addI (x_m2 o2_addI (x_m2 o2_subI (x_v eI col rfl) (x_v eI left rfl)) (x_k eI (1) rfl)) (x_m2 o2_mod (x_fdivP 1048576 (by decide) (x_v eI cell rfl) (x_k eI (1048576) rfl)) (x_m2 o2_subI (x_v eI wide rfl) (x_v eI col rfl)))))) (fun _ => rfl) (fun (broad : Int) => (b_ret (k := fun (u6_ : Rm) => u6_) (eg_f (x_tup (f := eRm) (fun t : Ts × Int × Int × Int × Int × Ts × Unit => (t.1, t.2.1, t.2.2.1, t.2.2.2.1, t.2.2.2.2.1, t.2.2.2.2.2.1)) (ea_cons (x_pr (f := eS) 0 (fun t : Rm => t.1) (fun _ => rfl) (x_v eRm room rfl)) (ea_cons (x_v eI top rfl) (ea_cons (x_v eI left rfl) (ea_cons (x_v eI tall rfl) (ea_cons (x_v eI broad rfl) (ea_cons (x_pr (f := eS) 5 (fun t : Rm => t.2.2.2.2.2) (fun _ => rfl) (x_v eRm room rfl)) ea_nil)))))) (fun _ => rfl) (fun _ => (by decide : 6 ≤ LIM)))) (fun u6_ => ⟨.inl rfl, rfl⟩))))))))))))))
  refine run_T (n := 11) (kp := [true, true, true, true, true]) (m := m_lw_over) (ds := [eI cell, eRm room, eRm other, eI high, eI wide]) rfl hb ?_
  first
    | (simp -implicitDefEqProofs only [t_lw_over, Option.bind_assoc, Option.bind_some, bind_same] at h ⊢; exact h)
    | (simp -implicitDefEqProofs only [t_lw_over, Option.bind_assoc, Option.bind_some, bind_same] at h; exact h)
    | exact h
    | (simp [t_lw_over] at h ⊢; exact h)
theorem T_lw_over : Tf (τ := Int × Rm × Rm × Int × Int × Unit) (fun t => [eI t.1, eRm t.2.1, eRm t.2.2.1, eI t.2.2.2.1, eI t.2.2.2.2.1]) eRm F_lw_over (fun t => t_lw_over t.1 t.2.1 t.2.2.1 t.2.2.2.1 t.2.2.2.2.1) := fun t r h => ⟨_, L_lw_over t.1 t.2.1 t.2.2.1 t.2.2.2.1 t.2.2.2.2.1 h⟩
theorem L_lw_bad  (cell : Int) (room : Rm) (ahead : (List Rm)) (high : Int) (wide : Int) {r : An} (h : t_lw_bad cell room ahead high wide = some r) : F_lw_bad [eI cell, eRm room, eRs ahead, eI high, eI wide] = some (eA r, (fun _ => [eI cell, eRm room, eRs ahead, eI high, eI wide]) r) := by
  have hb : Bk (Qf eA [true, true, true, true, true] (fun _ => [eI cell, eRm room, eRs ahead, eI high, eI wide])) m_lw_bad [eI cell, eRm room, eRs ahead, eI high, eI wide, .gone] _ := (b_asg (fun (way : Int) => [eI cell, eRm room, eRs ahead, eI high, eI wide, eI way]) (eg_f (x_modP 8 (by decide) (x_v eI cell rfl) (x_k eI (8) rfl))) (fun _ => rfl) (fun (way : Int) => (b_ifT (et_b (x_m2 (o2_eq (e' := eI) (by decide)) (x_v eI way rfl) (x_k eI (0) rfl))) (b_retI (eg_r (x_m2 o2_ixL (x_lst (f := (eL true eA)) (fun t : An × An × An × An × An × Unit => ([t.1, t.2.1, t.2.2.1, t.2.2.2.1, t.2.2.2.2.1] : (List An))) (ea_cons (x_map (e := eU) (f := eA) (an eU) (fun _ => rfl) (x_k eU () rfl)) (ea_cons (x_map (e := (eL false eA)) (f := eA) (an (eL false eA)) (fun _ => rfl) (x_cold (x_a1 o1_listV (x_map (e := eRm) (f := (eV eA)) (fun t : Rm => ([(an eS) t.1, (an eI) t.2.1, (an eI) t.2.2.1, (an eI) t.2.2.2.1, (an eI) t.2.2.2.2.1, (an eS) t.2.2.2.2.2] : (List An))) (fun _ => rfl) (x_v eRm room rfl))))) (ea_cons (x_map (e := eS) (f := eA) (an eS) (fun _ => rfl) (x_k eS ['r', 'o', 'o', 'm'] rfl)) (ea_cons (x_map (e := eI) (f := eA) (an eI) (fun _ => rfl) (x_k eI (7) rfl)) (ea_cons (x_map (e := (e0 )) (f := eA) (an (e0 )) (fun _ => rfl) (x_tup (f := (e0 )) (fun t : Unit => ()) ea_nil (fun _ => rfl) (fun _ => (by decide : 0 ≤ LIM)))) ea_nil))))) (fun _ => rfl) (fun _ => (by decide : 5 ≤ LIM))) (x_modP 5 (by decide) (x_fdivP 8 (by decide) (x_v eI cell rfl) (x_k eI (8) rfl)) (x_k eI (5) rfl)))) (fun u1_ => ⟨rfl, ⟨.inl rfl, rfl⟩⟩)) (b_ifT (et_b (x_m2 (o2_eq (e' := eI) (by decide)) (x_v eI way rfl) (x_k eI (1) rfl))) (b_retI (eg_r (x_m2 o2_ixL (x_lst (f := (eL true eA)) (fun t : An × An × Unit => ([t.1, t.2.1] : (List An))) (ea_cons (x_map (e := (e5 eS eI eI eI eI)) (f := eA) (an (e5 eS eI eI eI eI)) (fun _ => rfl) (x_slK (f := (e5 eS eI eI eI eI)) none (some (5)) (fun t : Rm => (t.1, t.2.1, t.2.2.1, t.2.2.2.1, t.2.2.2.2.1)) (fun _ => rfl) (fun _ => rfl) (x_v eRm room rfl) rfl rfl)) (ea_cons (x_map (e := (e7 eS eI eI eI eI eS eI)) (f := eA) (an (e7 eS eI eI eI eI eS eI)) (fun _ => rfl) (x_m2 (o2_catP (e := eRm) (e' := (e1 eI)) (f := (e7 eS eI eI eI eI eS eI)) (fun (t : Rm) (u : (Int)) => (t.1, t.2.1, t.2.2.1, t.2.2.2.1, t.2.2.2.2.1, t.2.2.2.2.2, u)) (fun _ _ => ⟨_, _, rfl, rfl, rfl, Nat.le_of_ble_eq_true rfl⟩)) (x_v eRm room rfl) (x_tup (f := (e1 eI)) (fun t : Int × Unit => (t.1)) (ea_cons (x_k eI (0) rfl) ea_nil) (fun _ => rfl) (fun _ => (by decide : 1 ≤ LIM))))) ea_nil)) (fun _ => rfl) (fun _ => (by decide : 2 ≤ LIM))) (x_modP 2 (by decide) (x_fdivP 8 (by decide) (x_v eI cell rfl) (x_k eI (8) rfl)) (x_k eI (2) rfl)))) (fun u2_ => ⟨rfl, ⟨.inl rfl, rfl⟩⟩)) (b_ifT (et_b (x_m2 (o2_eq (e' := eI) (by decide)) (x_v eI way rfl) (x_k eI (2) rfl))) (b_retI (eg_f (x_map (e := (e6 eA eI eI eI eI eS)) (f := eA) (an (e6 eA eI eI eI eI eS)) (fun _ => rfl) (x_m2 (o2_catP (e := (e1 eA)) (e' := (e5 eI eI eI eI eS)) (f := (e6 eA eI eI eI eI eS)) (fun (t : (An)) (u : (Int × Int × Int × Int × Ts)) => (t, u.1, u.2.1, u.2.2.1, u.2.2.2.1, u.2.2.2.2)) (fun _ _ => ⟨_, _, rfl, rfl, rfl, Nat.le_of_ble_eq_true rfl⟩)) (x_tup (f := (e1 eA)) (fun t : An × Unit => (t.1)) (ea_cons (x_m2 o2_ixL (x_lst (f := (eL true eA)) (fun t : An × An × An × An × An × An × An × Unit => ([t.1, t.2.1, t.2.2.1, t.2.2.2.1, t.2.2.2.2.1, t.2.2.2.2.2.1, t.2.2.2.2.2.2.1] : (List An))) (ea_cons (x_map (e := eU) (f := eA) (an eU) (fun _ => rfl) (x_k eU () rfl)) (ea_cons (x_map (e := eS) (f := eA) (an eS) (fun _ => rfl) (x_k eS ([] : Ts) rfl)) (ea_cons (x_map (e := eS) (f := eA) (an eS) (fun _ => rfl) (x_k eS ['A'] rfl)) (ea_cons (x_map (e := eS) (f := eA) (an eS) (fun _ => rfl) (x_k eS ['a', 'b', 'c', 'd', 'e', 'f', 'g', 'h', 'i'] rfl)) (ea_cons (x_map (e := eS) (f := eA) (an eS) (fun _ => rfl) (x_k eS ['a', ' ', 'b'] rfl)) (ea_cons (x_map (e := eI) (f := eA) (an eI) (fun _ => rfl) (x_k eI (1) rfl)) (ea_cons (x_map (e := (eL false eS)) (f := eA) (an (eL false eS)) (fun _ => rfl) (x_cold (x_lst (f := (eL true eS)) (fun t : Ts × Unit => ([t.1] : (List Ts))) (ea_cons (x_k eS ['a'] rfl) ea_nil) (fun _ => rfl) (fun _ => (by decide : 1 ≤ LIM))))) ea_nil))))))) (fun _ => rfl) (fun _ => (by decide : 7 ≤ LIM))) (x_modP 7 (by decide) (x_fdivP 8 (by decide) (x_v eI cell rfl) (x_k eI (8) rfl)) (x_k eI (7) rfl))) ea_nil) (fun _ => rfl) (fun _ => (by decide : 1 ≤ LIM))) (x_slK (f := (e5 eI eI eI eI eS)) (some (1)) none (fun t : Rm => (t.2.1, t.2.2.1, t.2.2.2.1, t.2.2.2.2.1, t.2.2.2.2.2)) (fun _ => rfl) (fun _ => rfl) (x_v eRm room rfl) rfl rfl)))) (fun u6_ => ⟨rfl, ⟨.inl rfl, rfl⟩⟩)) (b_ifT (et_b (x_m2 (o2_eq (e' := eI) (by decide)) (x_v eI way rfl) (x_k eI (3) rfl))) (b_retI (eg_f (x_map (e := (e6 eS eI eI eI eI eA)) (f := eA) (an (e6 eS eI eI eI eI eA)) (fun _ => rfl) (x_m2 (o2_catP (e := (e5 eS eI eI eI eI)) (e' := (e1 eA)) (f := (e6 eS eI eI eI eI eA)) (fun (t : (Ts × Int × Int × Int × Int)) (u : (An)) => (t.1, t.2.1, t.2.2.1, t.2.2.2.1, t.2.2.2.2, u)) (fun _ _ => ⟨_, _, rfl, rfl, rfl, Nat.le_of_ble_eq_true rfl⟩)) (x_slK (f := (e5 eS eI eI eI eI)) none (some (5)) (fun t : Rm => (t.1, t.2.1, t.2.2.1, t.2.2.2.1, t.2.2.2.2.1)) (fun _ => rfl) (fun _ => rfl) (x_v eRm room rfl) rfl rfl) (x_tup (f := (e1 eA)) (fun t : An × Unit => (t.1)) (ea_cons (x_m2 o2_ixL (x_lst (f := (eL true eA)) (fun t : An × An × An × An × An × An × Unit => ([t.1, t.2.1, t.2.2.1, t.2.2.2.1, t.2.2.2.2.1, t.2.2.2.2.2.1] : (List An))) (ea_cons (x_map (e := eU) (f := eA) (an eU) (fun _ => rfl) (x_k eU () rfl)) (ea_cons (x_map (e := eS) (f := eA) (an eS) (fun _ => rfl) (x_k eS ([] : Ts) rfl)) (ea_cons (x_map (e := eS) (f := eA) (an eS) (fun _ => rfl) (x_k eS ['e', 'v', 'e', 'n', ' '] rfl)) (ea_cons (x_map (e := eS) (f := eA) (an eS) (fun _ => rfl) (x_k eS ['c', 'e', 'l', 'l', 's', ','] rfl)) (ea_cons (x_map (e := eI) (f := eA) (an eI) (fun _ => rfl) (x_k eI (0) rfl)) (ea_cons (x_map (e := (e1 eS)) (f := eA) (an (e1 eS)) (fun _ => rfl) (x_tup (f := (e1 eS)) (fun t : Ts × Unit => (t.1)) (ea_cons (x_k eS ['c', 'u', 't'] rfl) ea_nil) (fun _ => rfl) (fun _ => (by decide : 1 ≤ LIM)))) ea_nil)))))) (fun _ => rfl) (fun _ => (by decide : 6 ≤ LIM))) (x_modP 6 (by decide) (x_fdivP 8 (by decide) (x_v eI cell rfl) (x_k eI (8) rfl)) (x_k eI (6) rfl))) ea_nil) (fun _ => rfl) (fun _ => (by decide : 1 ≤ LIM)))))) (fun u10_ => ⟨rfl, ⟨.inl rfl, rfl⟩⟩)) (b_ifT (et_andT (et_b (x_m2 (o2_eq (e' := eI) (by decide)) (x_v eI way rfl) (x_k eI (4) rfl))) (et_b (x_m2 (o2_ne (e' := eRs) (by decide)) (x_v eRs ahead rfl) (x_lst (f := (eL true eRm)) (fun t : Unit => ([] : (List Rm))) ea_nil (fun _ => rfl) (fun _ => (by decide : 0 ≤ LIM)))))) (b_retI (eg_f (x_map (e := eRm) (f := eA) (an eRm) (fun _ => rfl) (x_m2 (o2_catP (e := (e1 eS)) (e' := (e5 eI eI eI eI eS)) (f := eRm) (fun (t : (Ts)) (u : (Int × Int × Int × Int × Ts)) => (t, u.1, u.2.1, u.2.2.1, u.2.2.2.1, u.2.2.2.2)) (fun _ _ => ⟨_, _, rfl, rfl, rfl, Nat.le_of_ble_eq_true rfl⟩)) (x_tup (f := (e1 eS)) (fun t : Ts × Unit => (t.1)) (ea_cons (x_pr (f := eS) 0 (fun t : Rm => t.1) (fun _ => rfl) (x_m2 o2_ixL (x_v eRs ahead rfl) (x_m2 o2_mod (x_fdivP 8 (by decide) (x_v eI cell rfl) (x_k eI (8) rfl)) (x_a1 o1_lenL (x_v eRs ahead rfl))))) ea_nil) (fun _ => rfl) (fun _ => (by decide : 1 ≤ LIM))) (x_slK (f := (e5 eI eI eI eI eS)) (some (1)) none (fun t : Rm => (t.2.1, t.2.2.1, t.2.2.2.1, t.2.2.2.2.1, t.2.2.2.2.2)) (fun _ => rfl) (fun _ => rfl) (x_v eRm room rfl) rfl rfl)))) (fun u16_ => ⟨rfl, ⟨.inl rfl, rfl⟩⟩)) (b_ifT (et_andT (et_b (x_m2 (o2_eq (e' := eI) (by decide)) (x_v eI way rfl) (x_k eI (5) rfl))) (et_b (x_m2 (o2_ne (e' := eRs) (by decide)) (x_v eRs ahead rfl) (x_lst (f := (eL true eRm)) (fun t : Unit => ([] : (List Rm))) ea_nil (fun _ => rfl) (fun _ => (by decide : 0 ≤ LIM)))))) (b_retI (eg_f (x_map (e := eRm) (f := eA) (an eRm) (fun _ => rfl) (x_call T_lw_over (ea_cons (x_v eI cell rfl) (ea_cons (x_v eRm room rfl) (ea_cons (x_m2 o2_ixL (x_v eRs ahead rfl) (x_m2 o2_mod (x_fdivP 8 (by decide) (x_v eI cell rfl) (x_k eI (8) rfl)) (x_a1 o1_lenL (x_v eRs ahead rfl)))) (ea_cons (x_v eI high rfl) (ea_cons (x_v eI wide rfl) ea_nil)))))))) (fun u20_ => ⟨rfl, ⟨.inl rfl, rfl⟩⟩)) (b_retI (eg_f (x_call T_lw_number (ea_cons (x_fdivP 8 (by decide) (x_v eI cell rfl) (x_k eI (8) rfl)) (ea_cons (x_v eRm room rfl) (ea_cons (x_v eI high rfl) (ea_cons (x_v eI wide rfl) ea_nil)))))) (fun u21_ => ⟨.inl rfl, rfl⟩))))))))))
  refine run_T (n := 6) (kp := [true, true, true, true, true]) (m := m_lw_bad) (ds := [eI cell, eRm room, eRs ahead, eI high, eI wide]) rfl hb ?_
  first
    | (simp -implicitDefEqProofs only [t_lw_bad, Option.bind_assoc, Option.bind_some, bind_same] at h ⊢; exact h)
    | (simp -implicitDefEqProofs only [t_lw_bad, Option.bind_assoc, Option.bind_some, bind_same] at h; exact h)
    | exact h
    | (simp [t_lw_bad] at h ⊢; exact h)
theorem T_lw_bad : Tf (τ := Int × Rm × (List Rm) × Int × Int × Unit) (fun t => [eI t.1, eRm t.2.1, eRs t.2.2.1, eI t.2.2.2.1, eI t.2.2.2.2.1]) eA F_lw_bad (fun t => t_lw_bad t.1 t.2.1 t.2.2.1 t.2.2.2.1 t.2.2.2.2.1) := fun t r h => ⟨_, L_lw_bad t.1 t.2.1 t.2.2.1 t.2.2.2.1 t.2.2.2.2.1 h⟩
theorem L_lw_refused  (high : An) (wide : An) (rooms : An) (due : (Ts × An × Bool)) {r : Bool} (h : t_lw_refused high wide rooms due = some r) : F_lw_refused [eA high, eA wide, eA rooms, (e3 eS eA eB) due] = some (eB r, (fun _ => [eA high, eA wide, eA rooms, (e3 eS eA eB) due]) r) := by
  have hb : Bk (Qf eB [true, true, true, true] (fun _ => [eA high, eA wide, eA rooms, (e3 eS eA eB) due])) m_lw_refused [eA high, eA wide, eA rooms, (e3 eS eA eB) due, .gone, .gone, .gone] _ := (b_asg (fun (found : (Option (Ts × An × Bool))) => [eA high, eA wide, eA rooms, (e3 eS eA eB) due, (eO (e3 eS eA eB)) found, .gone, .gone]) (eg_f (x_map (e := eU) (f := (eO (e3 eS eA eB))) (fun _ => none) (fun _ => rfl) (x_k eU () rfl))) (fun _ => rfl) (fun (found : (Option (Ts × An × Bool))) => (b_seqQ (fun (s1_ : (Option (Ts × An × Bool))) => [eA high, eA wide, eA rooms, (e3 eS eA eB) due, (eO (e3 eS eA eB)) s1_, .gone, .gone]) (b_tryMs (fun (s2_ : Unit) => [eA high, eA wide, eA rooms, (e3 eS eA eB) due, (eO (e3 eS eA eB)) found, .gone, .gone]) (b_exprE (f := (fun (r3_ : (Exn ⊕ OPlan)) (x5_ : Exn) => (.inl (x5_, ()) : ((Exn × Unit) ⊕ ((Option (Ts × An × Bool)) ⊕ Bool))))) (x_mkX T_Plan_init__X1 (ea_cons (x_v eA high rfl) (ea_cons (x_v eA wide rfl) (ea_cons (x_v eA rooms rfl) ea_nil)))).eg (fun (r3_ : (Exn ⊕ OPlan)) (y4_ : OPlan) => (b_nil (t := (.inr (.inl found : ((Option (Ts × An × Bool)) ⊕ Bool)) : ((Exn × Unit) ⊕ ((Option (Ts × An × Bool)) ⊕ Bool)))) ⟨rfl, ⟨rfl, rfl⟩⟩)) (fun (r3_ : (Exn ⊕ OPlan)) (x5_ : Exn) => ⟨rfl, rfl⟩)) (fun _ => rfl) (fun _ => rfl) (fun (s2_ : Unit) (e6_ : Exn) => (hb_cons (b_asg (fun (found_2 : (Option (Ts × An × Bool))) => [eA high, eA wide, eA rooms, (e3 eS eA eB) due, (eO (e3 eS eA eB)) found_2, .gone, .gone]) (eg_f (x_map (e := (e3 eS eA eB)) (f := (eO (e3 eS eA eB))) some (fun _ => rfl) (x_tup (f := (e3 eS eA eB)) (fun t : Ts × An × Bool × Unit => (t.1, t.2.1, t.2.2.1)) (ea_cons (x_k eS ['s', 'i', 'z', 'e'] rfl) (ea_cons (x_map (e := eI) (f := eA) (an eI) (fun _ => rfl) (x_k eI (0) rfl)) (ea_cons (x_andT (x_not (x_k eB (subX e6_.1 5) rfl)) (x_k eB (subX e6_.1 0) rfl)) ea_nil))) (fun _ => rfl) (fun _ => (by decide : 3 ≤ LIM))))) (fun _ => rfl) (fun (found_2 : (Option (Ts × An × Bool))) => (b_nil (t := (.inl found_2 : ((Option (Ts × An × Bool)) ⊕ Bool))) ⟨rfl, ⟨rfl, rfl⟩⟩))) (hb_cons (b_asg (fun (good_here : Bool) => [eA high, eA wide, eA rooms, (e3 eS eA eB) due, (eO (e3 eS eA eB)) found, .gone, eB good_here]) (eg_f (x_and (x_k eB (subX e6_.1 0) rfl) (x_and (x_k eB true rfl) (x_not (x_isiA x_fldX))))) (fun _ => rfl) (fun (good_here : Bool) => (b_asg (fun (found_2 : (Option (Ts × An × Bool))) => [eA high, eA wide, eA rooms, (e3 eS eA eB) due, (eO (e3 eS eA eB)) found_2, .gone, eB good_here]) (eg_f (x_map (e := (e3 eS eA eB)) (f := (eO (e3 eS eA eB))) some (fun _ => rfl) (x_tup (f := (e3 eS eA eB)) (fun t : Ts × An × Bool × Unit => (t.1, t.2.1, t.2.2.1)) (ea_cons (x_k eS ['r', 'o', 'o', 'm'] rfl) (ea_cons x_fldX (ea_cons (x_andT (x_v eB good_here rfl) (x_not (x_k eB (([6, 2, 1, 3] : List Nat).any (subX e6_.1)) rfl))) ea_nil))) (fun _ => rfl) (fun _ => (by decide : 3 ≤ LIM))))) (fun _ => rfl) (fun (found_2 : (Option (Ts × An × Bool))) => (b_nil (t := (.inl found_2 : ((Option (Ts × An × Bool)) ⊕ Bool))) ⟨rfl, ⟨rfl, rfl⟩⟩))))) hb_nil)))) (fun (s1_ : (Option (Ts × An × Bool))) => (b_retI (eg_f (x_m2 (o2_eqG (e := (eO (e3 eS eA eB))) (e' := (eO (e3 eS eA eB)))) (x_v (eO (e3 eS eA eB)) s1_ rfl) (x_map (e := (e3 eS eA eB)) (f := (eO (e3 eS eA eB))) some (fun _ => rfl) (x_v (e3 eS eA eB) due rfl)))) (fun u11_ => ⟨.inl rfl, rfl⟩))))))
  refine run_T (n := 7) (kp := [true, true, true, true]) (m := m_lw_refused) (ds := [eA high, eA wide, eA rooms, (e3 eS eA eB) due]) rfl hb ?_
  first
    | (simp -implicitDefEqProofs only [t_lw_refused, Option.bind_assoc, Option.bind_some, bind_same] at h ⊢; exact h)
    | (simp -implicitDefEqProofs only [t_lw_refused, Option.bind_assoc, Option.bind_some, bind_same] at h; exact h)
    | exact h
    | (simp [t_lw_refused] at h ⊢; exact h)
theorem T_lw_refused : Tf (τ := An × An × An × (Ts × An × Bool) × Unit) (fun t => [eA t.1, eA t.2.1, eA t.2.2.1, (e3 eS eA eB) t.2.2.2.1]) eB F_lw_refused (fun t => t_lw_refused t.1 t.2.1 t.2.2.1 t.2.2.2.1) := fun t r h => ⟨_, L_lw_refused t.1 t.2.1 t.2.2.1 t.2.2.2.1 h⟩
theorem L_lw_taken  (high : Int) (wide : Int) (rooms : (List Rm)) {r : Bool} (h : t_lw_taken_b high wide rooms = some r) : F_lw_taken [eI high, eI wide, eRs rooms] = some (eB r, (fun _ => [eI high, eI wide, eRs rooms]) r) := by
  have hb : Bk (Qf eB [true, true, true] (fun _ => [eI high, eI wide, eRs rooms])) m_lw_taken [eI high, eI wide, eRs rooms, .gone] _ := (b_retI (eg_f (x_m2 (o2_eq (e' := (eL false eS)) (by decide)) (x_look (fun x => rfl) T_Plan_room_names (x_cold (x_mk T_Plan_init (ea_cons (x_v eI high rfl) (ea_cons (x_v eI wide rfl) (ea_cons (x_cold (x_a1 o1_listL (x_v eRs rooms rfl))) ea_nil))))) ea_nil) (x_comp (fun (room : Rm) => [eI high, eI wide, eRs rooms, eRm room]) (ei_itV (x_v eRs rooms rfl)) (fun _ => rfl) (fun (room : Rm) => et_yes) (fun (room : Rm) => (x_pr (f := eS) 0 (fun t : Rm => t.1) (fun _ => rfl) (x_v eRm room rfl)))))) (fun u5_ => ⟨.inl rfl, rfl⟩))
  refine run_T (n := 4) (kp := [true, true, true]) (m := m_lw_taken) (ds := [eI high, eI wide, eRs rooms]) rfl hb ?_
  first
    | (simp -implicitDefEqProofs only [t_lw_taken_b, Option.bind_assoc, Option.bind_some, bind_same] at h ⊢; exact h)
    | (simp -implicitDefEqProofs only [t_lw_taken_b, Option.bind_assoc, Option.bind_some, bind_same] at h; exact h)
    | exact h
    | (simp [t_lw_taken_b] at h ⊢; exact h)
theorem T_lw_taken : Tf (τ := Int × Int × (List Rm) × Unit) (fun t => [eI t.1, eI t.2.1, eRs t.2.2.1]) eB F_lw_taken (fun t => t_lw_taken_b t.1 t.2.1 t.2.2.1) := fun t r h => ⟨_, L_lw_taken t.1 t.2.1 t.2.2.1 h⟩
theorem L_lw_edges  (high : Int) (wide : Int) (room : Rm) {r : Bool} (h : t_lw_edges high wide room = some r) : F_lw_edges [eI high, eI wide, eRm room] = some (eB r, (fun _ => [eI high, eI wide, eRm room]) r) := by
  have hb : Bk (Qf eB [true, true, true] (fun _ => [eI high, eI wide, eRm room])) m_lw_edges [eI high, eI wide, eRm room, .gone, .gone, .gone, .gone, .gone, .gone, .gone, .gone] _ := (b_asg (fun (u1_ : Rm) => [eI high, eI wide, eRm room, eS u1_.1, eI u1_.2.1, eI u1_.2.2.1, eI u1_.2.2.2.1, eI u1_.2.2.2.2.1, eS u1_.2.2.2.2.2, .gone, .gone]) (eg_r (x_v eRm room rfl)) (fun _ => rfl) (fun (u1_ : Rm) => (b_asg (fun (some_ : (List (Int × Int × Int × Int))) => [eI high, eI wide, eRm room, eS u1_.1, eI u1_.2.1, eI u1_.2.2.1, eI u1_.2.2.2.1, eI u1_.2.2.2.2.1, eS u1_.2.2.2.2.2, (eL false (e4 eI eI eI eI)) some_, .gone]) (eg_f (x_cold (x_lst (f := (eL true (e4 eI eI eI eI))) (fun t : (Int × Int × Int × Int) × (Int × Int × Int × Int) × Unit => ([t.1, t.2.1] : (List (Int × Int × Int × Int)))) (ea_cons (x_tup (f := (e4 eI eI eI eI)) (fun t : Int × Int × Int × Int × Unit => (t.1, t.2.1, t.2.2.1, t.2.2.2.1)) (ea_cons (x_m2 o2_subI (x_v eI high rfl) (x_v eI u1_.2.2.2.1 rfl)) (ea_cons (x_v eI u1_.2.2.1 rfl) (ea_cons (x_v eI u1_.2.2.2.1 rfl) (ea_cons (x_v eI u1_.2.2.2.2.1 rfl) ea_nil)))) (fun _ => rfl) (fun _ => (by decide : 4 ≤ LIM))) (ea_cons (x_tup (f := (e4 eI eI eI eI)) (fun t : Int × Int × Int × Int × Unit => (t.1, t.2.1, t.2.2.1, t.2.2.2.1)) (ea_cons (x_v eI u1_.2.1 rfl) (ea_cons (x_m2 o2_subI (x_v eI wide rfl) (x_v eI u1_.2.2.2.2.1 rfl)) (ea_cons (x_v eI u1_.2.2.2.1 rfl) (ea_cons (x_v eI u1_.2.2.2.2.1 rfl) ea_nil)))) (fun _ => rfl) (fun _ => (by decide : 4 ≤ LIM))) ea_nil)) (fun _ => rfl) (fun _ => (by decide : 2 ≤ LIM))))) (fun _ => rfl) (fun (some_ : (List (Int × Int × Int × Int))) => (b_asg (fun (some__2 : (List (Int × Int × Int × Int))) => [eI high, eI wide, eRm room, eS u1_.1, eI u1_.2.1, eI u1_.2.2.1, eI u1_.2.2.2.1, eI u1_.2.2.2.2.1, eS u1_.2.2.2.2.2, (eL false (e4 eI eI eI eI)) some__2, .gone]) (eg_f (x_cold (x_m2 o2_catL (x_v (eL false (e4 eI eI eI eI)) some_ rfl) (x_lst (f := (eL true (e4 eI eI eI eI))) (fun t : (Int × Int × Int × Int) × (Int × Int × Int × Int) × (Int × Int × Int × Int) × Unit => ([t.1, t.2.1, t.2.2.1] : (List (Int × Int × Int × Int)))) (ea_cons (x_tup (f := (e4 eI eI eI eI)) (fun t : Int × Int × Int × Int × Unit => (t.1, t.2.1, t.2.2.1, t.2.2.2.1)) (ea_cons (x_v eI u1_.2.1 rfl) (ea_cons (x_v eI u1_.2.2.1 rfl) (ea_cons (x_m2 o2_subI (x_v eI high rfl) (x_v eI u1_.2.1 rfl)) (ea_cons (x_v eI u1_.2.2.2.2.1 rfl) ea_nil)))) (fun _ => rfl) (fun _ => (by decide : 4 ≤ LIM))) (ea_cons (x_tup (f := (e4 eI eI eI eI)) (fun t : Int × Int × Int × Int × Unit => (t.1, t.2.1, t.2.2.1, t.2.2.2.1)) (ea_cons (x_v eI u1_.2.1 rfl) (ea_cons (x_v eI u1_.2.2.1 rfl) (ea_cons (x_v eI u1_.2.2.2.1 rfl) (ea_cons (x_m2 o2_subI (x_v eI wide rfl) (x_v eI u1_.2.2.1 rfl)) ea_nil)))) (fun _ => rfl) (fun _ => (by decide : 4 ≤ LIM))) (ea_cons (x_tup (f := (e4 eI eI eI eI)) (fun t : Int × Int × Int × Int × Unit => (t.1, t.2.1, t.2.2.1, t.2.2.2.1)) (ea_cons (x_k eI (0) rfl) (ea_cons (x_k eI (0) rfl) (ea_cons (x_v eI high rfl) (ea_cons (x_v eI wide rfl) ea_nil)))) (fun _ => rfl) (fun _ => (by decide : 4 ≤ LIM))) ea_nil))) (fun _ => rfl) (fun _ => (by decide : 3 ≤ LIM)))))) (fun _ => rfl) (fun (some__2 : (List (Int × Int × Int × Int))) => (b_retI (eg_f (x_a1 o1_all (x_comp (fun (one : (Int × Int × Int × Int)) => [eI high, eI wide, eRm room, eS u1_.1, eI u1_.2.1, eI u1_.2.2.1, eI u1_.2.2.2.1, eI u1_.2.2.2.2.1, eS u1_.2.2.2.2.2, (eL false (e4 eI eI eI eI)) some__2, (e4 eI eI eI eI) one]) (ei_itV (x_v (eL false (e4 eI eI eI eI)) some__2 rfl)) (fun _ => rfl) (fun (one : (Int × Int × Int × Int)) => et_yes) (fun (one : (Int × Int × Int × Int)) => (x_call T_lw_taken (ea_cons (x_v eI high rfl) (ea_cons (x_v eI wide rfl) (ea_cons (x_cold (x_lst (f := (eL true eRm)) (fun t : Rm × Unit => ([t.1] : (List Rm))) (ea_cons (x_m2 (o2_catP (e := (e5 eS eI eI eI eI)) (e' := (e1 eS)) (f := eRm) (fun (t : (Ts × Int × Int × Int × Int)) (u : (Ts)) => (t.1, t.2.1, t.2.2.1, t.2.2.2.1, t.2.2.2.2, u)) (fun _ _ => ⟨_, _, rfl, rfl, rfl, Nat.le_of_ble_eq_true rfl⟩)) (x_m2 (o2_catP (e := (e1 eS)) (e' := (e4 eI eI eI eI)) (f := (e5 eS eI eI eI eI)) (fun (t : (Ts)) (u : (Int × Int × Int × Int)) => (t, u.1, u.2.1, u.2.2.1, u.2.2.2)) (fun _ _ => ⟨_, _, rfl, rfl, rfl, Nat.le_of_ble_eq_true rfl⟩)) (x_tup (f := (e1 eS)) (fun t : Ts × Unit => (t.1)) (ea_cons (x_v eS u1_.1 rfl) ea_nil) (fun _ => rfl) (fun _ => (by decide : 1 ≤ LIM))) (x_v (e4 eI eI eI eI) one rfl)) (x_tup (f := (e1 eS)) (fun t : Ts × Unit => (t.1)) (ea_cons (x_v eS u1_.2.2.2.2.2 rfl) ea_nil) (fun _ => rfl) (fun _ => (by decide : 1 ≤ LIM)))) ea_nil) (fun _ => rfl) (fun _ => (by decide : 1 ≤ LIM)))) ea_nil)))))))) (fun u4_ => ⟨.inl rfl, rfl⟩))))))))
  refine run_T (n := 11) (kp := [true, true, true]) (m := m_lw_edges) (ds := [eI high, eI wide, eRm room]) rfl hb ?_
  first
    | (simp -implicitDefEqProofs only [t_lw_edges, Option.bind_assoc, Option.bind_some, bind_same] at h ⊢; exact h)
    | (simp -implicitDefEqProofs only [t_lw_edges, Option.bind_assoc, Option.bind_some, bind_same] at h; exact h)
    | exact h
    | (simp [t_lw_edges] at h ⊢; exact h)
theorem T_lw_edges : Tf (τ := Int × Int × Rm × Unit) (fun t => [eI t.1, eI t.2.1, eRm t.2.2.1]) eB F_lw_edges (fun t => t_lw_edges t.1 t.2.1 t.2.2.1) := fun t r h => ⟨_, L_lw_edges t.1 t.2.1 t.2.2.1 h⟩
theorem L_lw_sizes  (script : (List Int)) (high : Int) (wide : Int) (rooms : (List Rm)) {r : Bool} (h : t_lw_sizes script high wide rooms = some r) : F_lw_sizes [eC script, eI high, eI wide, eRs rooms] = some (eB r, (fun _ => [eC script, eI high, eI wide, eRs rooms]) r) := by
  have hb : Bk (Qf eB [true, true, true, true] (fun _ => [eC script, eI high, eI wide, eRs rooms])) m_lw_sizes [eC script, eI high, eI wide, eRs rooms, .gone, .gone, .gone] _ := (b_asg (fun (cell : Int) => [eC script, eI high, eI wide, eRs rooms, eI cell, .gone, .gone]) (eg_f (x_call T_lw_cell_at (ea_cons (x_v eC script rfl) (ea_cons (x_k eI (3) rfl) ea_nil)))) (fun _ => rfl) (fun (cell : Int) => (b_asg (fun (some_ : An) => [eC script, eI high, eI wide, eRs rooms, eI cell, eA some_, .gone]) (eg_r (x_m2 o2_ixL (x_lst (f := (eL true eA)) (fun t : An × An × An × An × Unit => ([t.1, t.2.1, t.2.2.1, t.2.2.2.1] : (List An))) (ea_cons (x_map (e := eRs) (f := eA) (an eRs) (fun _ => rfl) (x_v eRs rooms rfl)) (ea_cons (x_map (e := (eL false eU)) (f := eA) (an (eL false eU)) (fun _ => rfl) (x_cold (x_lst (f := (eL true eU)) (fun t : Unit => ([] : (List Unit))) ea_nil (fun _ => rfl) (fun _ => (by decide : 0 ≤ LIM))))) (ea_cons (x_map (e := eU) (f := eA) (an eU) (fun _ => rfl) (x_k eU () rfl)) (ea_cons (x_map (e := (eL false eU)) (f := eA) (an (eL false eU)) (fun _ => rfl) (x_cold (x_lst (f := (eL true eU)) (fun t : Unit × Unit => ([t.1] : (List Unit))) (ea_cons (x_k eU () rfl) ea_nil) (fun _ => rfl) (fun _ => (by decide : 1 ≤ LIM))))) ea_nil)))) (fun _ => rfl) (fun _ => (by decide : 4 ≤ LIM))) (x_modP 4 (by decide) (x_fdivP 16 (by decide) (x_v eI cell rfl) (x_k eI (16) rfl)) (x_k eI (4) rfl)))) (fun _ => rfl) (fun (some_ : An) => (b_ifT (et_b (x_m2 (o2_eq (e' := eI) (by decide)) (x_modP 2 (by decide) (x_v eI cell rfl) (x_k eI (2) rfl)) (x_k eI (0) rfl))) (b_retI (eg_f (x_call T_lw_refused (ea_cons (x_m2 o2_ixL (x_lst (f := (eL true eA)) (fun t : An × An × An × An × An × An × An × An × Unit => ([t.1, t.2.1, t.2.2.1, t.2.2.2.1, t.2.2.2.2.1, t.2.2.2.2.2.1, t.2.2.2.2.2.2.1, t.2.2.2.2.2.2.2.1] : (List An))) (ea_cons (x_map (e := eI) (f := eA) (an eI) (fun _ => rfl) (x_k eI (0) rfl)) (ea_cons (x_map (e := eI) (f := eA) (an eI) (fun _ => rfl) (x_k eI (13) rfl)) (ea_cons (x_map (e := eI) (f := eA) (an eI) (fun _ => rfl) (x_m1 o1_neg (x_k eI (1) rfl))) (ea_cons (x_map (e := eU) (f := eA) (an eU) (fun _ => rfl) (x_k eU () rfl)) (ea_cons (x_map (e := eB) (f := eA) (an eB) (fun _ => rfl) (x_k eB true rfl)) (ea_cons (x_map (e := eS) (f := eA) (an eS) (fun _ => rfl) (x_k eS ['5'] rfl)) (ea_cons (x_map (e := eI) (f := eA) (an eI) (fun _ => rfl) (x_pow 10 30 1000000000000000000000000000000 (by decide))) (ea_cons (x_map (e := (e1 eI)) (f := eA) (an (e1 eI)) (fun _ => rfl) (x_tup (f := (e1 eI)) (fun t : Int × Unit => (t.1)) (ea_cons (x_k eI (5) rfl) ea_nil) (fun _ => rfl) (fun _ => (by decide : 1 ≤ LIM)))) ea_nil)))))))) (fun _ => rfl) (fun _ => (by decide : 8 ≤ LIM))) (x_modP 8 (by decide) (x_fdivP 2 (by decide) (x_v eI cell rfl) (x_k eI (2) rfl)) (x_k eI (8) rfl))) (ea_cons (x_map (e := eI) (f := eA) (an eI) (fun _ => rfl) (x_v eI wide rfl)) (ea_cons (x_v eA some_ rfl) (ea_cons (x_tup (f := (e3 eS eA eB)) (fun t : Ts × An × Bool × Unit => (t.1, t.2.1, t.2.2.1)) (ea_cons (x_k eS ['s', 'i', 'z', 'e'] rfl) (ea_cons (x_map (e := eI) (f := eA) (an eI) (fun _ => rfl) (x_k eI (0) rfl)) (ea_cons (x_k eB true rfl) ea_nil))) (fun _ => rfl) (fun _ => (by decide : 3 ≤ LIM))) ea_nil)))))) (fun u2_ => ⟨rfl, ⟨.inl rfl, rfl⟩⟩)) (b_asg (fun (bad_here : An) => [eC script, eI high, eI wide, eRs rooms, eI cell, eA some_, eA bad_here]) (eg_r (x_m2 o2_ixL (x_lst (f := (eL true eA)) (fun t : An × An × An × An × An × An × An × An × Unit => ([t.1, t.2.1, t.2.2.1, t.2.2.2.1, t.2.2.2.2.1, t.2.2.2.2.2.1, t.2.2.2.2.2.2.1, t.2.2.2.2.2.2.2.1] : (List An))) (ea_cons (x_map (e := eI) (f := eA) (an eI) (fun _ => rfl) (x_k eI (1) rfl)) (ea_cons (x_map (e := eI) (f := eA) (an eI) (fun _ => rfl) (x_k eI (41) rfl)) (ea_cons (x_map (e := eI) (f := eA) (an eI) (fun _ => rfl) (x_m1 o1_neg (x_k eI (2) rfl))) (ea_cons (x_map (e := eU) (f := eA) (an eU) (fun _ => rfl) (x_k eU () rfl)) (ea_cons (x_map (e := eB) (f := eA) (an eB) (fun _ => rfl) (x_k eB true rfl)) (ea_cons (x_map (e := eS) (f := eA) (an eS) (fun _ => rfl) (x_k eS ['3', '0'] rfl)) (ea_cons (x_map (e := eI) (f := eA) (an eI) (fun _ => rfl) (x_pow 10 30 1000000000000000000000000000000 (by decide))) (ea_cons (x_map (e := (eL false eI)) (f := eA) (an (eL false eI)) (fun _ => rfl) (x_cold (x_lst (f := (eL true eI)) (fun t : Int × Unit => ([t.1] : (List Int))) (ea_cons (x_k eI (30) rfl) ea_nil) (fun _ => rfl) (fun _ => (by decide : 1 ≤ LIM))))) ea_nil)))))))) (fun _ => rfl) (fun _ => (by decide : 8 ≤ LIM))) (x_modP 8 (by decide) (x_fdivP 2 (by decide) (x_v eI cell rfl) (x_k eI (2) rfl)) (x_k eI (8) rfl)))) (fun _ => rfl) (fun (bad_here : An) => (b_retI (eg_f (x_call T_lw_refused (ea_cons (x_map (e := eI) (f := eA) (an eI) (fun _ => rfl) (x_v eI high rfl)) (ea_cons (x_v eA bad_here rfl) (ea_cons (x_v eA some_ rfl) (ea_cons (x_tup (f := (e3 eS eA eB)) (fun t : Ts × An × Bool × Unit => (t.1, t.2.1, t.2.2.1)) (ea_cons (x_k eS ['s', 'i', 'z', 'e'] rfl) (ea_cons (x_map (e := eI) (f := eA) (an eI) (fun _ => rfl) (x_k eI (0) rfl)) (ea_cons (x_k eB true rfl) ea_nil))) (fun _ => rfl) (fun _ => (by decide : 3 ≤ LIM))) ea_nil)))))) (fun u3_ => ⟨.inl rfl, rfl⟩)))))))))
  refine run_T (n := 7) (kp := [true, true, true, true]) (m := m_lw_sizes) (ds := [eC script, eI high, eI wide, eRs rooms]) rfl hb ?_
  first
    | (simp -implicitDefEqProofs only [t_lw_sizes, Option.bind_assoc, Option.bind_some, bind_same] at h ⊢; exact h)
    | (simp -implicitDefEqProofs only [t_lw_sizes, Option.bind_assoc, Option.bind_some, bind_same] at h; exact h)
    | exact h
    | (simp [t_lw_sizes] at h ⊢; exact h)
theorem T_lw_sizes : Tf (τ := (List Int) × Int × Int × (List Rm) × Unit) (fun t => [eC t.1, eI t.2.1, eI t.2.2.1, eRs t.2.2.2.1]) eB F_lw_sizes (fun t => t_lw_sizes t.1 t.2.1 t.2.2.1 t.2.2.2.1) := fun t r h => ⟨_, L_lw_sizes t.1 t.2.1 t.2.2.1 t.2.2.2.1 h⟩
theorem L_law  (script : (List Int)) {r : Bool} (h : t_law script = some r) : F_law [eC script] = some (eB r, (fun _ => [eC script]) r) := by
  have hb : Bk (Qf eB [true] (fun _ => [eC script])) m_law [eC script, .gone, .gone, .gone, .gone, .gone, .gone, .gone, .gone, .gone, .gone, .gone] _ := (b_asg (fun (cell : Int) => [eC script, eI cell, .gone, .gone, .gone, .gone, .gone, .gone, .gone, .gone, .gone, .gone]) (eg_f (x_call T_lw_cell_at (ea_cons (x_v eC script rfl) (ea_cons (x_k eI (2) rfl) ea_nil)))) (fun _ => rfl) (fun (cell : Int) => (b_asg (fun (many : Int) => [eC script, eI cell, eI many, .gone, .gone, .gone, .gone, .gone, .gone, .gone, .gone, .gone]) (eg_f (x_m2 o2_addI (x_k eI (1) rfl) (x_modP 6 (by decide) (x_fdivP 4 (by decide) (x_v eI cell rfl) (x_k eI (4) rfl)) (x_k eI (6) rfl)))) (fun _ => rfl) (fun (many : Int) => (b_asg (fun (u1_ : (Int × Int × (List Rm))) => [eC script, eI cell, eI many, eI u1_.1, eI u1_.2.1, eRs u1_.2.2, .gone, .gone, .gone, .gone, .gone, .gone]) (eg_f (x_call T_lw_good (ea_cons (x_v eC script rfl) (ea_cons (x_k eI (7) rfl) ea_nil)))) (fun _ => rfl) (fun (u1_ : (Int × Int × (List Rm))) => (b_asg (fun (good_here : (List Rm)) => [eC script, eI cell, eI many, eI u1_.1, eI u1_.2.1, eRs u1_.2.2, eRs good_here, .gone, .gone, .gone, .gone, .gone]) (eg_f (x_cold (x_sl (x_v eRs u1_.2.2 rfl) eo_no (eo_so (x_v eI many rfl))))) (fun _ => rfl) (fun (good_here : (List Rm)) => (b_ifT (et_or (et_not (et_tru (x_call T_lw_taken (ea_cons (x_v eI u1_.1 rfl) (ea_cons (x_v eI u1_.2.1 rfl) (ea_cons (x_v eRs good_here rfl) ea_nil)))))) (et_not (et_tru (x_call T_lw_edges (ea_cons (x_v eI u1_.1 rfl) (ea_cons (x_v eI u1_.2.1 rfl) (ea_cons (x_m2 o2_ixL (x_v eRs good_here rfl) (x_m1 o1_neg (x_k eI (1) rfl))) ea_nil))))))) (b_ret (k := fun (u6_ : Bool) => u6_) (eg_f (x_k eB false rfl)) (fun u6_ => ⟨rfl, ⟨.inl rfl, rfl⟩⟩)) (b_ifT (et_and (et_b (x_m2 (o2_eq (e' := eI) (by decide)) (x_modP 4 (by decide) (x_v eI cell rfl) (x_k eI (4) rfl)) (x_k eI (0) rfl))) (et_not (et_tru (x_call T_lw_sizes (ea_cons (x_v eC script rfl) (ea_cons (x_v eI u1_.1 rfl) (ea_cons (x_v eI u1_.2.1 rfl) (ea_cons (x_v eRs good_here rfl) ea_nil)))))))) (b_ret (k := fun (u8_ : Bool) => u8_) (eg_f (x_k eB false rfl)) (fun u8_ => ⟨rfl, ⟨.inl rfl, rfl⟩⟩)) (b_asg (fun (none_ : An) => [eC script, eI cell, eI many, eI u1_.1, eI u1_.2.1, eRs u1_.2.2, eRs good_here, eA none_, .gone, .gone, .gone, .gone]) (eg_r (x_m2 o2_ixL (x_lst (f := (eL true eA)) (fun t : An × An × An × An × An × An × Unit => ([t.1, t.2.1, t.2.2.1, t.2.2.2.1, t.2.2.2.2.1, t.2.2.2.2.2.1] : (List An))) (ea_cons (x_map (e := eU) (f := eA) (an eU) (fun _ => rfl) (x_k eU () rfl)) (ea_cons (x_map (e := (e0 )) (f := eA) (an (e0 )) (fun _ => rfl) (x_tup (f := (e0 )) (fun t : Unit => ()) ea_nil (fun _ => rfl) (fun _ => (by decide : 0 ≤ LIM)))) (ea_cons (x_map (e := eS) (f := eA) (an eS) (fun _ => rfl) (x_k eS ([] : Ts) rfl)) (ea_cons (x_map (e := (eD false kS eI)) (f := eA) (an (eD false kS eI)) (fun _ => rfl) (x_cold (x_disp eS (edp_nil (kk := kS) (a := eI))))) (ea_cons (x_map (e := (eL false eU)) (f := eA) (an (eL false eU)) (fun _ => rfl) (x_cold (x_lst (f := (eL true eU)) (fun t : Unit => ([] : (List Unit))) ea_nil (fun _ => rfl) (fun _ => (by decide : 0 ≤ LIM))))) (ea_cons (x_map (e := eI) (f := eA) (an eI) (fun _ => rfl) (x_k eI (0) rfl)) ea_nil)))))) (fun _ => rfl) (fun _ => (by decide : 6 ≤ LIM))) (x_modP 6 (by decide) (x_fdivP 24 (by decide) (x_v eI cell rfl) (x_k eI (24) rfl)) (x_k eI (6) rfl)))) (fun _ => rfl) (fun (none_ : An) => (b_ifT (et_and (et_b (x_m2 (o2_eq (e' := eI) (by decide)) (x_modP 4 (by decide) (x_v eI cell rfl) (x_k eI (4) rfl)) (x_k eI (1) rfl))) (et_not (et_tru (x_call T_lw_refused (ea_cons (x_map (e := eI) (f := eA) (an eI) (fun _ => rfl) (x_v eI u1_.1 rfl)) (ea_cons (x_map (e := eI) (f := eA) (an eI) (fun _ => rfl) (x_v eI u1_.2.1 rfl)) (ea_cons (x_v eA none_ rfl) (ea_cons (x_tup (f := (e3 eS eA eB)) (fun t : Ts × An × Bool × Unit => (t.1, t.2.1, t.2.2.1)) (ea_cons (x_k eS ['r', 'o', 'o', 'm'] rfl) (ea_cons (x_map (e := eI) (f := eA) (an eI) (fun _ => rfl) (x_k eI (0) rfl)) (ea_cons (x_k eB true rfl) ea_nil))) (fun _ => rfl) (fun _ => (by decide : 3 ≤ LIM))) ea_nil)))))))) (b_ret (k := fun (u13_ : Bool) => u13_) (eg_f (x_k eB false rfl)) (fun u13_ => ⟨rfl, ⟨.inl rfl, rfl⟩⟩)) (b_ifT (et_and (et_b (x_m2 (o2_eq (e' := eI) (by decide)) (x_modP 4 (by decide) (x_v eI cell rfl) (x_k eI (4) rfl)) (x_k eI (2) rfl))) (et_not (et_tru (x_call T_lw_refused (ea_cons (x_map (e := eI) (f := eA) (an eI) (fun _ => rfl) (x_v eI u1_.1 rfl)) (ea_cons (x_map (e := eI) (f := eA) (an eI) (fun _ => rfl) (x_v eI u1_.2.1 rfl)) (ea_cons (x_map (e := eRs) (f := eA) (an eRs) (fun _ => rfl) (x_cold (x_a1 o1_listL (x_v eRs u1_.2.2 rfl)))) (ea_cons (x_tup (f := (e3 eS eA eB)) (fun t : Ts × An × Bool × Unit => (t.1, t.2.1, t.2.2.1)) (ea_cons (x_k eS ['r', 'o', 'o', 'm'] rfl) (ea_cons (x_map (e := eI) (f := eA) (an eI) (fun _ => rfl) (x_k eI (6) rfl)) (ea_cons (x_k eB true rfl) ea_nil))) (fun _ => rfl) (fun _ => (by decide : 3 ≤ LIM))) ea_nil)))))))) (b_ret (k := fun (u15_ : Bool) => u15_) (eg_f (x_k eB false rfl)) (fun u15_ => ⟨rfl, ⟨.inl rfl, rfl⟩⟩)) (b_asg (fun (first : Int) => [eC script, eI cell, eI many, eI u1_.1, eI u1_.2.1, eRs u1_.2.2, eRs good_here, eA none_, eI first, .gone, .gone, .gone]) (eg_f (x_call T_lw_cell_at (ea_cons (x_v eC script rfl) (ea_cons (x_k eI (4) rfl) ea_nil)))) (fun _ => rfl) (fun (first : Int) => (b_asg (fun (at_ : Int) => [eC script, eI cell, eI many, eI u1_.1, eI u1_.2.1, eRs u1_.2.2, eRs good_here, eA none_, eI first, eI at_, .gone, .gone]) (eg_f (x_m2 o2_mod (x_v eI first rfl) (x_v eI many rfl))) (fun _ => rfl) (fun (at_ : Int) => (b_asg (fun (spoilt : (List An)) => [eC script, eI cell, eI many, eI u1_.1, eI u1_.2.1, eRs u1_.2.2, eRs good_here, eA none_, eI first, eI at_, (eL true eA) spoilt, .gone]) (eg_f (x_map (e := (eL true eRm)) (f := (eL true eA)) (List.map (an eRm)) (eL_map _ (fun _ => rfl)) (x_a1 o1_listL (x_v eRs good_here rfl)))) (fun _ => rfl) (fun (spoilt : (List An)) => (b_store (a := eA) (v := fun u17_ => u17_) (xs := fun u17_ => spoilt) (fun p26_ => [eC script, eI cell, eI many, eI u1_.1, eI u1_.2.1, eRs u1_.2.2, eRs good_here, eA none_, eI first, eI at_, (eL true eA) p26_.2, .gone]) (eg_f (x_call T_lw_bad (ea_cons (x_fdivP 8 (by decide) (x_v eI first rfl) (x_k eI (8) rfl)) (ea_cons (x_m2 o2_ixL (x_v eRs good_here rfl) (x_v eI at_ rfl)) (ea_cons (x_cold (x_sl (x_v eRs good_here rfl) eo_no (eo_so (x_v eI at_ rfl)))) (ea_cons (x_v eI u1_.1 rfl) (ea_cons (x_v eI u1_.2.1 rfl) ea_nil))))))) (fun _ => rfl) (fun _ => rfl) (fun u17_ => (x_v eI at_ rfl)) (fun _ => rfl) (fun p26_ => (b_asg (fun (second : Int) => [eC script, eI cell, eI many, eI u1_.1, eI u1_.2.1, eRs u1_.2.2, eRs good_here, eA none_, eI first, eI at_, (eL true eA) p26_.2, eI second]) (eg_f (x_call T_lw_cell_at (ea_cons (x_v eC script rfl) (ea_cons (x_k eI (5) rfl) ea_nil)))) (fun _ => rfl) (fun (second : Int) => (b_join (fun (s19_ : (List An)) => [eC script, eI cell, eI many, eI u1_.1, eI u1_.2.1, eRs u1_.2.2, eRs good_here, eA none_, eI first, eI at_, (eL true eA) s19_, eI second]) (et_b (x_m2 (o2_eq (e' := eI) (by decide)) (x_modP 2 (by decide) (x_v eI second rfl) (x_k eI (2) rfl)) (x_k eI (1) rfl))) (b_asg (fun (spoilt : (List An)) => [eC script, eI cell, eI many, eI u1_.1, eI u1_.2.1, eRs u1_.2.2, eRs good_here, eA none_, eI first, eI at_, (eL true eA) spoilt, eI second]) (eg_f (x_m2 o2_catL (x_v (eL true eA) p26_.2 rfl) (x_lst (f := (eL true eA)) (fun t : An × Unit => ([t.1] : (List An))) (ea_cons (x_m2 o2_ixL (x_lst (f := (eL true eA)) (fun t : An × An × An × Unit => ([t.1, t.2.1, t.2.2.1] : (List An))) (ea_cons (x_map (e := eU) (f := eA) (an eU) (fun _ => rfl) (x_k eU () rfl)) (ea_cons (x_map (e := (e0 )) (f := eA) (an (e0 )) (fun _ => rfl) (x_tup (f := (e0 )) (fun t : Unit => ()) ea_nil (fun _ => rfl) (fun _ => (by decide : 0 ≤ LIM)))) (ea_cons (x_map (e := eI) (f := eA) (an eI) (fun _ => rfl) (x_k eI (5) rfl)) ea_nil))) (fun _ => rfl) (fun _ => (by decide : 3 ≤ LIM))) (x_modP 3 (by decide) (x_fdivP 2 (by decide) (x_v eI second rfl) (x_k eI (2) rfl)) (x_k eI (3) rfl))) ea_nil) (fun _ => rfl) (fun _ => (by decide : 1 ≤ LIM))))) (fun _ => rfl) (fun (spoilt : (List An)) => (b_nil (t := spoilt) ⟨rfl, rfl⟩))) (b_nil (t := p26_.2) ⟨rfl, rfl⟩) (fun (s19_ : (List An)) => (b_ifT (et_not (et_tru (x_view (e0 := (eL true eA)) (e' := (eL false eA)) (x := s19_) rfl (x_call T_lw_refused (ea_cons (x_map (e := eI) (f := eA) (an eI) (fun _ => rfl) (x_v eI u1_.1 rfl)) (ea_cons (x_map (e := eI) (f := eA) (an eI) (fun _ => rfl) (x_v eI u1_.2.1 rfl)) (ea_cons (x_map (e := (eL false eA)) (f := eA) (an (eL false eA)) (fun _ => rfl) (x_v (eL false eA) s19_ rfl)) (ea_cons (x_tup (f := (e3 eS eA eB)) (fun t : Ts × An × Bool × Unit => (t.1, t.2.1, t.2.2.1)) (ea_cons (x_k eS ['r', 'o', 'o', 'm'] rfl) (ea_cons (x_map (e := eI) (f := eA) (an eI) (fun _ => rfl) (x_v eI at_ rfl)) (ea_cons (x_k eB true rfl) ea_nil))) (fun _ => rfl) (fun _ => (by decide : 3 ≤ LIM))) ea_nil)))))))) (b_ret (k := fun (u23_ : Bool) => u23_) (eg_f (x_k eB false rfl)) (fun u23_ => ⟨rfl, ⟨.inl rfl, rfl⟩⟩)) (b_retI (eg_f (x_call T_lw_taken (ea_cons (x_v eI u1_.1 rfl) (ea_cons (x_v eI u1_.2.1 rfl) (ea_cons (x_v eRs good_here rfl) ea_nil))))) (fun u24_ => ⟨.inl rfl, rfl⟩)))))))))))))))))))))))))))))
  refine run_T (n := 12) (kp := [true]) (m := m_law) (ds := [eC script]) rfl hb ?_
  first
    | (simp -implicitDefEqProofs only [t_law, Option.bind_assoc, Option.bind_some, bind_same] at h ⊢; exact h)
    | (simp -implicitDefEqProofs only [t_law, Option.bind_assoc, Option.bind_some, bind_same] at h; exact h)
    | exact h
    | (simp [t_law] at h ⊢; exact h)
end LW

namespace LW
open PySem L2 LI OW
theorem isiA_I (ty : String) (s : Int) : isiA ty (an eI s) = kitB "int" ty := rfl
theorem isiA_B (ty : String) (s : Bool) : isiA ty (an eB s) = kitB "bool" ty := rfl
theorem isiA_S (ty : String) (s : Ts) : isiA ty (an eS s) = kitB "str" ty := rfl
theorem isiA_U (ty : String) (s : Unit) : isiA ty (an eU s) = kitB "NoneType" ty := rfl
theorem dI_an (n : Int) : dI (an eI n).d = some n := Dc.od (e := eI) n
theorem dS_an (w : Ts) : dS (an eS w).d = some w := Dc.od (e := eS) w
def Wh (x : An) : Prop := t_lw_whole_b x = some (dI x.d).isSome
theorem whole_I (n : Int) : Wh (an eI n) := by
  unfold Wh t_lw_whole_b
  rw [isiA_I, isiA_I, kit_int_bool, kit_int_int]
  rfl
theorem whole_S (s : Ts) : Wh (an eS s) := by
  unfold Wh t_lw_whole_b
  rw [isiA_S, kit_str_int]
  rfl
theorem whole_U : Wh (an eU ()) := by
  unfold Wh t_lw_whole_b
  rw [isiA_U, kit_NoneType_int]
  rfl
theorem whole_B (b : Bool) : Wh (an eB b) := by
  unfold Wh t_lw_whole_b
  rw [isiA_B, isiA_B, kit_bool_int, kit_bool_bool]
  rfl
theorem whole_no {x : An} (h : isiA "int" x = some false) (h2 : dI x.d = none) : Wh x := by
  unfold Wh t_lw_whole_b
  rw [h, h2]; rfl
def amB (o : Option Int) (a b : Int) : Bool := match o with
  | some n => decide (a ≤ n) && decide (n ≤ b)
  | none => false
theorem among_any {x : An} (h : Wh x) (a b : Int) : t_is_among__X1 x a b = some (amB (dI x.d) a b) := by
  unfold t_is_among__X1
  rw [show t_lw_whole_b x = some (dI x.d).isSome from h, Option.bind_some]
  cases dI x.d with
  | none => rfl
  | some n =>
    rw [if_pos (show (some n).isSome = true from rfl), Option.bind_some]
    unfold amB
    dsimp only
    by_cases h : a ≤ n
    · rw [if_pos (by simpa using h), decide_eq_true h, Bool.true_and]
    · rw [if_neg (by simpa using h), decide_eq_false h, Bool.false_and]
abbrev Q6 := An × An × An × An × An × An
def numsB (t l ta b : Option Int) (h w : Int) : Bool := amB t 0 h && (amB ta 1 h && (decide (t.getD 0 + ta.getD 0 ≤ h) && (amB l 0 w && (amB b 2 w && decide (l.getD 0 + b.getD 0 ≤ w)))))
def wayA (x : An) : Option Bool := ((isiA "str" x).bind fun v8_ => some (!v8_)).bind fun v9_ => (if v9_ = true then some true else ((dS x.d).bind fun v10_ => some (!memT v10_ ([['c', 'u', 't'], ['c', 'e', 'l', 'l', 's'], ['w', 'o', 'r', 'd', 's'], ['e', 'v', 'e', 'n']] : List Ts))))
theorem nums_eq (u2 u3 u4 u5 : An) (h w : Int) (w2 : Wh u2) (w3 : Wh u3) (w4 : Wh u4) (w5 : Wh u5) : ((((t_is_among__X1 u2 (0 : Int) h).bind fun v12_ => some (!v12_)).bind fun v13_ => (if v13_ = true then some true else (((t_is_among__X1 u4 (1 : Int) h).bind fun v14_ => some (!v14_)).bind fun v15_ => (if v15_ = true then some true else (((dI u2.d).bind fun v16_ => (dI u4.d).bind fun v17_ => some (v16_ + v17_)).bind fun v18_ => some (decide (h < v18_))))))).bind fun v19_ => if v19_ = true then
  some false
  else
  ((t_is_among__X1 u3 (0 : Int) w).bind fun v20_ => (if v20_ = true then ((t_is_among__X1 u5 (2 : Int) w).bind fun v21_ => (if v21_ = true then (((dI u3.d).bind fun v22_ => (dI u5.d).bind fun v23_ => some (v22_ + v23_)).bind fun v24_ => some (decide (v24_ ≤ w))) else some false)) else some false))) = some (numsB (dI u2.d) (dI u3.d) (dI u4.d) (dI u5.d) h w) := by
  rw [among_any w2, among_any w3, among_any w4, among_any w5]
  unfold numsB
  simp only [Option.bind_some]
  cases e2 : dI u2.d with
  | none => rfl
  | some t =>
    cases c2 : amB (some t) 0 h with
    | false => rfl
    | true =>
      rw [Bool.true_and, if_neg (by decide)]
      cases e4 : dI u4.d with
      | none => rfl
      | some ta =>
        cases c4 : amB (some ta) 1 h with
        | false => rfl
        | true =>
          rw [Bool.true_and, if_neg (by decide)]
          simp only [Option.bind_some, Option.getD_some]
          by_cases q : t + ta ≤ h
          · rw [decide_eq_true q, if_neg (by simpa using q), Bool.true_and]
            cases e3 : dI u3.d with
            | none => rfl
            | some l =>
              cases c3 : amB (some l) 0 w with
              | false => rfl
              | true =>
                rw [Bool.true_and, if_pos rfl]
                cases e5 : dI u5.d with
                | none => rfl
                | some b =>
                  cases c5 : amB (some b) 2 w with
                  | false => rfl
                  | true => rfl
          · rw [decide_eq_false q, if_pos (by simp; omega)]; rfl
theorem room_any {x : An} {u : Q6} {h w : Int} (h1 : isiA "tuple" x = some true) (h2 : lenA x = some 6) (h3 : (d6 dA dA dA dA dA dA) x.d = some u) (w2 : Wh u.2.1) (w3 : Wh u.2.2.1) (w4 : Wh u.2.2.2.1) (w5 : Wh u.2.2.2.2.1) : t_is_room__X1 x h w = ((((t_is_name__X1 u.1).bind fun v6_ => some (!v6_)).bind fun v7_ => (if v7_ = true then some true else wayA u.2.2.2.2.2)).bind fun v11_ => if v11_ = true then some false else some (numsB (dI u.2.1.d) (dI u.2.2.1.d) (dI u.2.2.2.1.d) (dI u.2.2.2.2.1.d) h w)) := by
  unfold t_is_room__X1
  rw [h1, Option.bind_some, Option.bind_some, if_neg (by decide), h2, Option.bind_some, Option.bind_some, if_neg (by decide), h3, Option.bind_some, nums_eq _ _ _ _ h w w2 w3 w4 w5]
  rfl
theorem notup {x : An} (h : isiA "tuple" x = some false) (hi wi : Int) : t_is_room__X1 x hi wi = some false := by
  unfold t_is_room__X1
  rw [h]; rfl
theorem notsix {x : An} {n : Int} (h : isiA "tuple" x = some true) (h2 : lenA x = some n) (hn : n ≠ 6) (hi wi : Int) : t_is_room__X1 x hi wi = some false := by
  unfold t_is_room__X1
  rw [h, Option.bind_some, Option.bind_some, if_neg (by decide), h2, Option.bind_some, Option.bind_some, if_pos (by simpa using hn)]
theorem name_ok {s : Ts} (h : nm1 s) : t_is_name__X1 (an eS s) = some true := by
  obtain ⟨h1, h2, h3⟩ := h
  unfold t_is_name__X1
  have hl : lenA (an eS s) = some (s.length : Int) := by
    unfold lenA
    show ((if (s.map Char.toNat).length ≤ LIM then some (D.int (s.map Char.toNat).length) else none : Option D)).bind dI = _
    rw [List.length_map, if_pos (by unfold LIM; omega)]; rfl
  rw [isiA_S, kit_str_str, Option.bind_some, Option.bind_some, if_neg (by decide), hl, Option.bind_some, if_pos (by simpa using (by omega : (1 : Int) ≤ s.length)), Option.bind_some]
  rw [show decide ((s.length : Int) ≤ 8) = true by simpa using (by omega : (s.length : Int) ≤ 8), Option.bind_some, if_neg (by decide), dS_an, Option.bind_some, Option.bind_some, forT_unit, Option.bind_some, seqT_inl]
  intro x hx
  obtain ⟨c, hc, rfl⟩ := chars_mem hx
  rw [inS_1, Option.bind_some, Option.bind_some]
  have : decide (c ∈ (['a', 'b', 'c', 'd', 'e', 'f', 'g', 'h', 'i', 'j', 'k', 'l', 'm', 'n', 'o', 'p', 'q', 'r', 's', 't', 'u', 'v', 'w', 'x', 'y', 'z'] : Ts)) = true := decide_eq_true (h3 c hc)
  rw [this]; rfl
theorem way_ok {s : Ts} (h : s ∈ wys) : wayA (an eS s) = some false := by
  unfold wayA
  rw [isiA_S, kit_str_str, Option.bind_some, Option.bind_some, if_neg (by decide), dS_an, Option.bind_some]
  simp only [wys, List.mem_cons, List.not_mem_nil, or_false] at h
  rcases h with h | h | h | h <;> (rw [h]; decide)
abbrev aRm (r : Rm) : An := an (e6 eS eI eI eI eI eS) r
theorem room_typed {r : Rm} (hn : nm1 r.1) (hw : r.2.2.2.2.2 ∈ wys) (hi wi : Int) : t_is_room__X1 (aRm r) hi wi = some (numsB (some r.2.1) (some r.2.2.1) (some r.2.2.2.1) (some r.2.2.2.2.1) hi wi) := by
  rw [room_any (x := aRm r) (u := (an eS r.1, an eI r.2.1, an eI r.2.2.1, an eI r.2.2.2.1, an eI r.2.2.2.2.1, an eS r.2.2.2.2.2)) kit_tuple_tuple rfl rfl (whole_I _) (whole_I _) (whole_I _) (whole_I _)]
  dsimp only
  rw [name_ok hn, way_ok hw]
  rfl
theorem numsB_ok {r : Rm} {hi wi : Int} (h : RmG r hi wi) : numsB (some r.2.1) (some r.2.2.1) (some r.2.2.2.1) (some r.2.2.2.2.1) hi wi = true := by
  obtain ⟨_, _, t0, t1, t2, l0, l1, l2⟩ := h
  unfold numsB amB
  simp only [Option.getD_some, Bool.and_eq_true, decide_eq_true_eq]
  omega
def BadR (x : An) (ahead : List Rm) (hi wi : Int) : Prop := t_is_room__X1 x hi wi = some false ∨ ∃ r : Rm, x = aRm r ∧ t_is_room__X1 x hi wi = some true ∧ ∃ o ∈ ahead, o.1 = r.1 ∨ apart o r = false
def nsz : Exn := (4, [])
def nrm (p : Int) : Exn := (5, [("at", an eI p)])
def pstep (hi wi : Int) (s14_ : OPlan) (x15_ : (Int × An)) : Option (St OPlan (Exn ⊕ OPlan)) :=
  ((if decide ((6 : Int) ≤ x15_.1) = true then some true else (((dI (an eI hi).d).bind fun v16_ => (dI (an eI wi).d).bind fun v17_ => (t_is_room__X1 x15_.2 v16_ v17_)).bind fun v18_ => some (!v18_))).bind fun v19_ => if v19_ = true then
  (some x15_.1).bind fun x20_ => some (.rt (.inl (5, [("at", an eI x20_)]) : (Exn ⊕ OPlan)) : (St OPlan (Exn ⊕ OPlan)))
  else
  (srchT (fun (other : Rm) => ((((ixA x15_.2 (0 : Int)).bind fun v21_ => (dS v21_.d)).bind fun v22_ => some (decide (other.1 = v22_))).bind fun v23_ => (if v23_ = true then some true else ((((d6 dS dI dI dI dI dS) x15_.2.d).bind fun v24_ => (t_is_apart other v24_)).bind fun v25_ => some (!v25_))))) s14_.rooms).bind fun u => srchK u (((((d6 dS dI dI dI dI dS) x15_.2.d).bind fun v26_ => (appT s14_.rooms v26_))).bind fun (u27_ : (List Rm)) =>
  some (.nx ({ s14_ with rooms := u27_ }) : (St OPlan (Exn ⊕ OPlan)))) (fun (other : Rm) =>
  (some x15_.1).bind fun x28_ => some (.rt (.inl (5, [("at", an eI x28_)]) : (Exn ⊕ OPlan)) : (St OPlan (Exn ⊕ OPlan)))))
theorem ix0 (r : Rm) : (ixA (aRm r) (0 : Int)).bind (fun v21_ => dS v21_.d) = some r.1 := dS_an r.1
theorem d6r (r : Rm) : (d6 dS dI dI dI dI dS) (aRm r).d = some r := Dc.od (e := e6 eS eI eI eI eI eS) r
theorem pstep_ok {hi wi : Int} {p : OPlan} {k : Nat} {r : Rm} (hk : k < 6) (hr : RmG r hi wi) (ho : ∀ o ∈ p.rooms, o.1 ≠ r.1 ∧ apart o r = true) (hl : p.rooms.length < 100) : pstep hi wi p ((k : Int), aRm r) = some (.nx { p with rooms := p.rooms ++ [r] }) := by
  unfold pstep
  dsimp only
  rw [if_neg (by simpa using (by omega : ¬ (6 : Int) ≤ (k : Int))), dI_an, dI_an, Option.bind_some, Option.bind_some, room_typed hr.nm hr.wy, numsB_ok hr, Option.bind_some, Option.bind_some, if_neg (by decide), ix0, d6r]
  rw [srch_none, Option.bind_some]
  · show ((appT _ _).bind _) = _
    rw [appT_ok (by unfold LIM; omega)]; rfl
  · intro o h
    obtain ⟨n1, n2⟩ := ho o h
    rw [Option.bind_some, Option.bind_some, if_neg (by simpa using n1), Option.bind_some, apart_eq, n2]; rfl
theorem srch_some {α : Type} {c : α → Option Bool} : ∀ {xs : List α}, (∀ x ∈ xs, ∃ b, c x = some b) → (∃ x ∈ xs, c x = some true) → ∃ x, srchT c xs = some (some x)
  | [], _, h => by obtain ⟨_, h, _⟩ := h; cases h
  | x :: xs, h1, h2 => by
    obtain ⟨b, hb⟩ := h1 x List.mem_cons_self
    rw [srchT, hb, Option.bind_some]
    cases b with
    | true => exact ⟨x, by rw [if_pos rfl]⟩
    | false =>
      rw [if_neg (by decide)]
      refine srch_some (fun y hy => h1 y (List.mem_cons_of_mem _ hy)) ?_
      obtain ⟨y, hy, q⟩ := h2
      rcases List.mem_cons.mp hy with rfl | hy
      · rw [hb] at q; cases q
      · exact ⟨y, hy, q⟩
theorem pstep_bad {hi wi : Int} {p : OPlan} {k : Nat} {x : An} (h : 6 ≤ k ∨ BadR x p.rooms hi wi) : pstep hi wi p ((k : Int), x) = some (.rt (.inl (nrm (k : Int)))) := by
  unfold pstep
  dsimp only
  by_cases hk : 6 ≤ k
  · rw [if_pos (by simpa using (by omega : (6 : Int) ≤ (k : Int))), Option.bind_some, if_pos rfl]; rfl
  · rw [if_neg (by simpa using (by omega : ¬ (6 : Int) ≤ (k : Int))), dI_an, dI_an, Option.bind_some, Option.bind_some]
    rcases h with h | h
    · exact absurd h hk
    · rcases h with h | ⟨r, rfl, h1, o, ho, h2⟩
      · rw [h, Option.bind_some, Option.bind_some, if_pos (by decide)]; rfl
      · rw [h1, Option.bind_some, Option.bind_some, if_neg (by decide), ix0, d6r]
        have key : ∀ y : Rm, ((some r.1).bind fun v22_ => some (decide (y.1 = v22_))).bind (fun v23_ => (if v23_ = true then some true else (((some r).bind fun v24_ => (t_is_apart y v24_)).bind fun v25_ => some (!v25_)))) = some (decide (y.1 = r.1) || !apart y r) := fun y => by
          rw [Option.bind_some, Option.bind_some, Option.bind_some, apart_eq, Option.bind_some]
          by_cases q : y.1 = r.1
          · rw [if_pos (by simpa using q), decide_eq_true q]; rfl
          · rw [if_neg (by simpa using q), decide_eq_false q]; rfl
        obtain ⟨y, ey⟩ := srch_some (xs := p.rooms) (c := fun y : Rm => ((some r.1).bind fun v22_ => some (decide (y.1 = v22_))).bind (fun v23_ => (if v23_ = true then some true else (((some r).bind fun v24_ => (t_is_apart y v24_)).bind fun v25_ => some (!v25_))))) (fun y _ => ⟨_, key y⟩) ⟨o, ho, by
          rw [key o]
          rcases h2 with h2 | h2
          · rw [decide_eq_true h2]; rfl
          · rw [h2]; simp⟩
        rw [ey]; rfl
theorem ploop {hi wi : Int} : ∀ (rs : List Rm) (k : Nat) (p : OPlan) (x : An) (rest : List An), k + rs.length ≤ 6 → (∀ r ∈ rs, RmG r hi wi) → Rs (p.rooms ++ rs) → p.rooms.length + rs.length < 100 → (6 ≤ k + rs.length ∨ BadR x (p.rooms ++ rs) hi wi) →
    forT (pstep hi wi) (enumT k (rs.map aRm ++ x :: rest)) p = some (.inr (.inl (nrm ((k + rs.length : Nat) : Int))))
  | [], k, p, x, rest, h1, h2, h3, h4, h5 => by
    rw [List.append_nil] at h5
    show forT _ (((k : Int), x) :: _) p = _
    rw [forT_cons, pstep_bad (k := k) (by simpa using h5)]
    rfl
  | r :: rs, k, p, x, rest, h1, h2, h3, h4, h5 => by
    rw [List.length_cons] at h1 h4
    have h6 := List.pairwise_append.mp h3
    show forT _ (((k : Int), aRm r) :: enumT (k + 1) (rs.map aRm ++ x :: rest)) p = _
    rw [forT_cons, pstep_ok (by omega) (h2 r List.mem_cons_self) (fun o ho => h6.2.2 o ho r List.mem_cons_self) (by omega), Option.bind_some]
    dsimp only
    rw [ploop rs (k + 1) _ x rest (by omega) (fun y hy => h2 y (List.mem_cons_of_mem _ hy)) (by dsimp only; rw [List.append_assoc]; exact h3) (by dsimp only; rw [List.length_append, List.length_singleton]; omega) (by
      dsimp only
      rw [List.append_assoc]
      rcases h5 with h5 | h5
      · rw [List.length_cons] at h5; exact .inl (by omega)
      · exact .inr h5)]
    rw [List.length_cons, show k + 1 + rs.length = k + (rs.length + 1) by omega]
theorem among_in {n a b : Int} (h1 : a ≤ n) (h2 : n ≤ b) : t_is_among__X1 (an eI n) a b = some true := by
  rw [among_any (whole_I n), dI_an]
  unfold amB
  simp [h1, h2]
theorem plan_bad {hi wi : Int} (a1 : 1 ≤ hi) (a2 : hi ≤ 12) (b1 : 2 ≤ wi) (b2 : wi ≤ 40) {R : An} {rs : List Rm} {x : An} {rest : List An} (hL : isiA "list" R = some true) (hE : eqAE R (an (eL false eU) ([] : List Unit)) = some false) (hR : (dL dA) R.d = some (rs.map aRm ++ x :: rest))
    (h6 : rs.length ≤ 6) (hr : ∀ r ∈ rs, RmG r hi wi) (hs : Rs rs) (hb : 6 ≤ rs.length ∨ BadR x rs hi wi) : t_Plan_init__X1 (an eI hi) (an eI wi) R = some (.inl (nrm (rs.length : Int))) := by
  unfold t_Plan_init__X1
  rw [among_in a1 a2, among_in b1 b2, Option.bind_some, Option.bind_some, if_neg (by decide), Option.bind_some, Option.bind_some, if_neg (by decide), hL, Option.bind_some, Option.bind_some, if_neg (by decide), hE, Option.bind_some, if_neg (by decide), dI_an, dI_an, Option.bind_some, Option.bind_some]
  dsimp only
  rw [hR, Option.bind_some, Option.bind_some]
  have := ploop (hi := hi) (wi := wi) rs 0 ⟨hi, wi, []⟩ x rest (by omega) hr (by simpa using hs) (by simp; omega) (by simpa using hb)
  refine (congrArg (Option.bind · _) this).trans ?_
  rw [Option.bind_some, Nat.zero_add]
  rfl
theorem mixc_ex (c : Int) (k : Int) (h0 : 0 ≤ k) (hk : k ≤ 1000000) : ∃ v, t_lw_mix_c c k = some v ∧ 0 ≤ v ∧ v < 1000000000 := mix_ex c k h0 hk
theorem names7_ex (c : Int) (m : Nat) (h1 : 1 ≤ m) (h6 : m ≤ 7) : ∃ ns, t_lw_names_c c (m : Int) = some ns ∧ ns.length = m ∧ (∀ n ∈ ns, nm1 n) ∧ ns.Pairwise (· ≠ ·) := by
  unfold t_lw_names_c
  dsimp only
  rw [rngT_ok (by omega) (by omega), Option.bind_some]
  obtain ⟨b, e1, hb1, hb2⟩ := foldT_cnt (g := fun (s2_ : Ts) (k : Int) => (((((t_lw_mix_c c k).bind fun v3_ => some (v3_ % 26)).bind fun v4_ => (ixS smalls v4_)).bind fun v5_ => (catS s2_ v5_))).bind fun (base : Ts) => some base)
    (fun n s => s.length + n = 8 ∧ ∀ c ∈ s, c ∈ smalls) ((List.range (8 : Int).toNat).map fun (k : Nat) => (k : Int)) [] (by simp) (by
      intro n s x ⟨q1, q2⟩ hx
      obtain ⟨k, hk, rfl⟩ := List.mem_map.mp hx
      have hk := List.mem_range.mp hk
      obtain ⟨v, e, v0, _⟩ := mixc_ex c (k : Int) (by omega) (by omega)
      obtain ⟨hl, e2⟩ := smalls_ix v0
      rw [e, Option.bind_some, Option.bind_some, e2, Option.bind_some, catS_ok (by unfold LIM; rw [List.length_singleton]; omega)]
      refine ⟨_, rfl, by rw [List.length_append, List.length_singleton]; omega, fun c hc => ?_⟩
      rcases List.mem_append.mp hc with q | q
      · exact q2 c q
      · rw [List.mem_singleton.mp q]; exact List.getElem_mem hl)
  have e1' := e1
  unfold smalls at e1'
  rw [e1', Option.bind_some]
  have hb1 : b.length = 8 := hb1
  have hL : b.length ≤ LIM := by unfold LIM; omega
  split
  · rw [rngT_ok (by omega) (by omega), Option.bind_some]
    have hc : ∀ x ∈ (List.range (m : Int).toNat).map (fun (k : Nat) => (k : Int)), slS none (some (x + 1)) b = some (b.take (x.toNat + 1)) := fun x hx => by
      obtain ⟨k, hk, rfl⟩ := List.mem_map.mp hx
      rw [slS_ok hL, cut_to (by omega)]; congr 2
    rw [compT_map (f := fun x => b.take (x.toNat + 1)) (by rw [List.length_map, List.length_range]; unfold LIM; omega) hc, List.map_map]
    refine ⟨_, rfl, by simp, fun n hn => ?_, ?_⟩
    · obtain ⟨k, hk, rfl⟩ := List.mem_map.mp hn
      have hk := List.mem_range.mp hk
      have hl : (b.take (k + 1)).length = k + 1 := by rw [List.length_take]; omega
      show nm1 (b.take ((k : Int).toNat + 1))
      rw [show (k : Int).toNat = k by omega]
      exact ⟨by omega, by omega, fun c hc => hb2 c (List.mem_of_mem_take hc)⟩
    · rw [List.pairwise_map]
      refine List.Pairwise.imp_of_mem ?_ List.nodup_range
      intro i j hi hj hne he
      have hi := List.mem_range.mp hi; have hj := List.mem_range.mp hj
      have := congrArg List.length he
      dsimp only [Function.comp] at this
      rw [List.length_take, List.length_take] at this
      omega
  · have ha := mod_in (c / 3) 8 (by omega)
    obtain ⟨a, ea⟩ : ∃ a : Nat, c / 3 % 8 = (a : Int) := ⟨_, (Int.toNat_of_nonneg ha.1).symm⟩
    rw [ea] at ha ⊢
    have ht := mod_in (c / 24) 8 (by omega)
    obtain ⟨z, ez⟩ : ∃ z : Nat, max ((a : Int) + 1) (1 + c / 24 % 8) = (z : Int) ∧ a + 1 ≤ z ∧ z ≤ 8 := ⟨(max ((a : Int) + 1) (1 + c / 24 % 8)).toNat, by omega, by omega, by omega⟩
    rw [ez.1]
    rw [rngT_ok (by omega) (by omega), Option.bind_some]
    obtain ⟨v8, e8, v80, _⟩ := mixc_ex c 8 (by omega) (by omega)
    obtain ⟨ns, f1, j0, f0, f2, f3⟩ := foldT_gen (g := fun (s8_ : (List Ts)) (k : Int) =>
      (((((t_lw_mix_c c (8 : Int)).bind fun v9_ => some (v9_ + k)).bind fun v10_ => some (v10_ % 26)).bind fun v11_ => (ixS smalls v11_))).bind fun (sign : Ts) =>
      ((((((slS none (some (a : Int)) b).bind fun v12_ => (catS v12_ sign)).bind fun v13_ => (slS (some ((a : Int) + (1 : Int))) none b).bind fun v14_ => (catS v13_ v14_)).bind fun v15_ => (slS none (some (z : Int)) v15_)).bind fun v16_ => (appT s8_ v16_))).bind fun (u17_ : (List Ts)) => some u17_)
      (fun rem s => ∃ j : Nat, rem = (List.range' j (m - j)).map (fun (k : Nat) => (k : Int)) ∧ s.length = j ∧ j ≤ m ∧ (∀ n ∈ s, nm1 n) ∧ (∀ i, i < s.length → (s[i]?.bind fun n => n[a]?) = smalls[((v8 + i) % 26).toNat]?)) (by
        rintro x xs s ⟨k, q0, q1, q4, q2, q3⟩
        have hk : k < m := by
          by_cases h : k < m
          · exact h
          · rw [show m - k = 0 by omega] at q0; simp at q0
        rw [show m - k = (m - k - 1) + 1 by omega, List.range'_succ, List.map_cons] at q0
        obtain ⟨rfl, q5⟩ := List.cons.inj q0
        obtain ⟨hl, e2⟩ := smalls_ix (v := v8 + k) (by omega)
        have t1 : (b.take a).length = a := by rw [List.length_take]; omega
        have t2 : (b.drop (a + 1)).length = 8 - (a + 1) := by rw [List.length_drop]; omega
        have c1 : cutL b none (some (a : Int)) = b.take a := cut_to (by omega)
        have c2 : cutL b (some ((a : Int) + 1)) none = b.drop (a + 1) := by rw [cut_from (by omega)]; congr 1
        generalize hw : smalls[((v8 + k) % 26).toNat] = w at *
        have c3 : cutL (b.take a ++ [w] ++ b.drop (a + 1)) none (some (z : Int)) = (b.take a ++ [w] ++ b.drop (a + 1)).take z := cut_to (by omega)
        have ll : (b.take a ++ [w] ++ b.drop (a + 1)).length = 8 := by simp only [List.length_append, t1, t2, List.length_singleton]; omega
        have hs : s.length < LIM := by unfold LIM; omega
        rw [e8, Option.bind_some, Option.bind_some, Option.bind_some, e2, Option.bind_some, slS_ok hL, c1, Option.bind_some, catS_ok (by rw [t1, List.length_singleton]; unfold LIM; omega), Option.bind_some, slS_ok hL, c2, Option.bind_some,
          catS_ok (by rw [List.length_append, t1, t2, List.length_singleton]; unfold LIM; omega), Option.bind_some, slS_ok (by rw [ll]; unfold LIM; omega), c3, Option.bind_some, appT_ok hs, Option.bind_some]
        refine ⟨_, rfl, k + 1, ?_, ?_, by omega, ?_, ?_⟩
        · rw [q5]; congr 2
        · rw [List.length_append, List.length_singleton, q1]
        · intro n hn
          rcases List.mem_append.mp hn with q | q
          · exact q2 n q
          · rw [List.mem_singleton.mp q]
            refine ⟨by rw [List.length_take]; omega, by rw [List.length_take]; omega, fun c hc => ?_⟩
            have := List.mem_of_mem_take hc
            rcases List.mem_append.mp this with q | q
            · rcases List.mem_append.mp q with q | q
              · exact hb2 c (List.mem_of_mem_take q)
              · rw [List.mem_singleton.mp q, ← hw]; exact List.getElem_mem hl
            · exact hb2 c (List.mem_of_mem_drop q)
        · intro j hj
          rw [List.length_append, List.length_singleton] at hj
          by_cases h : j < s.length
          · rw [List.getElem?_append_left h]; exact q3 j h
          · have : j = k := by omega
            subst this
            rw [List.getElem?_append_right (by omega), q1, Nat.sub_self, List.getElem?_cons_zero, Option.bind_some, List.getElem?_take, if_pos (by omega), List.getElem?_append_left (by rw [List.length_append, t1, List.length_singleton]; omega), List.getElem?_append_right (by omega), t1, Nat.sub_self, List.getElem?_cons_zero, List.getElem?_eq_getElem hl, hw])
      ((List.range (m : Int).toNat).map fun (k : Nat) => (k : Int)) [] ⟨0, by rw [show (m : Int).toNat = m by omega, List.range_eq_range']; rfl, rfl, by omega, by simp, by simp⟩
    have f1' := f1
    unfold smalls at f1'
    rw [f1', Option.bind_some]
    have hj0 : j0 = m := by
      have h := congrArg List.length f0
      simp at h; omega
    subst hj0
    refine ⟨_, rfl, f2, f3.2.1, ?_⟩
    have f5 := f3.2.2
    rw [List.pairwise_iff_getElem]
    intro i j hi hj hlt he
    have hx := f5 i hi
    have hy := f5 j hj
    rw [List.getElem?_eq_getElem hi, Option.bind_some] at hx
    rw [List.getElem?_eq_getElem hj, Option.bind_some, ← he, hx] at hy
    have := smalls_inj _ _ (by omega) (by omega) hy
    omega
theorem good_ex (ns : List Int) : ∃ hi wi rs, t_lw_good ns 7 = some (hi, wi, rs) ∧ 5 ≤ hi ∧ hi ≤ 7 ∧ 30 ≤ wi ∧ wi ≤ 32 ∧ rs.length = 7 ∧ (∀ r ∈ rs, RmG r hi wi) ∧ Rs rs := by
  unfold t_lw_good
  rw [show t_lw_cell ns 0 = some (ns.getD 0 0) from cell_eq ns 0, Option.bind_some, show t_lw_cell ns 1 = some (ns.getD 1 0) from cell_eq ns 1, Option.bind_some]
  obtain ⟨nm, e1, n1, n2, n3⟩ := names7_ex (ns.getD 1 0) 7 (by omega) (by omega)
  generalize ns.getD 0 0 = c
  rw [show t_lw_names_c (ns.getD 1 0) 7 = some nm from e1, Option.bind_some]
  dsimp only
  rw [rngT_ok (by omega) (by omega), Option.bind_some]
  obtain ⟨v9, e9, p9, _⟩ := mixc_ex c 9 (by omega) (by omega)
  obtain ⟨v10, e10, p10, _⟩ := mixc_ex c 10 (by omega) (by omega)
  have m9 := mod_in v9 3 (by omega)
  have m10 := mod_in v10 3 (by omega)
  obtain ⟨s, f1, f2⟩ := foldT_gen (g := fun (s3_ : ((List Rm) × Int)) (k : Int) =>
  ((((t_lw_mix_c c ((14 : Int) + (6 * k))).bind fun v4_ => some (v4_ % 3)).bind fun v5_ => some ((1 : Int) + v5_))).bind fun (tall : Int) =>
  ((((t_lw_mix_c c ((15 : Int) + (6 * k))).bind fun v6_ => some (v6_ % 3)).bind fun v7_ => some ((2 : Int) + v7_))).bind fun (broad : Int) =>
  ((((t_lw_mix_c c ((16 : Int) + (6 * k))).bind fun v8_ => some (v8_ % 4)).bind fun v9_ => (atI ([(['c', 'u', 't'] : Ts), (['c', 'e', 'l', 'l', 's'] : Ts), (['w', 'o', 'r', 'd', 's'] : Ts), (['e', 'v', 'e', 'n'] : Ts)] : (List Ts)) v9_))).bind fun (way : Ts) =>
  ((((atI nm k).bind fun v10_ => ((t_lw_mix_c c ((17 : Int) + (6 * k))).bind fun v11_ => some (v11_ % 3)).bind fun v12_ => some (v10_, v12_, s3_.2, tall, broad, way)).bind fun v13_ => (appT s3_.1 v13_))).bind fun (u14_ : (List Rm)) =>
  let at_ : Int := (s3_.2 + broad)
  some (u14_, at_))
    (fun rem s => ∃ j : Nat, rem = (List.range' j (7 - j)).map (fun (k : Nat) => (k : Int)) ∧ j ≤ 7 ∧ s.1.length = j ∧ 0 ≤ s.2 ∧ s.2 ≤ 4 * (j : Int) ∧ (∀ i (h : i < s.1.length), nm[i]? = some (s.1[i]).1) ∧ (∀ r ∈ s.1, (∀ hi wi : Int, 5 ≤ hi → 30 ≤ wi → r.1 ∈ nm → RmG r hi wi) ∧ r.2.2.1 + r.2.2.2.2.1 ≤ s.2 ∧ r.1 ∈ nm) ∧ s.1.Pairwise fun a b => apart a b = true) (by
      rintro x xs s ⟨j, q0, q1, q2, q3, q4, q5, q6, q7⟩
      have hj : j < 7 := by
        by_cases h : j < 7
        · exact h
        · rw [show 7 - j = 0 by omega] at q0; simp at q0
      rw [show 7 - j = (7 - j - 1) + 1 by omega, List.range'_succ, List.map_cons] at q0
      obtain ⟨rfl, q8⟩ := List.cons.inj q0
      obtain ⟨a1, ea1, _, _⟩ := mixc_ex c (14 + 6 * (j : Int)) (by omega) (by omega)
      obtain ⟨a2, ea2, _, _⟩ := mixc_ex c (15 + 6 * (j : Int)) (by omega) (by omega)
      obtain ⟨a3, ea3, _, _⟩ := mixc_ex c (16 + 6 * (j : Int)) (by omega) (by omega)
      obtain ⟨a4, ea4, _, _⟩ := mixc_ex c (17 + 6 * (j : Int)) (by omega) (by omega)
      have m1 := mod_in a1 3 (by omega)
      have m2 := mod_in a2 3 (by omega)
      have m4 := mod_in a4 3 (by omega)
      obtain ⟨wy, hw, ew⟩ := way_ex (v := a3)
      have hjn : j < nm.length := by rw [n1]; exact hj
      rw [ea1, ea2, ea3, ea4]
      simp only [Option.bind_some]
      rw [ew, LI.atI_nat hjn]
      simp only [Option.bind_some]
      rw [appT_ok (by unfold LIM; omega), Option.bind_some]
      have hin : nm[j] ∈ nm := List.getElem_mem hjn
      refine ⟨_, rfl, j + 1, by rw [q8]; congr 2, by omega, by dsimp only; rw [List.length_append, List.length_singleton, q2], by dsimp only; omega, by dsimp only; omega, ?_, ?_, ?_⟩
      · intro i hi
        dsimp only at hi ⊢
        rw [List.length_append, List.length_singleton] at hi
        by_cases q : i < s.1.length
        · rw [List.getElem_append_left q]; exact q5 i q
        · have : i = j := by omega
          subst this
          rw [List.getElem_append_right (by omega)]
          simp only [q2, Nat.sub_self, List.getElem_cons_zero]
          exact List.getElem?_eq_getElem hjn
      · intro r hr
        dsimp only at hr ⊢
        rcases List.mem_append.mp hr with hr | hr
        · obtain ⟨z1, z2, z3⟩ := q6 r hr
          exact ⟨z1, by omega, z3⟩
        · rw [List.mem_singleton] at hr
          subst hr
          refine ⟨fun hi wi h1 h2 h3 => ⟨n2 _ h3, hw, by dsimp only; omega, by dsimp only; omega, by dsimp only; omega, by dsimp only; omega, by dsimp only; omega, by dsimp only; omega⟩, Int.le_refl _, hin⟩
      · dsimp only
        rw [List.pairwise_append]
        refine ⟨q7, List.pairwise_singleton _ _, fun a ha b hb => ?_⟩
        rw [List.mem_singleton] at hb
        subst hb
        have := (q6 a ha).2.1
        unfold apart
        simp only [Bool.or_eq_true, decide_eq_true_eq]
        right; left; omega)
    ((List.range (7 : Int).toNat).map fun (k : Nat) => (k : Int)) ([], 0) ⟨0, by rw [show (7 : Int).toNat = 7 from rfl, List.range_eq_range'], by omega, rfl, by dsimp only; omega, by dsimp only; omega, by simp, by simp, List.Pairwise.nil⟩
  rw [f1, Option.bind_some, e9, e10]
  obtain ⟨j, g0, g1, g2, g3, g4, g5, g6, g7⟩ := f2
  have hj : j = 7 := by
    have h := congrArg List.length g0
    simp at h; omega
  subst hj
  refine ⟨5 + v9 % 3, 30 + v10 % 3, s.1, rfl, by omega, by omega, by omega, by omega, g2, fun r hr => (g6 r hr).1 _ _ (by omega) (by omega) (g6 r hr).2.2, ?_⟩
  unfold Rs
  rw [List.pairwise_iff_getElem] at g7 n3 ⊢
  intro a b ha hb hab
  refine ⟨fun he => ?_, g7 a b ha hb hab⟩
  have h1 := g5 a ha
  have h2 := g5 b hb
  rw [he, ← h2] at h1
  rw [List.getElem?_eq_getElem (by omega), List.getElem?_eq_getElem (by omega)] at h1
  exact n3 a b (by omega) (by omega) hab (Option.some.inj h1)
def Sp (k : Nat) (d : D) : Prop := ∃ p, toP d = some p ∧ p.canLay0 = true ∧ p.depth ≤ k
theorem sp_pe {α : Type} {e : α → D} {n : Nat} [Pe e n] (x : α) : Sp n (e x) := ⟨Pe.p e x, Pe.to x, Pe.lay x, Pe.dep x⟩
theorem Sp.mono {k j : Nat} {d : D} (h : Sp k d) (q : k ≤ j) : Sp j d := let ⟨p, a, b, c⟩ := h; ⟨p, a, b, Nat.le_trans c q⟩
theorem sp_all {k : Nat} : ∀ ds : List D, (∀ d ∈ ds, Sp k d) → ∃ ps, toPL ds = some ps ∧ PyData.canLayAll0 ps = true ∧ PyData.depthAll ps ≤ k ∧ ps.length = ds.length
  | [], _ => ⟨[], rfl, by simp [PyData.canLayAll0], by simp [PyData.depthAll], rfl⟩
  | d :: ds, h => by
    obtain ⟨p, a1, a2, a3⟩ := h d List.mem_cons_self
    obtain ⟨ps, b1, b2, b3, b4⟩ := sp_all ds fun x hx => h x (List.mem_cons_of_mem _ hx)
    refine ⟨p :: ps, by simp [toPL, a1, b1], by simp [PyData.canLayAll0, a2, b2], ?_, by simp [b4]⟩
    simp [PyData.depthAll]; omega
theorem sp_lst {k : Nat} {o : Bool} {ds : List D} (h : ∀ d ∈ ds, Sp k d) : Sp (k + 1) (.lst o ds) := by
  obtain ⟨ps, b1, b2, b3, _⟩ := sp_all ds h
  exact ⟨.list ps, by simp [toP, b1], by simpa [PyData.canLay0] using b2, by simp [PyData.depth]; omega⟩
theorem sp_tup {k : Nat} {ds : List D} (h : ∀ d ∈ ds, Sp k d) : Sp (k + 1) (.tup ds) := by
  obtain ⟨ps, b1, b2, b3, _⟩ := sp_all ds h
  exact ⟨.tuple ps, by simp [toP, b1], by simpa [PyData.canLay0] using b2, by simp [PyData.depth]; omega⟩
theorem eqE_ne {R : An} {o : Bool} {ds : List D} (hR : R.d = .lst o ds) (hne : ds ≠ []) (h : ∀ d ∈ ds, Sp 50 d) : eqAE R (an (eL false eU) ([] : List Unit)) = some false := by
  obtain ⟨ps, b1, b2, b3, b4⟩ := sp_all ds h
  have hp : ps ≠ [] := fun z => by rw [z] at b4; exact hne (List.eq_nil_of_length_eq_zero b4.symm)
  have e1 : eqA R (an (eL false eU) ([] : List Unit)) = some false := by
    unfold eqA
    rw [hR]
    show eqB (.lst o ds) (.lst false []) = _
    unfold eqB
    rw [show toP (.lst o ds) = some (.list ps) by simp [toP, b1], show toP (.lst false []) = some (.list []) by simp [toP, toPL], Option.bind_some, Option.bind_some, if_pos ⟨by simp [SeqAt.shaped, PyData.canLay0, PyData.depth, b2]; omega, by simp [SeqAt.shaped, PyData.canLay0, PyData.canLayAll0, PyData.depth, PyData.depthAll]⟩]
    congr 1
    cases ps with
    | nil => exact absurd rfl hp
    | cons p ps => simp [PyData.eqv, PyData.eqvAll]
  unfold eqAE
  rw [e1]
theorem over_ex (c : Int) {r o : Rm} {hi wi : Int} (hr : RmG r hi wi) (ho : RmG o hi wi) : ∃ q : Rm, t_lw_over c r o hi wi = some q ∧ q.1 = r.1 ∧ q.2.2.2.2.2 = r.2.2.2.2.2 ∧ apart o q = false := by
  obtain ⟨_, _, t0, t1, t2, l0, l1, l2⟩ := ho
  unfold t_lw_over
  have m1 := mod_in (c / 64) o.2.2.2.1 (by omega)
  have m2 := mod_in (c / 256) o.2.2.2.2.1 (by omega)
  generalize hx1 : c / 64 % o.2.2.2.1 = x1 at *
  generalize hx2 : c / 256 % o.2.2.2.2.1 = x2 at *
  rw [modT_ok (by omega), Option.bind_some, Option.bind_some, modT_ok (by omega), Option.bind_some, Option.bind_some, hx1, hx2]
  have m3 := mod_in (c / 1024) (o.2.1 + x1 + 1) (by omega)
  have m4 := mod_in (c / 4096) (hi - (o.2.1 + x1)) (by omega)
  have m5 := mod_in (c / 65536) (o.2.2.1 + x2 + 1) (by omega)
  have m6 := mod_in (c / 1048576) (wi - (o.2.2.1 + x2)) (by omega)
  rw [modT_ok (by omega), Option.bind_some, modT_ok (by omega), Option.bind_some, Option.bind_some, modT_ok (by omega), Option.bind_some, modT_ok (by omega), Option.bind_some, Option.bind_some, Option.bind_some]
  refine ⟨_, rfl, rfl, rfl, ?_⟩
  unfold apart
  dsimp only
  simp only [Bool.or_eq_false_iff, decide_eq_false_iff_not]
  omega
theorem isiT6 (x : An) {a b c d e f : D} (h : x.d = .tup [a, b, c, d, e, f]) : isiA "tuple" x = some true ∧ lenA x = some 6 := by
  constructor
  · unfold isiA; rw [h]; exact kit_tuple_tuple
  · unfold lenA; rw [h]; rfl
theorem d6_six (a b c d e f : An) : (d6 dA dA dA dA dA dA) (.tup [a.d, b.d, c.d, d.d, e.d, f.d]) = some (a, b, c, d, e, f) := by
  have := Dc.od (e := e6 eA eA eA eA eA eA) (a, b, c, d, e, f)
  exact this
theorem six_bad {x a b c d e f : An} {hi wi : Int} (h : x.d = .tup [a.d, b.d, c.d, d.d, e.d, f.d]) (wb : Wh b) (wc : Wh c) (wd : Wh d) (we : Wh e) (hn : t_is_name__X1 a = some false ∨ (t_is_name__X1 a = some true ∧ wayA f = some true) ∨ (t_is_name__X1 a = some true ∧ wayA f = some false ∧ numsB (dI b.d) (dI c.d) (dI d.d) (dI e.d) hi wi = false)) : t_is_room__X1 x hi wi = some false := by
  obtain ⟨h1, h2⟩ := isiT6 x h
  rw [room_any (u := (a, b, c, d, e, f)) h1 h2 (by rw [h]; exact d6_six a b c d e f) wb wc wd we]
  dsimp only
  rcases hn with q | ⟨q1, q2⟩ | ⟨q1, q2, q3⟩
  · rw [q]; rfl
  · rw [q1, q2]; rfl
  · rw [q1, q2, q3]; rfl
abbrev six (a b c d e f : An) : An := an (eV eA) [a, b, c, d, e, f]
theorem sp_six {a b c d e f : An} (ha : Sp 9 a.d) (hb : Sp 9 b.d) (hc : Sp 9 c.d) (hd : Sp 9 d.d) (he : Sp 9 e.d) (hf : Sp 9 f.d) : Sp 10 (six a b c d e f).d := by
  show Sp (9 + 1) (.tup [a.d, b.d, c.d, d.d, e.d, f.d])
  refine sp_tup fun x hx => ?_
  simp only [List.mem_cons, List.not_mem_nil, or_false] at hx
  rcases hx with rfl | rfl | rfl | rfl | rfl | rfl <;> assumption
theorem num_ex (c : Int) {r : Rm} {hi wi : Int} (hr : RmG r hi wi) : ∃ x, t_lw_number c r hi wi = some x ∧ t_is_room__X1 x hi wi = some false ∧ Sp 10 x.d := by
  obtain ⟨nm, wy, t0, t1, t2, l0, l1, l2⟩ := hr
  have hname := name_ok nm
  have hway := way_ok wy
  have m4 := mod_in (c / 4) 6 (by omega)
  have hc := mod_in c 4 (by omega)
  unfold t_lw_number
  dsimp only
  have h4 : c % 4 = 0 ∨ c % 4 = 1 ∨ c % 4 = 2 ∨ c % 4 = 3 := by omega
  have spI : ∀ n : Int, Sp 9 (an eI n).d := fun n => (sp_pe (e := eI) n).mono (by omega)
  have spS : ∀ n : Ts, Sp 9 (an eS n).d := fun n => (sp_pe (e := eS) n).mono (by omega)
  rcases h4 with q | q | q | q <;> rw [q]
  · obtain ⟨b, eb, hb, hs, hw⟩ := atI_all (xs := [an eI (-1), an eU (), an eB true, an eS ['0'], an eI hi, an eI (hi - r.2.2.2.1 + 1)]) (P := fun b => numsB (dI b.d) (some r.2.2.1) (some r.2.2.2.1) (some r.2.2.2.2.1) hi wi = false ∧ Sp 9 b.d ∧ Wh b) m4.1 m4.2 (by
      intro x hx
      simp only [List.mem_cons, List.not_mem_nil, or_false] at hx
      rcases hx with rfl | rfl | rfl | rfl | rfl | rfl
      · exact ⟨by rw [dI_an]; simp [numsB, amB], spI _, whole_I _⟩
      · exact ⟨by simp [numsB, amB, dI, an, eU], (sp_pe (e := eU) ()).mono (by omega), whole_U⟩
      · exact ⟨by simp [numsB, amB, dI, an, eB], (sp_pe (e := eB) true).mono (by omega), whole_B _⟩
      · exact ⟨by simp [numsB, amB, dI, an, eS], spS _, whole_S _⟩
      · refine ⟨?_, spI _, whole_I _⟩
        rw [dI_an]; simp [numsB, amB]; omega
      · refine ⟨?_, spI _, whole_I _⟩
        rw [dI_an]; simp [numsB, amB]; omega)
    have e1 : (atI [hi, wi, hi + 1, wi + 1] ((1 : Int) + 0 - 1)) = some hi := rfl
    have e2 : (atI [hi - r.2.2.2.1, wi - r.2.2.2.2.1, hi - r.2.1, wi - r.2.2.1] ((1 : Int) + 0 - 1)) = some (hi - r.2.2.2.1) := rfl
    have e3 : atI ([[an eI (-1), an eU (), an eB true, an eS ['0']], [an eI (-1), an eU (), an eB false, an eS ['0']], [an eI 0, an eU (), an eB true, an eS ['1']], [an eI 1, an eU (), an eB true, an eS ['2']]] : List (List An)) ((1 : Int) + 0 - 1) = some [an eI (-1), an eU (), an eB true, an eS ['0']] := rfl
    refine ⟨six (an eS r.1) b (an eI r.2.2.1) (an eI r.2.2.2.1) (an eI r.2.2.2.2.1) (an eS r.2.2.2.2.2), ?_, six_bad (a := an eS r.1) rfl hw (whole_I _) (whole_I _) (whole_I _) (.inr (.inr ⟨hname, hway, hb⟩)), sp_six (spS _) hs (spI _) (spI _) (spI _) (spS _)⟩
    rw [e1, Option.bind_some, e2, Option.bind_some, Option.bind_some, e3, Option.bind_some, catL_ok (by simp [LIM]), Option.bind_some]
    refine (congrArg (Option.bind · _) eb).trans ?_
    rfl
  · obtain ⟨b, eb, hb, hs, hw⟩ := atI_all (xs := [an eI (-1), an eU (), an eB false, an eS ['0'], an eI wi, an eI (wi - r.2.2.2.2.1 + 1)]) (P := fun b => numsB (some r.2.1) (dI b.d) (some r.2.2.2.1) (some r.2.2.2.2.1) hi wi = false ∧ Sp 9 b.d ∧ Wh b) m4.1 m4.2 (by
      intro x hx
      simp only [List.mem_cons, List.not_mem_nil, or_false] at hx
      rcases hx with rfl | rfl | rfl | rfl | rfl | rfl
      · exact ⟨by rw [dI_an]; simp [numsB, amB], spI _, whole_I _⟩
      · exact ⟨by simp [numsB, amB, dI, an, eU], (sp_pe (e := eU) ()).mono (by omega), whole_U⟩
      · exact ⟨by simp [numsB, amB, dI, an, eB], (sp_pe (e := eB) false).mono (by omega), whole_B _⟩
      · exact ⟨by simp [numsB, amB, dI, an, eS], spS _, whole_S _⟩
      · refine ⟨?_, spI _, whole_I _⟩
        rw [dI_an]; simp [numsB, amB]; omega
      · refine ⟨?_, spI _, whole_I _⟩
        rw [dI_an]; simp [numsB, amB]; omega)
    have e1 : (atI [hi, wi, hi + 1, wi + 1] ((1 : Int) + 1 - 1)) = some wi := rfl
    have e2 : (atI [hi - r.2.2.2.1, wi - r.2.2.2.2.1, hi - r.2.1, wi - r.2.2.1] ((1 : Int) + 1 - 1)) = some (wi - r.2.2.2.2.1) := rfl
    have e3 : atI ([[an eI (-1), an eU (), an eB true, an eS ['0']], [an eI (-1), an eU (), an eB false, an eS ['0']], [an eI 0, an eU (), an eB true, an eS ['1']], [an eI 1, an eU (), an eB true, an eS ['2']]] : List (List An)) ((1 : Int) + 1 - 1) = some [an eI (-1), an eU (), an eB false, an eS ['0']] := rfl
    refine ⟨six (an eS r.1) (an eI r.2.1) b (an eI r.2.2.2.1) (an eI r.2.2.2.2.1) (an eS r.2.2.2.2.2), ?_, six_bad (a := an eS r.1) rfl (whole_I _) hw (whole_I _) (whole_I _) (.inr (.inr ⟨hname, hway, hb⟩)), sp_six (spS _) (spI _) hs (spI _) (spI _) (spS _)⟩
    rw [e1, Option.bind_some, e2, Option.bind_some, Option.bind_some, e3, Option.bind_some, catL_ok (by simp [LIM]), Option.bind_some]
    refine (congrArg (Option.bind · _) eb).trans ?_
    rfl
  · obtain ⟨b, eb, hb, hs, hw⟩ := atI_all (xs := [an eI 0, an eU (), an eB true, an eS ['1'], an eI (hi + 1), an eI (hi - r.2.1 + 1)]) (P := fun b => numsB (some r.2.1) (some r.2.2.1) (dI b.d) (some r.2.2.2.2.1) hi wi = false ∧ Sp 9 b.d ∧ Wh b) m4.1 m4.2 (by
      intro x hx
      simp only [List.mem_cons, List.not_mem_nil, or_false] at hx
      rcases hx with rfl | rfl | rfl | rfl | rfl | rfl
      · exact ⟨by rw [dI_an]; simp [numsB, amB], spI _, whole_I _⟩
      · exact ⟨by simp [numsB, amB, dI, an, eU], (sp_pe (e := eU) ()).mono (by omega), whole_U⟩
      · exact ⟨by simp [numsB, amB, dI, an, eB], (sp_pe (e := eB) true).mono (by omega), whole_B _⟩
      · exact ⟨by simp [numsB, amB, dI, an, eS], spS _, whole_S _⟩
      · refine ⟨?_, spI _, whole_I _⟩
        rw [dI_an]; simp [numsB, amB]; omega
      · refine ⟨?_, spI _, whole_I _⟩
        rw [dI_an]; simp [numsB, amB]; omega)
    have e1 : (atI [hi, wi, hi + 1, wi + 1] ((1 : Int) + 2 - 1)) = some (hi + 1) := rfl
    have e2 : (atI [hi - r.2.2.2.1, wi - r.2.2.2.2.1, hi - r.2.1, wi - r.2.2.1] ((1 : Int) + 2 - 1)) = some (hi - r.2.1) := rfl
    have e3 : atI ([[an eI (-1), an eU (), an eB true, an eS ['0']], [an eI (-1), an eU (), an eB false, an eS ['0']], [an eI 0, an eU (), an eB true, an eS ['1']], [an eI 1, an eU (), an eB true, an eS ['2']]] : List (List An)) ((1 : Int) + 2 - 1) = some [an eI 0, an eU (), an eB true, an eS ['1']] := rfl
    refine ⟨six (an eS r.1) (an eI r.2.1) (an eI r.2.2.1) b (an eI r.2.2.2.2.1) (an eS r.2.2.2.2.2), ?_, six_bad (a := an eS r.1) rfl (whole_I _) (whole_I _) hw (whole_I _) (.inr (.inr ⟨hname, hway, hb⟩)), sp_six (spS _) (spI _) (spI _) hs (spI _) (spS _)⟩
    rw [e1, Option.bind_some, e2, Option.bind_some, Option.bind_some, e3, Option.bind_some, catL_ok (by simp [LIM]), Option.bind_some]
    refine (congrArg (Option.bind · _) eb).trans ?_
    rfl
  · obtain ⟨b, eb, hb, hs, hw⟩ := atI_all (xs := [an eI 1, an eU (), an eB true, an eS ['2'], an eI (wi + 1), an eI (wi - r.2.2.1 + 1)]) (P := fun b => numsB (some r.2.1) (some r.2.2.1) (some r.2.2.2.1) (dI b.d) hi wi = false ∧ Sp 9 b.d ∧ Wh b) m4.1 m4.2 (by
      intro x hx
      simp only [List.mem_cons, List.not_mem_nil, or_false] at hx
      rcases hx with rfl | rfl | rfl | rfl | rfl | rfl
      · exact ⟨by rw [dI_an]; simp [numsB, amB], spI _, whole_I _⟩
      · exact ⟨by simp [numsB, amB, dI, an, eU], (sp_pe (e := eU) ()).mono (by omega), whole_U⟩
      · exact ⟨by simp [numsB, amB, dI, an, eB], (sp_pe (e := eB) true).mono (by omega), whole_B _⟩
      · exact ⟨by simp [numsB, amB, dI, an, eS], spS _, whole_S _⟩
      · refine ⟨?_, spI _, whole_I _⟩
        rw [dI_an]; simp [numsB, amB]; omega
      · refine ⟨?_, spI _, whole_I _⟩
        rw [dI_an]; simp [numsB, amB]; omega)
    have e1 : (atI [hi, wi, hi + 1, wi + 1] ((1 : Int) + 3 - 1)) = some (wi + 1) := rfl
    have e2 : (atI [hi - r.2.2.2.1, wi - r.2.2.2.2.1, hi - r.2.1, wi - r.2.2.1] ((1 : Int) + 3 - 1)) = some (wi - r.2.2.1) := rfl
    have e3 : atI ([[an eI (-1), an eU (), an eB true, an eS ['0']], [an eI (-1), an eU (), an eB false, an eS ['0']], [an eI 0, an eU (), an eB true, an eS ['1']], [an eI 1, an eU (), an eB true, an eS ['2']]] : List (List An)) ((1 : Int) + 3 - 1) = some [an eI 1, an eU (), an eB true, an eS ['2']] := rfl
    refine ⟨six (an eS r.1) (an eI r.2.1) (an eI r.2.2.1) (an eI r.2.2.2.1) b (an eS r.2.2.2.2.2), ?_, six_bad (a := an eS r.1) rfl (whole_I _) (whole_I _) (whole_I _) hw (.inr (.inr ⟨hname, hway, hb⟩)), sp_six (spS _) (spI _) (spI _) (spI _) hs (spS _)⟩
    rw [e1, Option.bind_some, e2, Option.bind_some, Option.bind_some, e3, Option.bind_some, catL_ok (by simp [LIM]), Option.bind_some]
    refine (congrArg (Option.bind · _) eb).trans ?_
    rfl
theorem bad_ex (c : Int) {r : Rm} {ahead : List Rm} {hi wi : Int} (hr : RmG r hi wi) (ha : ∀ o ∈ ahead, RmG o hi wi) : ∃ x, t_lw_bad c r ahead hi wi = some x ∧ BadR x ahead hi wi ∧ Sp 10 x.d := by
  have hname := name_ok hr.nm
  have hway := way_ok hr.wy
  have spI : ∀ n : Int, Sp 9 (an eI n).d := fun n => (sp_pe (e := eI) n).mono (by omega)
  have spS : ∀ n : Ts, Sp 9 (an eS n).d := fun n => (sp_pe (e := eS) n).mono (by omega)
  have spR : ∀ q : Rm, Sp 10 (aRm q).d := fun q => (sp_pe (e := e6 eS eI eI eI eI eS) q).mono (by decide)
  have number : ∃ x, t_lw_number (c / 8) r hi wi = some x ∧ BadR x ahead hi wi ∧ Sp 10 x.d := by
    obtain ⟨x, a1, a2, a3⟩ := num_ex (c / 8) hr
    exact ⟨x, a1, .inl a2, a3⟩
  have pick : ahead ≠ [] → ∃ o ∈ ahead, ((modT (c / 8) (List.length ahead : Int)).bind fun v7_ => (atI ahead v7_)) = some o := fun hne => by
    have hp := List.length_pos_iff.mpr hne
    have m := mod_in (c / 8) (ahead.length : Int) (by omega)
    obtain ⟨o, h1, h2⟩ := atI_ok m.1 m.2
    exact ⟨o, h1, by rw [modT_ok (by omega), Option.bind_some, h2]⟩
  unfold t_lw_bad
  dsimp only
  split
  · have m := mod_in (c / 8) 5 (by omega)
    obtain ⟨x, e, h1, h2⟩ := atI_all (xs := [an eU (), an (eL false eA) [an eS r.1, an eI r.2.1, an eI r.2.2.1, an eI r.2.2.2.1, an eI r.2.2.2.2.1, an eS r.2.2.2.2.2], an eS ['r', 'o', 'o', 'm'], an eI 7, an e0 ()]) (P := fun x => t_is_room__X1 x hi wi = some false ∧ Sp 10 x.d) m.1 m.2 (by
      intro x hx
      simp only [List.mem_cons, List.not_mem_nil, or_false] at hx
      rcases hx with rfl | rfl | rfl | rfl | rfl
      · exact ⟨notup (by exact kit_NoneType_tuple) _ _, (sp_pe (e := eU) ()).mono (by omega)⟩
      · refine ⟨notup (by exact kit_list_tuple) _ _, ?_⟩
        show Sp (9 + 1) (.lst false [(an eS r.1).d, (an eI r.2.1).d, (an eI r.2.2.1).d, (an eI r.2.2.2.1).d, (an eI r.2.2.2.2.1).d, (an eS r.2.2.2.2.2).d])
        refine sp_lst fun y hy => ?_
        simp only [List.mem_cons, List.not_mem_nil, or_false] at hy
        rcases hy with rfl | rfl | rfl | rfl | rfl | rfl <;> first | exact spI _ | exact spS _
      · exact ⟨notup (by exact kit_str_tuple) _ _, (spS _).mono (by omega)⟩
      · exact ⟨notup (by exact kit_int_tuple) _ _, (spI _).mono (by omega)⟩
      · refine ⟨notsix (n := 0) (by exact kit_tuple_tuple) (by rfl) (by omega) _ _, ?_⟩
        exact (sp_tup (k := 0) (ds := []) (fun d hd => by cases hd)).mono (by omega))
    exact ⟨x, e, .inl h1, h2⟩
  split
  · have m := mod_in (c / 8) 2 (by omega)
    obtain ⟨x, e, h1, h2⟩ := atI_all (xs := [an (e5 eS eI eI eI eI) (r.1, r.2.1, r.2.2.1, r.2.2.2.1, r.2.2.2.2.1), an (e7 eS eI eI eI eI eS eI) (r.1, r.2.1, r.2.2.1, r.2.2.2.1, r.2.2.2.2.1, r.2.2.2.2.2, (0 : Int))]) (P := fun x => t_is_room__X1 x hi wi = some false ∧ Sp 10 x.d) m.1 m.2 (by
      intro x hx
      simp only [List.mem_cons, List.not_mem_nil, or_false] at hx
      rcases hx with rfl | rfl
      · exact ⟨notsix (n := 5) (by exact kit_tuple_tuple) (by rfl) (by omega) _ _, (sp_pe (e := e5 eS eI eI eI eI) (r.1, r.2.1, r.2.2.1, r.2.2.2.1, r.2.2.2.2.1)).mono (by decide)⟩
      · refine ⟨notsix (n := 7) (by exact kit_tuple_tuple) (by rfl) (by omega) _ _, ?_⟩
        show Sp (9 + 1) (.tup [(an eS r.1).d, (an eI r.2.1).d, (an eI r.2.2.1).d, (an eI r.2.2.2.1).d, (an eI r.2.2.2.2.1).d, (an eS r.2.2.2.2.2).d, (an eI 0).d])
        refine sp_tup fun y hy => ?_
        simp only [List.mem_cons, List.not_mem_nil, or_false] at hy
        rcases hy with rfl | rfl | rfl | rfl | rfl | rfl | rfl <;> first | exact spI _ | exact spS _)
    exact ⟨x, e, .inl h1, h2⟩
  split
  · have m := mod_in (c / 8) 7 (by omega)
    obtain ⟨v, e, h1, h2⟩ := atI_all (xs := [an eU (), an eS ([] : Ts), an eS ['A'], an eS ['a', 'b', 'c', 'd', 'e', 'f', 'g', 'h', 'i'], an eS ['a', ' ', 'b'], an eI 1, an (eL false eS) [(['a'] : Ts)]]) (P := fun v => t_is_name__X1 v = some false ∧ Sp 9 v.d) m.1 m.2 (by
      intro x hx
      simp only [List.mem_cons, List.not_mem_nil, or_false] at hx
      have ns : ∀ x : An, isiA "str" x = some false → t_is_name__X1 x = some false := fun x h => by unfold t_is_name__X1; rw [h]; rfl
      have s1 : ∀ s : Ts, t_is_name__X1 (an eS s) = (some true).bind (fun v1_ => ((some (!v1_)).bind fun v2_ => (if v2_ = true then some true else (((lenA (an eS s)).bind fun v3_ => (if decide ((1 : Int) ≤ v3_) = true then some (decide (v3_ ≤ (8 : Int))) else some false)).bind fun v4_ => some (!v4_)))).bind fun v5_ => if v5_ = true then some false else (((dS (an eS s).d).bind fun v6_ => some (chars v6_)).bind fun v7_ => (forT (τ := Bool) (fun (s8_ : Unit) (sign : Ts) => (((inS sign ['a', 'b', 'c', 'd', 'e', 'f', 'g', 'h', 'i', 'j', 'k', 'l', 'm', 'n', 'o', 'p', 'q', 'r', 's', 't', 'u', 'v', 'w', 'x', 'y', 'z']).bind fun k => some (!k)).bind fun v9_ => if v9_ = true then some (.rt false : (St Unit Bool)) else some (.nx () : (St Unit Bool)))) v7_ ()).bind fun u => seqT u fun (s8_ : Unit) => some true)) := fun s => by
        unfold t_is_name__X1
        rw [isiA_S, kit_str_str]
        rfl
      rcases hx with rfl | rfl | rfl | rfl | rfl | rfl | rfl
      · exact ⟨ns _ kit_NoneType_str, (sp_pe (e := eU) ()).mono (by omega)⟩
      · exact ⟨by rw [s1]; rfl, spS _⟩
      · exact ⟨by rw [s1]; rfl, spS _⟩
      · exact ⟨by rw [s1]; rfl, spS _⟩
      · exact ⟨by rw [s1]; rfl, spS _⟩
      · exact ⟨ns _ kit_int_str, spI _⟩
      · exact ⟨ns _ kit_list_str, (sp_pe (e := eL false eS) [(['a'] : Ts)]).mono (by decide)⟩)
    rw [e, Option.bind_some, Option.bind_some, Option.bind_some]
    refine ⟨_, rfl, .inl ?_, ?_⟩
    · exact six_bad (a := v) (b := an eI r.2.1) (c := an eI r.2.2.1) (d := an eI r.2.2.2.1) (e := an eI r.2.2.2.2.1) (f := an eS r.2.2.2.2.2) rfl (whole_I _) (whole_I _) (whole_I _) (whole_I _) (.inl h1)
    · exact sp_six h2 (spI r.2.1) (spI r.2.2.1) (spI r.2.2.2.1) (spI r.2.2.2.2.1) (spS r.2.2.2.2.2)
  split
  · have m := mod_in (c / 8) 6 (by omega)
    obtain ⟨v, e, h1, h2⟩ := atI_all (xs := [an eU (), an eS ([] : Ts), an eS ['e', 'v', 'e', 'n', ' '], an eS ['c', 'e', 'l', 'l', 's', ','], an eI 0, an (e1 eS) (['c', 'u', 't'] : Ts)]) (P := fun v => wayA v = some true ∧ Sp 9 v.d) m.1 m.2 (by
      intro x hx
      simp only [List.mem_cons, List.not_mem_nil, or_false] at hx
      have ns : ∀ x : An, isiA "str" x = some false → wayA x = some true := fun x h => by unfold wayA; rw [h]; rfl
      have s1 : ∀ s : Ts, wayA (an eS s) = some (!memT s ([['c', 'u', 't'], ['c', 'e', 'l', 'l', 's'], ['w', 'o', 'r', 'd', 's'], ['e', 'v', 'e', 'n']] : List Ts)) := fun s => by
        unfold wayA
        rw [isiA_S, kit_str_str, Option.bind_some, Option.bind_some, if_neg (by decide), dS_an, Option.bind_some]
      rcases hx with rfl | rfl | rfl | rfl | rfl | rfl
      · exact ⟨ns _ kit_NoneType_str, (sp_pe (e := eU) ()).mono (by omega)⟩
      · exact ⟨by rw [s1]; decide, spS _⟩
      · exact ⟨by rw [s1]; decide, spS _⟩
      · exact ⟨by rw [s1]; decide, spS _⟩
      · exact ⟨ns _ kit_int_str, spI _⟩
      · exact ⟨ns _ kit_tuple_str, (sp_pe (e := e1 eS) (['c', 'u', 't'] : Ts)).mono (by decide)⟩)
    rw [e, Option.bind_some, Option.bind_some, Option.bind_some]
    refine ⟨_, rfl, .inl ?_, ?_⟩
    · exact six_bad (a := an eS r.1) (b := an eI r.2.1) (c := an eI r.2.2.1) (d := an eI r.2.2.2.1) (e := an eI r.2.2.2.2.1) (f := v) rfl (whole_I _) (whole_I _) (whole_I _) (whole_I _) (.inr (.inl ⟨hname, h1⟩))
    · exact sp_six (spS r.1) (spI r.2.1) (spI r.2.2.1) (spI r.2.2.2.1) (spI r.2.2.2.2.1) h2
  split
  · rename_i h4
    have hne : ahead ≠ [] := by
      simp only [Bool.and_eq_true, Bool.not_eq_true', decide_eq_false_iff_not] at h4
      exact h4.2
    obtain ⟨o, ho, eo⟩ := pick hne
    rw [eo, Option.bind_some, Option.bind_some, Option.bind_some, Option.bind_some]
    have hq : RmG (o.1, r.2.1, r.2.2.1, r.2.2.2.1, r.2.2.2.2.1, r.2.2.2.2.2) hi wi := ⟨(ha o ho).nm, hr.wy, hr.t0, hr.t1, hr.t2, hr.l0, hr.l1, hr.l2⟩
    refine ⟨aRm (o.1, r.2.1, r.2.2.1, r.2.2.2.1, r.2.2.2.2.1, r.2.2.2.2.2), rfl, .inr ⟨_, rfl, ?_, o, ho, .inl rfl⟩, spR _⟩
    rw [room_typed hq.nm hq.wy, numsB_ok hq]
  split
  · rename_i h5
    have hne : ahead ≠ [] := by
      simp only [Bool.and_eq_true, Bool.not_eq_true', decide_eq_false_iff_not] at h5
      exact h5.2
    obtain ⟨o, ho, eo⟩ := pick hne
    obtain ⟨q, eq, q1, q2, q3⟩ := over_ex c hr (ha o ho)
    rw [eo, Option.bind_some, eq, Option.bind_some]
    refine ⟨aRm q, rfl, ?_, spR _⟩
    have hty := room_typed (r := q) (by rw [q1]; exact hr.nm) (by rw [q2]; exact hr.wy) hi wi
    cases hb : numsB (some q.2.1) (some q.2.2.1) (some q.2.2.2.1) (some q.2.2.2.2.1) hi wi with
    | false => exact .inl (by rw [hty, hb])
    | true => exact .inr ⟨q, rfl, by rw [hty, hb], o, ho, .inr q3⟩
  · exact number
theorem eqW3 (s : Ts) (n : Int) (b : Bool) : eqB ((eO (e3 eS eA eB)) (some (s, an eI n, b))) ((eO (e3 eS eA eB)) (some (s, an eI n, b))) = some true :=
  (eqB_pe (e1 := eO (e3 eS eI eB)) (e2 := eO (e3 eS eI eB)) (e' := eO (e3 eS eI eB)) (by decide) (some (s, n, b)) (some (s, n, b))).trans (by rw [decide_eq_true rfl])
theorem ref_size {h w R : An} (hp : t_Plan_init__X1 h w R = some (.inl nsz)) : t_lw_refused h w R ((['s', 'i', 'z', 'e'] : Ts), an eI 0, true) = some true := by
  unfold t_lw_refused tryB bindX
  rw [hp]
  have g1 : okL xL_NoSize nsz.1 (exF nsz) = true := by decide
  have g2 : ((!(subX nsz.1 5)) && (subX nsz.1 0)) = true := by decide
  simp -implicitDefEqProofs only [Option.bind_some, if_true, g1, g2]
  exact eqW3 _ _ _
theorem ref_room {h w R : An} {k : Int} (hp : t_Plan_init__X1 h w R = some (.inl (nrm k))) : t_lw_refused h w R ((['r', 'o', 'o', 'm'] : Ts), an eI k, true) = some true := by
  unfold t_lw_refused tryB bindX
  rw [hp]
  have g1 : okL xL_NoSize (nrm k).1 (exF (nrm k)) = false := by show okL xL_NoSize 5 ["at"] = false; decide
  have g2 : okL xN_NoSize (nrm k).1 (exF (nrm k)) = true := by show okL xN_NoSize 5 ["at"] = true; decide
  have g3 : okL xL_NoRoom (nrm k).1 (exF (nrm k)) = true := by show okL xL_NoRoom 5 ["at"] = true; decide
  have g4 : subX (nrm k).1 0 = true := (by decide : subX 5 0 = true)
  have g5 : fldT "at" (nrm k) = some (an eI k) := rfl
  have g6 : (([6, 2, 1, 3] : List Nat).any (subX (nrm k).1)) = false := (by decide : (([6, 2, 1, 3] : List Nat).any (subX 5)) = false)
  simp -implicitDefEqProofs only [Option.bind_some, if_true, if_false, g1, g2, g3, g4, g5, g6, Bool.false_eq_true, isiA_I, kit_int_bool, Bool.not_false, Bool.and_self]
  exact eqW3 _ _ _
theorem plan_sz1 {h w R : An} (h1 : t_is_among__X1 h 1 12 = some false) : t_Plan_init__X1 h w R = some (.inl nsz) := by
  unfold t_Plan_init__X1
  rw [h1]; rfl
theorem plan_sz2 {h w R : An} (h1 : t_is_among__X1 h 1 12 = some true) (h2 : t_is_among__X1 w 2 40 = some false) : t_Plan_init__X1 h w R = some (.inl nsz) := by
  unfold t_Plan_init__X1
  rw [h1, h2]; rfl
theorem plan_none {hi wi : Int} {R : An} (a1 : 1 ≤ hi) (a2 : hi ≤ 12) (b1 : 2 ≤ wi) (b2 : wi ≤ 40) (h : isiA "list" R = some false ∨ (isiA "list" R = some true ∧ eqAE R (an (eL false eU) ([] : List Unit)) = some true)) : t_Plan_init__X1 (an eI hi) (an eI wi) R = some (.inl (nrm 0)) := by
  unfold t_Plan_init__X1
  rw [among_in a1 a2, among_in b1 b2, Option.bind_some, Option.bind_some, if_neg (by decide), Option.bind_some, Option.bind_some, if_neg (by decide)]
  rcases h with h | ⟨h, h2⟩
  · rw [h]; rfl
  · rw [h, h2]; rfl
theorem amF {x : An} {a b : Int} (h : Wh x) (h2 : amB (dI x.d) a b = false) : t_is_among__X1 x a b = some false := by rw [among_any h, h2]
theorem sizes_eq (ns : List Int) {hi wi : Int} (a1 : 1 ≤ hi) (a2 : hi ≤ 12) (rs : List Rm) : t_lw_sizes ns hi wi rs = some true := by
  unfold t_lw_sizes
  rw [show t_lw_cell ns 3 = some (ns.getD 3 0) from cell_eq ns 3, Option.bind_some]
  generalize ns.getD 3 0 = c
  have m4 := mod_in (c / 16) 4 (by omega)
  obtain ⟨R, eR, _⟩ := atI_all (xs := [an (eL false (e6 eS eI eI eI eI eS)) rs, an (eL false eU) ([] : List Unit), an eU (), an (eL false eU) [()]]) (P := fun _ => True) m4.1 m4.2 (fun _ _ => trivial)
  rw [eR, Option.bind_some]
  have m8 := mod_in (c / 2) 8 (by omega)
  split
  · obtain ⟨x, ex, hx⟩ := atI_all (xs := [an eI 0, an eI 13, an eI (-1), an eU (), an eB true, an eS ['5'], an eI 1000000000000000000000000000000, an (e1 eI) (5 : Int)]) (P := fun x => t_is_among__X1 x 1 12 = some false) m8.1 m8.2 (by
      intro x hx
      simp only [List.mem_cons, List.not_mem_nil, or_false] at hx
      rcases hx with rfl | rfl | rfl | rfl | rfl | rfl | rfl | rfl
      · exact amF (whole_I _) (by rw [dI_an]; decide)
      · exact amF (whole_I _) (by rw [dI_an]; decide)
      · exact amF (whole_I _) (by rw [dI_an]; decide)
      · exact amF whole_U rfl
      · exact amF (whole_B _) rfl
      · exact amF (whole_S _) rfl
      · exact amF (whole_I _) (by rw [dI_an]; decide)
      · exact amF (whole_no (by exact kit_tuple_int) rfl) rfl)
    rw [ex, Option.bind_some]
    exact ref_size (plan_sz1 hx)
  · obtain ⟨x, ex, hx⟩ := atI_all (xs := [an eI 1, an eI 41, an eI (-2), an eU (), an eB true, an eS ['3', '0'], an eI 1000000000000000000000000000000, an (eL false eI) [(30 : Int)]]) (P := fun x => t_is_among__X1 x 2 40 = some false) m8.1 m8.2 (by
      intro x hx
      simp only [List.mem_cons, List.not_mem_nil, or_false] at hx
      rcases hx with rfl | rfl | rfl | rfl | rfl | rfl | rfl | rfl
      · exact amF (whole_I _) (by rw [dI_an]; decide)
      · exact amF (whole_I _) (by rw [dI_an]; decide)
      · exact amF (whole_I _) (by rw [dI_an]; decide)
      · exact amF whole_U rfl
      · exact amF (whole_B _) rfl
      · exact amF (whole_S _) rfl
      · exact amF (whole_I _) (by rw [dI_an]; decide)
      · exact amF (whole_no (by exact kit_list_int) rfl) rfl)
    rw [ex, Option.bind_some]
    exact ref_size (plan_sz2 (among_in a1 a2) hx)
theorem taken_eq {rs : List Rm} {hi wi : Int} (a1 : 1 ≤ hi) (a2 : hi ≤ 12) (b1 : 2 ≤ wi) (b2 : wi ≤ 40) (h0 : rs ≠ []) (h6 : rs.length ≤ 6) (hr : ∀ r ∈ rs, RmG r hi wi) (hs : Rs rs) : t_lw_taken_b hi wi rs = some true := by
  unfold t_lw_taken_b
  rw [plan_init a1 a2 b1 b2 h0 h6 hr hs, Option.bind_some]
  unfold t_Plan_room_names
  dsimp only
  rw [compT_map (f := fun (r : Rm) => r.1) (by unfold LIM; omega) (fun x _ => rfl), Option.bind_some, Option.bind_some, decide_eq_true rfl]
theorem edges_eq {r : Rm} {hi wi : Int} (a1 : 1 ≤ hi) (a2 : hi ≤ 12) (b1 : 2 ≤ wi) (b2 : wi ≤ 40) (hr : RmG r hi wi) : t_lw_edges hi wi r = some true := by
  unfold t_lw_edges
  dsimp only
  rw [catL_ok (by simp [LIM]), Option.bind_some]
  obtain ⟨nm, wy, t0, t1, t2, l0, l1, l2⟩ := hr
  rw [compT_map (f := fun _ => true) (by simp [LIM]) (by
    intro x hx
    refine taken_eq a1 a2 b1 b2 (by simp) (by simp) (fun q hq => ?_) (List.pairwise_singleton _ _)
    rw [List.mem_singleton] at hq
    subst hq
    simp only [List.mem_append, List.mem_cons, List.not_mem_nil, or_false] at hx
    rcases hx with (rfl | rfl) | (rfl | rfl | rfl) <;> exact ⟨nm, wy, by dsimp only; omega, by dsimp only; omega, by dsimp only; omega, by dsimp only; omega, by dsimp only; omega, by dsimp only; omega⟩), Option.bind_some]
  rfl
theorem rs_sub {rs : List Rm} (h : Rs rs) (n : Nat) : Rs (rs.take n) := List.Pairwise.sublist (List.take_sublist n rs) h
theorem law_t (ns : List Int) (hl : ns.length ≤ 63) (hb : ∀ z ∈ ns, Builtin.Int.intBits z ≤ 1048576) : t_law ns = some true := by
  unfold t_law
  rw [show t_lw_cell ns 2 = some (ns.getD 2 0) from cell_eq ns 2, Option.bind_some]
  generalize ns.getD 2 0 = c
  dsimp only
  obtain ⟨hi, wi, rs, e1, h1, h2, w1, w2, hl7, hr, hs⟩ := good_ex ns
  rw [e1, Option.bind_some]
  dsimp only
  have m6 := mod_in (c / 4) 6 (by omega)
  obtain ⟨m, em, hm1, hm6⟩ : ∃ m : Nat, (1 : Int) + c / 4 % 6 = (m : Int) ∧ 1 ≤ m ∧ m ≤ 6 := ⟨(1 + c / 4 % 6).toNat, by omega, by omega, by omega⟩
  rw [em, show cutL rs none (some (m : Int)) = rs.take m from by rw [cut_to (by omega)]; congr 1]
  have gl : (rs.take m).length = m := by rw [List.length_take]; omega
  have gr : ∀ r ∈ rs.take m, RmG r hi wi := fun r h => hr r (List.mem_of_mem_take h)
  have gs := rs_sub hs m
  have gne : rs.take m ≠ [] := fun z => by rw [z] at gl; simp at gl; omega
  have tk := taken_eq (rs := rs.take m) (hi := hi) (wi := wi) (by omega) (by omega) (by omega) (by omega) gne (by omega) gr gs
  obtain ⟨la, ela, hla⟩ : ∃ la ∈ rs.take m, atI (rs.take m) (-1 : Int) = some la := by
    cases z : (rs.take m).getLast? with
    | none => exact absurd (List.getLast?_eq_none_iff.mp z) gne
    | some x =>
      refine ⟨x, List.mem_of_getLast? z, ?_⟩
      unfold atI ixN
      rw [if_neg (by omega), if_pos (by omega), Option.bind_some]
      rw [List.getLast?_eq_getElem?] at z
      rw [show ((-1 : Int) + ((rs.take m).length : Int)).toNat = (rs.take m).length - 1 by omega]
      exact z
  rw [tk, Option.bind_some, Option.bind_some, if_neg (by decide), hla, Option.bind_some, edges_eq (by omega) (by omega) (by omega) (by omega) (gr la ela), Option.bind_some, Option.bind_some, if_neg (by decide)]
  rw [sizes_eq ns (by omega) (by omega), Option.bind_some]
  have s1 : (if (decide ((c % 4) = (0 : Int))) = true then some (!true) else some false) = some false := by split <;> rfl
  rw [s1, Option.bind_some, if_neg (by decide)]
  rw [show dispT ([] : List (Ts × Int)) = some [] from by unfold dispT; simp, Option.bind_some, Option.bind_some, Option.bind_some]
  have m24 := mod_in (c / 24) 6 (by omega)
  obtain ⟨N, eN, hN⟩ := atI_all (xs := [an eU (), an e0 (), an eS ([] : Ts), an (eD false kS eI) ([] : List (Ts × Int)), an (eL false eU) ([] : List Unit), an eI 0]) (P := fun R => isiA "list" R = some false ∨ (isiA "list" R = some true ∧ eqAE R (an (eL false eU) ([] : List Unit)) = some true)) m24.1 m24.2 (by
    intro x hx
    simp only [List.mem_cons, List.not_mem_nil, or_false] at hx
    rcases hx with rfl | rfl | rfl | rfl | rfl | rfl
    · exact .inl (by exact kit_NoneType_list)
    · exact .inl (by exact kit_tuple_list)
    · exact .inl (by exact kit_str_list)
    · exact .inl (by exact kit_dict_list)
    · refine .inr ⟨by exact kit_list_list, ?_⟩
      have : eqA (an (eL false eU) ([] : List Unit)) (an (eL false eU) ([] : List Unit)) = some true := (eqB_pe (e1 := eL false eU) (e2 := eL false eU) (e' := eL false eU) (by decide) [] []).trans (by rw [decide_eq_true rfl])
      unfold eqAE
      rw [this]
    · exact .inl (by exact kit_int_list))
  rw [eN, Option.bind_some, ref_room (plan_none (by omega) (by omega) (by omega) (by omega) hN), Option.bind_some]
  have s2 : (if (decide ((c % 4) = (1 : Int))) = true then some (!true) else some false) = some false := by split <;> rfl
  rw [s2, Option.bind_some, if_neg (by decide)]
  -- seven rooms
  obtain ⟨last, hlast⟩ : ∃ q, rs = rs.take 6 ++ [q] := by
    have hh : rs.drop 6 ≠ [] := fun z => by have := congrArg List.length z; rw [List.length_drop] at this; simp at this; omega
    obtain ⟨q, qs, hq⟩ := List.exists_cons_of_ne_nil hh
    have hlq := congrArg List.length hq
    rw [List.length_drop, List.length_cons] at hlq
    have : qs = [] := List.eq_nil_of_length_eq_zero (by omega)
    subst this
    exact ⟨q, by rw [← hq, List.take_append_drop]⟩
  have hL : ∀ xs : List Rm, isiA "list" (an (eL false (e6 eS eI eI eI eI eS)) xs) = some true := fun xs => by exact kit_list_list
  have seven := plan_bad (hi := hi) (wi := wi) (R := an (eL false (e6 eS eI eI eI eI eS)) rs) (rs := rs.take 6) (x := aRm last) (rest := []) (by omega) (by omega) (by omega) (by omega) (hL rs) (eqE_ne (o := false) (ds := rs.map (e6 eS eI eI eI eI eS)) rfl (by rw [hlast]; simp) (by
    intro d hd
    obtain ⟨q, _, rfl⟩ := List.mem_map.mp hd
    exact (sp_pe (e := e6 eS eI eI eI eI eS) q).mono (by decide))) (by
    have := Dc.od (e := eL false eA) (rs.map aRm)
    rw [show (an (eL false (e6 eS eI eI eI eI eS)) rs).d = eL false eA (rs.map aRm) from by
      show D.lst false (rs.map (e6 eS eI eI eI eI eS)) = D.lst false ((rs.map aRm).map eA)
      rw [List.map_map]; rfl, this]
    congr 1
    conv => lhs; rw [hlast]
    rw [List.map_append]; rfl) (by rw [List.length_take]; omega) (fun r h => hr r (List.mem_of_mem_take h)) (rs_sub hs 6) (.inl (by rw [List.length_take]; omega))
  rw [show (rs.take 6).length = 6 by rw [List.length_take]; omega] at seven
  rw [ref_room (k := 6) seven, Option.bind_some]
  have s3 : (if (decide ((c % 4) = (2 : Int))) = true then some (!true) else some false) = some false := by split <;> rfl
  rw [s3, Option.bind_some, if_neg (by decide)]
  rw [show t_lw_cell ns 4 = some (ns.getD 4 0) from cell_eq ns 4, Option.bind_some, modT_ok (by omega), Option.bind_some]
  have mm := mod_in (ns.getD 4 0) (m : Int) (by omega)
  obtain ⟨a, ea, ha⟩ : ∃ a : Nat, ns.getD 4 0 % (m : Int) = (a : Int) ∧ a < m := ⟨(ns.getD 4 0 % (m : Int)).toNat, by omega, by omega⟩
  rw [ea]
  have hag : a < (rs.take m).length := by rw [gl]; exact ha
  rw [LI.atI_nat hag, Option.bind_some, show cutL (rs.take m) none (some (a : Int)) = (rs.take m).take a from by rw [cut_to (by omega)]; congr 1]
  obtain ⟨x, ex, hbad, hsp⟩ := bad_ex (ns.getD 4 0 / 8) (r := (rs.take m)[a]) (ahead := (rs.take m).take a) (gr _ (List.getElem_mem hag)) (fun o ho => gr o (List.mem_of_mem_take ho))
  rw [ex, Option.bind_some, Option.bind_some]
  have hset : setT ((rs.take m).map aRm) (a : Int) x = some (((rs.take m).take a).map aRm ++ x :: ((rs.take m).drop (a + 1)).map aRm) := by
    unfold setT ixN
    rw [if_pos (by omega), if_pos (by rw [List.length_map]; omega), Option.map_some, Int.toNat_natCast]
    congr 1
    rw [List.set_eq_take_append_cons_drop, if_pos (by rw [List.length_map]; exact hag), ← List.map_take, ← List.map_drop]
  rw [show setT (List.map (an (e6 eS eI eI eI eI eS)) (rs.take m)) (a : Int) x = _ from hset, Option.bind_some]
  rw [show t_lw_cell ns 5 = some (ns.getD 5 0) from cell_eq ns 5, Option.bind_some]
  generalize ns.getD 5 0 = c5
  have fin : ∀ rest : List An, (∀ y ∈ rest, Sp 12 y.d) → t_lw_refused (an eI hi) (an eI wi) (an (eL false eA) (((rs.take m).take a).map aRm ++ x :: rest)) ((['r', 'o', 'o', 'm'] : Ts), an eI (a : Int), true) = some true := fun rest hrest => by
    have hlen : ((rs.take m).take a).length = a := by rw [List.length_take]; omega
    have := plan_bad (hi := hi) (wi := wi) (R := an (eL false eA) (((rs.take m).take a).map aRm ++ x :: rest)) (rs := (rs.take m).take a) (x := x) (rest := rest) (by omega) (by omega) (by omega) (by omega) (by exact kit_list_list) (eqE_ne (o := false) (ds := (((rs.take m).take a).map aRm ++ x :: rest).map eA) rfl (by simp) (by
      intro d hd
      obtain ⟨y, hy, rfl⟩ := List.mem_map.mp hd
      rcases List.mem_append.mp hy with hy | hy
      · obtain ⟨q, _, rfl⟩ := List.mem_map.mp hy
        exact (sp_pe (e := e6 eS eI eI eI eI eS) q).mono (by decide)
      · rcases List.mem_cons.mp hy with rfl | hy
        · exact hsp.mono (by omega)
        · exact (hrest y hy).mono (by omega))) (Dc.od (e := eL false eA) _) (by omega) (fun r h => gr r (List.mem_of_mem_take h)) (rs_sub gs a) (.inr hbad)
    rw [hlen] at this
    exact ref_room this
  have hrest1 : ∀ y ∈ ((rs.take m).drop (a + 1)).map aRm, Sp 12 y.d := fun y hy => by
    obtain ⟨q, _, rfl⟩ := List.mem_map.mp hy
    exact (sp_pe (e := e6 eS eI eI eI eI eS) q).mono (by decide)
  split
  · have m3 := mod_in (c5 / 2) 3 (by omega)
    obtain ⟨y, ey, hy⟩ := atI_all (xs := [an eU (), an e0 (), an eI 5]) (P := fun y => Sp 12 y.d) m3.1 m3.2 (by
      intro z hz
      simp only [List.mem_cons, List.not_mem_nil, or_false] at hz
      rcases hz with rfl | rfl | rfl
      · exact (sp_pe (e := eU) ()).mono (by omega)
      · exact (sp_tup (k := 0) (ds := []) (fun d hd => by cases hd)).mono (by omega)
      · exact (sp_pe (e := eI) 5).mono (by omega))
    rw [ey, Option.bind_some, Option.bind_some, catL_ok (by rw [List.length_append, List.length_map, List.length_cons, List.length_map, List.length_take, List.length_drop, List.length_singleton]; unfold LIM; omega), Option.bind_some, Option.bind_some, List.append_assoc, List.cons_append, fin _ (by
      intro z hz
      rcases List.mem_append.mp hz with hz | hz
      · exact hrest1 z hz
      · rw [List.mem_singleton] at hz; rw [hz]; exact hy), Option.bind_some, Option.bind_some, if_neg (by decide)]
  · rw [Option.bind_some, fin _ hrest1, Option.bind_some, Option.bind_some, if_neg (by decide)]
end LW

namespace LW
open PySem L2 PyProof.Rows LI
def topS (i : Nat) : Stmt := PySem.Challenge.pw_outweave_k62_plans_refused.main.body.getD i (.Pass ⟨0, 0, 0, 0⟩)
abbrev s_is_name__X1 : Stmt := topS 12
abbrev N_is_name__X1 : List Str := ["thing", "sign"]
theorem sc_is_name__X1 : FnScope N_is_name__X1 ["thing"] (defScope s_is_name__X1) := ⟨rfl, rfl, rfl, by decide +kernel, rfl, by decide +kernel, by decide +kernel⟩
abbrev s_is_name : Stmt := topS 12
abbrev N_is_name : List Str := ["thing", "sign"]
theorem sc_is_name : FnScope N_is_name ["thing"] (defScope s_is_name) := ⟨rfl, rfl, rfl, by decide +kernel, rfl, by decide +kernel, by decide +kernel⟩
abbrev s_is_whole__X1 : Stmt := topS 19
abbrev N_is_whole__X1 : List Str := ["thing"]
theorem sc_is_whole__X1 : FnScope N_is_whole__X1 ["thing"] (defScope s_is_whole__X1) := ⟨rfl, rfl, rfl, by decide +kernel, rfl, by decide +kernel, by decide +kernel⟩
abbrev s_is_whole : Stmt := topS 19
abbrev N_is_whole : List Str := ["thing"]
theorem sc_is_whole : FnScope N_is_whole ["thing"] (defScope s_is_whole) := ⟨rfl, rfl, rfl, by decide +kernel, rfl, by decide +kernel, by decide +kernel⟩
abbrev s_is_among__X1 : Stmt := topS 20
abbrev N_is_among__X1 : List Str := ["thing", "least", "most"]
theorem sc_is_among__X1 : FnScope N_is_among__X1 ["thing", "least", "most"] (defScope s_is_among__X1) := ⟨rfl, rfl, rfl, by decide +kernel, rfl, by decide +kernel, by decide +kernel⟩
abbrev s_is_among : Stmt := topS 20
abbrev N_is_among : List Str := ["thing", "least", "most"]
theorem sc_is_among : FnScope N_is_among ["thing", "least", "most"] (defScope s_is_among) := ⟨rfl, rfl, rfl, by decide +kernel, rfl, by decide +kernel, by decide +kernel⟩
abbrev s_is_room__X1 : Stmt := topS 21
abbrev N_is_room__X1 : List Str := ["thing", "high", "wide", "name", "top", "left", "tall", "broad", "way"]
theorem sc_is_room__X1 : FnScope N_is_room__X1 ["thing", "high", "wide"] (defScope s_is_room__X1) := ⟨rfl, rfl, rfl, by decide +kernel, rfl, by decide +kernel, by decide +kernel⟩
abbrev s_is_room : Stmt := topS 21
abbrev N_is_room : List Str := ["thing", "high", "wide", "name", "top", "left", "tall", "broad", "way"]
theorem sc_is_room : FnScope N_is_room ["thing", "high", "wide"] (defScope s_is_room) := ⟨rfl, rfl, rfl, by decide +kernel, rfl, by decide +kernel, by decide +kernel⟩
abbrev s_is_apart : Stmt := topS 22
abbrev N_is_apart : List Str := ["one", "other"]
theorem sc_is_apart : FnScope N_is_apart ["one", "other"] (defScope s_is_apart) := ⟨rfl, rfl, rfl, by decide +kernel, rfl, by decide +kernel, by decide +kernel⟩
abbrev s_Plan_init__X1 : Stmt := L2.inClass (topS 23) 0
abbrev N_Plan_init__X1 : List Str := ["self", "high", "wide", "rooms", "at", "room", "other"]
theorem sc_Plan_init__X1 : FnScope N_Plan_init__X1 ["self", "high", "wide", "rooms"] (defScope s_Plan_init__X1) := ⟨rfl, rfl, rfl, by decide +kernel, rfl, by decide +kernel, by decide +kernel⟩
abbrev s_Plan_init : Stmt := L2.inClass (topS 23) 0
abbrev N_Plan_init : List Str := ["self", "high", "wide", "rooms", "at", "room", "other"]
theorem sc_Plan_init : FnScope N_Plan_init ["self", "high", "wide", "rooms"] (defScope s_Plan_init) := ⟨rfl, rfl, rfl, by decide +kernel, rfl, by decide +kernel, by decide +kernel⟩
abbrev s_Plan_room_names : Stmt := L2.inClass (topS 23) 2
abbrev N_Plan_room_names : List Str := ["self", "room"]
theorem sc_Plan_room_names : FnScope N_Plan_room_names ["self"] (defScope s_Plan_room_names) := ⟨rfl, rfl, rfl, by decide +kernel, rfl, by decide +kernel, by decide +kernel⟩
abbrev s_lw_cell_at : Stmt := topS 25
abbrev N_lw_cell_at : List Str := ["_law_script", "_law_k"]
theorem sc_lw_cell_at : FnScope N_lw_cell_at ["_law_script", "_law_k"] (defScope s_lw_cell_at) := ⟨rfl, rfl, rfl, by decide +kernel, rfl, by decide +kernel, by decide +kernel⟩
abbrev s_lw_mix : Stmt := topS 26
abbrev N_lw_mix : List Str := ["_law_cell", "_law_k", "_law_rest", "_law_turn", "_law_number_here"]
theorem sc_lw_mix : FnScope N_lw_mix ["_law_cell", "_law_k"] (defScope s_lw_mix) := ⟨rfl, rfl, rfl, by decide +kernel, rfl, by decide +kernel, by decide +kernel⟩
abbrev s_lw_names : Stmt := topS 27
abbrev N_lw_names : List Str := ["_law_cell", "_law_many", "_law_letters", "_law_base", "_law_k", "_law_at", "_law_names_here", "_law_sign"]
theorem sc_lw_names : FnScope N_lw_names ["_law_cell", "_law_many"] (defScope s_lw_names) := ⟨rfl, rfl, rfl, by decide +kernel, rfl, by decide +kernel, by decide +kernel⟩
abbrev s_lw_good : Stmt := topS 28
abbrev N_lw_good : List Str := ["_law_script", "_law_many", "_law_cell", "_law_names_here", "_law_rooms", "_law_at", "_law_k", "_law_tall", "_law_broad", "_law_way"]
theorem sc_lw_good : FnScope N_lw_good ["_law_script", "_law_many"] (defScope s_lw_good) := ⟨rfl, rfl, rfl, by decide +kernel, rfl, by decide +kernel, by decide +kernel⟩
abbrev s_lw_number : Stmt := topS 29
abbrev N_lw_number : List Str := ["_law_cell", "_law_room", "_law_high", "_law_wide", "_law_at", "_law_some", "_law_far", "_law_near", "_law_bad_here"]
theorem sc_lw_number : FnScope N_lw_number ["_law_cell", "_law_room", "_law_high", "_law_wide"] (defScope s_lw_number) := ⟨rfl, rfl, rfl, by decide +kernel, rfl, by decide +kernel, by decide +kernel⟩
abbrev s_lw_over : Stmt := topS 30
abbrev N_lw_over : List Str := ["_law_cell", "_law_room", "_law_other", "_law_high", "_law_wide", "_law_row", "_law_col", "_law_top", "_law_tall", "_law_left", "_law_broad"]
theorem sc_lw_over : FnScope N_lw_over ["_law_cell", "_law_room", "_law_other", "_law_high", "_law_wide"] (defScope s_lw_over) := ⟨rfl, rfl, rfl, by decide +kernel, rfl, by decide +kernel, by decide +kernel⟩
abbrev s_lw_bad : Stmt := topS 31
abbrev N_lw_bad : List Str := ["_law_cell", "_law_room", "_law_ahead", "_law_high", "_law_wide", "_law_way"]
theorem sc_lw_bad : FnScope N_lw_bad ["_law_cell", "_law_room", "_law_ahead", "_law_high", "_law_wide"] (defScope s_lw_bad) := ⟨rfl, rfl, rfl, by decide +kernel, rfl, by decide +kernel, by decide +kernel⟩
abbrev s_lw_refused : Stmt := topS 32
abbrev N_lw_refused : List Str := ["_law_high", "_law_wide", "_law_rooms", "_law_due", "_law_found", "e", "_law_good_here"]
theorem sc_lw_refused : FnScope N_lw_refused ["_law_high", "_law_wide", "_law_rooms", "_law_due"] (defScope s_lw_refused) := ⟨rfl, rfl, rfl, by decide +kernel, rfl, by decide +kernel, by decide +kernel⟩
abbrev s_lw_taken : Stmt := topS 33
abbrev N_lw_taken : List Str := ["_law_high", "_law_wide", "_law_rooms", "_law_room"]
theorem sc_lw_taken : FnScope N_lw_taken ["_law_high", "_law_wide", "_law_rooms"] (defScope s_lw_taken) := ⟨rfl, rfl, rfl, by decide +kernel, rfl, by decide +kernel, by decide +kernel⟩
abbrev s_lw_edges : Stmt := topS 34
abbrev N_lw_edges : List Str := ["_law_high", "_law_wide", "_law_room", "_law_name", "_law_top", "_law_left", "_law_tall", "_law_broad", "_law_way", "_law_some", "_law_one"]
theorem sc_lw_edges : FnScope N_lw_edges ["_law_high", "_law_wide", "_law_room"] (defScope s_lw_edges) := ⟨rfl, rfl, rfl, by decide +kernel, rfl, by decide +kernel, by decide +kernel⟩
abbrev s_lw_sizes : Stmt := topS 35
abbrev N_lw_sizes : List Str := ["_law_script", "_law_high", "_law_wide", "_law_rooms", "_law_cell", "_law_some", "_law_bad_here"]
theorem sc_lw_sizes : FnScope N_lw_sizes ["_law_script", "_law_high", "_law_wide", "_law_rooms"] (defScope s_lw_sizes) := ⟨rfl, rfl, rfl, by decide +kernel, rfl, by decide +kernel, by decide +kernel⟩
abbrev s_law : Stmt := topS 36
abbrev N_law : List Str := ["_law_script", "_law_cell", "_law_many", "_law_high", "_law_wide", "_law_rooms", "_law_good_here", "_law_none", "_law_first", "_law_at", "_law_spoilt", "_law_second"]
theorem sc_law : FnScope N_law ["_law_script"] (defScope s_law) := ⟨rfl, rfl, rfl, by decide +kernel, rfl, by decide +kernel, by decide +kernel⟩
abbrev s_NoRoom_init : Stmt := L2.inClass (topS 7) 0
theorem sc_NoRoom_init : FnScope ["self", "at"] ["self", "at"] (defScope s_NoRoom_init) := ⟨rfl, rfl, rfl, by decide +kernel, rfl, by decide +kernel, by decide +kernel⟩
structure Tx (K : PySem.W.Frag) (mg : Str → Option Value) (w : World) where
  cl : Nat → Addr
  a_is_name__X1 : Addr
  d_is_name__X1 : FuncData
  f_is_name__X1 : Fun K "is_name" "is_name" s_is_name__X1 a_is_name__X1 d_is_name__X1
  b_is_name__X1 : Binds K d_is_name__X1 ["thing"] []
  g_is_name__X1 : mg "is_name" = some (.ref a_is_name__X1)
  a_is_name : Addr
  d_is_name : FuncData
  f_is_name : Fun K "is_name" "is_name" s_is_name a_is_name d_is_name
  b_is_name : Binds K d_is_name ["thing"] []
  g_is_name : mg "is_name" = some (.ref a_is_name)
  a_is_whole__X1 : Addr
  d_is_whole__X1 : FuncData
  f_is_whole__X1 : Fun K "is_whole" "is_whole" s_is_whole__X1 a_is_whole__X1 d_is_whole__X1
  b_is_whole__X1 : Binds K d_is_whole__X1 ["thing"] []
  g_is_whole__X1 : mg "is_whole" = some (.ref a_is_whole__X1)
  a_is_whole : Addr
  d_is_whole : FuncData
  f_is_whole : Fun K "is_whole" "is_whole" s_is_whole a_is_whole d_is_whole
  b_is_whole : Binds K d_is_whole ["thing"] []
  g_is_whole : mg "is_whole" = some (.ref a_is_whole)
  a_is_among__X1 : Addr
  d_is_among__X1 : FuncData
  f_is_among__X1 : Fun K "is_among" "is_among" s_is_among__X1 a_is_among__X1 d_is_among__X1
  b_is_among__X1 : Binds K d_is_among__X1 ["thing", "least", "most"] []
  g_is_among__X1 : mg "is_among" = some (.ref a_is_among__X1)
  a_is_among : Addr
  d_is_among : FuncData
  f_is_among : Fun K "is_among" "is_among" s_is_among a_is_among d_is_among
  b_is_among : Binds K d_is_among ["thing", "least", "most"] []
  g_is_among : mg "is_among" = some (.ref a_is_among)
  a_is_room__X1 : Addr
  d_is_room__X1 : FuncData
  f_is_room__X1 : Fun K "is_room" "is_room" s_is_room__X1 a_is_room__X1 d_is_room__X1
  b_is_room__X1 : Binds K d_is_room__X1 ["thing", "high", "wide"] []
  g_is_room__X1 : mg "is_room" = some (.ref a_is_room__X1)
  a_is_room : Addr
  d_is_room : FuncData
  f_is_room : Fun K "is_room" "is_room" s_is_room a_is_room d_is_room
  b_is_room : Binds K d_is_room ["thing", "high", "wide"] []
  g_is_room : mg "is_room" = some (.ref a_is_room)
  a_is_apart : Addr
  d_is_apart : FuncData
  f_is_apart : Fun K "is_apart" "is_apart" s_is_apart a_is_apart d_is_apart
  b_is_apart : Binds K d_is_apart ["one", "other"] []
  g_is_apart : mg "is_apart" = some (.ref a_is_apart)
  a_Plan_init__X1 : Addr
  d_Plan_init__X1 : FuncData
  f_Plan_init__X1 : Fun K "__init__" "Plan.__init__" s_Plan_init__X1 a_Plan_init__X1 d_Plan_init__X1
  b_Plan_init__X1 : Binds K d_Plan_init__X1 ["self", "high", "wide", "rooms"] []
  a_Plan_init : Addr
  d_Plan_init : FuncData
  f_Plan_init : Fun K "__init__" "Plan.__init__" s_Plan_init a_Plan_init d_Plan_init
  b_Plan_init : Binds K d_Plan_init ["self", "high", "wide", "rooms"] []
  a_Plan_room_names : Addr
  d_Plan_room_names : FuncData
  f_Plan_room_names : Fun K "room_names" "Plan.room_names" s_Plan_room_names a_Plan_room_names d_Plan_room_names
  b_Plan_room_names : Binds K d_Plan_room_names ["self"] []
  a_lw_cell_at : Addr
  d_lw_cell_at : FuncData
  f_lw_cell_at : Fun K "_law_cell_at" "_law_cell_at" s_lw_cell_at a_lw_cell_at d_lw_cell_at
  b_lw_cell_at : Binds K d_lw_cell_at ["_law_script", "_law_k"] []
  g_lw_cell_at : mg "_law_cell_at" = some (.ref a_lw_cell_at)
  a_lw_mix : Addr
  d_lw_mix : FuncData
  f_lw_mix : Fun K "_law_mix" "_law_mix" s_lw_mix a_lw_mix d_lw_mix
  b_lw_mix : Binds K d_lw_mix ["_law_cell", "_law_k"] []
  g_lw_mix : mg "_law_mix" = some (.ref a_lw_mix)
  a_lw_names : Addr
  d_lw_names : FuncData
  f_lw_names : Fun K "_law_names" "_law_names" s_lw_names a_lw_names d_lw_names
  b_lw_names : Binds K d_lw_names ["_law_cell", "_law_many"] []
  g_lw_names : mg "_law_names" = some (.ref a_lw_names)
  a_lw_good : Addr
  d_lw_good : FuncData
  f_lw_good : Fun K "_law_good" "_law_good" s_lw_good a_lw_good d_lw_good
  b_lw_good : Binds K d_lw_good ["_law_script", "_law_many"] []
  g_lw_good : mg "_law_good" = some (.ref a_lw_good)
  a_lw_number : Addr
  d_lw_number : FuncData
  f_lw_number : Fun K "_law_number" "_law_number" s_lw_number a_lw_number d_lw_number
  b_lw_number : Binds K d_lw_number ["_law_cell", "_law_room", "_law_high", "_law_wide"] []
  g_lw_number : mg "_law_number" = some (.ref a_lw_number)
  a_lw_over : Addr
  d_lw_over : FuncData
  f_lw_over : Fun K "_law_over" "_law_over" s_lw_over a_lw_over d_lw_over
  b_lw_over : Binds K d_lw_over ["_law_cell", "_law_room", "_law_other", "_law_high", "_law_wide"] []
  g_lw_over : mg "_law_over" = some (.ref a_lw_over)
  a_lw_bad : Addr
  d_lw_bad : FuncData
  f_lw_bad : Fun K "_law_bad" "_law_bad" s_lw_bad a_lw_bad d_lw_bad
  b_lw_bad : Binds K d_lw_bad ["_law_cell", "_law_room", "_law_ahead", "_law_high", "_law_wide"] []
  g_lw_bad : mg "_law_bad" = some (.ref a_lw_bad)
  a_lw_refused : Addr
  d_lw_refused : FuncData
  f_lw_refused : Fun K "_law_refused" "_law_refused" s_lw_refused a_lw_refused d_lw_refused
  b_lw_refused : Binds K d_lw_refused ["_law_high", "_law_wide", "_law_rooms", "_law_due"] []
  g_lw_refused : mg "_law_refused" = some (.ref a_lw_refused)
  a_lw_taken : Addr
  d_lw_taken : FuncData
  f_lw_taken : Fun K "_law_taken" "_law_taken" s_lw_taken a_lw_taken d_lw_taken
  b_lw_taken : Binds K d_lw_taken ["_law_high", "_law_wide", "_law_rooms"] []
  g_lw_taken : mg "_law_taken" = some (.ref a_lw_taken)
  a_lw_edges : Addr
  d_lw_edges : FuncData
  f_lw_edges : Fun K "_law_edges" "_law_edges" s_lw_edges a_lw_edges d_lw_edges
  b_lw_edges : Binds K d_lw_edges ["_law_high", "_law_wide", "_law_room"] []
  g_lw_edges : mg "_law_edges" = some (.ref a_lw_edges)
  a_lw_sizes : Addr
  d_lw_sizes : FuncData
  f_lw_sizes : Fun K "_law_sizes" "_law_sizes" s_lw_sizes a_lw_sizes d_lw_sizes
  b_lw_sizes : Binds K d_lw_sizes ["_law_script", "_law_high", "_law_wide", "_law_rooms"] []
  g_lw_sizes : mg "_law_sizes" = some (.ref a_lw_sizes)
  a_law : Addr
  d_law : FuncData
  f_law : Fun K "law" "law" s_law a_law d_law
  b_law : Binds K d_law ["_law_script"] []
  g_law : mg "law" = some (.ref a_law)
  z_ValueError : mg "ValueError" = none
  z_all : mg "all" = none
  z_bool : mg "bool" = none
  z_enumerate : mg "enumerate" = none
  z_int : mg "int" = none
  z_isinstance : mg "isinstance" = none
  z_len : mg "len" = none
  z_list : mg "list" = none
  z_max : mg "max" = none
  z_range : mg "range" = none
  z_str : mg "str" = none
  z_tuple : mg "tuple" = none
  k_HIGHEST : ∃ u, mg "HIGHEST" = some u ∧ RelV (.int 12) u
  k_LETTERS : ∃ u, mg "LETTERS" = some u ∧ RelV (.str ⟨([97, 98, 99, 100, 101, 102, 103, 104, 105, 106, 107, 108, 109, 110, 111, 112, 113, 114, 115, 116, 117, 118, 119, 120, 121, 122] : List Nat).toArray⟩) u
  k_LONGEST : ∃ u, mg "LONGEST" = some u ∧ RelV (.int 8) u
  k_MOST_ROOMS : ∃ u, mg "MOST_ROOMS" = some u ∧ RelV (.int 6) u
  k_NARROWEST : ∃ u, mg "NARROWEST" = some u ∧ RelV (.int 2) u
  k_WAYS : GlT K mg "WAYS" [[99, 117, 116], [99, 101, 108, 108, 115], [119, 111, 114, 100, 115], [101, 118, 101, 110]]
  k_WIDEST : ∃ u, mg "WIDEST" = some u ∧ RelV (.int 40) u
  cls_Plan : Cls K (cl 7)
  gc_Plan : mg "Plan" = some (.ref (cl 7))
  xp_NoSize : PySem.W.excIn K (cl 4) [.type "ValueError", .type "Exception", .type "BaseException", .type "object"] "ValueError.__new__" = true
  xq_NoSize : PySem.W.keepIn K (.ref (cl 4)) = true
  xb_NoSize : PySem.W.subIn K (.ref (cl 4)) (.type "BaseException") = some true
  xt_NoSize : PySem.W.typeIn K (.ref (cl 4)) = some (.type "type")
  na_Plan_high : NoAttr K (cl 7) "high"
  na_Plan_wide : NoAttr K (cl 7) "wide"
  na_Plan_rooms : NoAttr K (cl 7) "rooms"
  xm_NoSize : ∀ n fs, (n, fs) ∈ xL_NoSize → PySem.W.exmOne K (.ref (cl n)) (.ref (cl 4)) = some true
  xz_NoSize : ∀ n fs, (n, fs) ∈ xN_NoSize → PySem.W.exmOne K (.ref (cl n)) (.ref (cl 4)) = some false
  xm_NoRoom : ∀ n fs, (n, fs) ∈ xL_NoRoom → PySem.W.exmOne K (.ref (cl n)) (.ref (cl 5)) = some true
  xz_NoRoom : ∀ n fs, (n, fs) ∈ xN_NoRoom → PySem.W.exmOne K (.ref (cl n)) (.ref (cl 5)) = some false
  mk_Plan__X1 : Mk K (cl 7) a_Plan_init__X1
  me_Plan_room_names : Meth K (cl 7) "room_names" a_Plan_room_names
  mk_Plan : Mk K (cl 7) a_Plan_init
  a_NoRoom_init : Addr
  d_NoRoom_init : FuncData
  f_NoRoom_init : Fun K "__init__" "NoRoom.__init__" s_NoRoom_init a_NoRoom_init d_NoRoom_init
  b_NoRoom_init : Binds K d_NoRoom_init ["self", "at"] []
  xo_NoRoom : OexC K (cl 5)
  xic_NoRoom : PySem.W.findIn K (.ref (cl 5)) "__init__" = some (some (.ref a_NoRoom_init))
  xit_NoRoom : PySem.W.typeIn K (.ref a_NoRoom_init) = some (.type "function")
  xn_NoRoom : PySem.W.findIn K (.ref (cl 5)) "at" = some none
  rd_OutError : PySem.W.readsIn K (cl 0) (.type "type") = true
  ga_OutError : PySem.W.specialIn K (.ref (cl 0)) "__getattribute__" = some (some (.builtin "type.__getattribute__"))
  bi_OutError : PySem.W.findCls K (.ref (cl 0)) (.type "type") "__init__" = some (.val (.builtin "ValueError.__init__"))
  xf_at : ∀ n fs, (n, fs) ∈ xL → PySem.W.findIn K (.ref (cl n)) "at" = some none
  gc_OutError : mg "OutError" = some (.ref (cl 0))
  gc_NoName : mg "NoName" = some (.ref (cl 1))
  gc_NoHand : mg "NoHand" = some (.ref (cl 2))
  gc_Twice : mg "Twice" = some (.ref (cl 3))
  gc_NoSize : mg "NoSize" = some (.ref (cl 4))
  gc_NoRoom : mg "NoRoom" = some (.ref (cl 5))
  gc_NoCell : mg "NoCell" = some (.ref (cl 6))
  xc : ∀ n fs, (n, fs) ∈ xL → XcC K (cl n)
  xk : ∀ n fs k, (n, fs) ∈ xL → k ∈ kL → PySem.W.kitOne K (.ref (cl n)) (.ref (cl k)) = some (subX n k)
  xv : ∀ n fs, (n, fs) ∈ xL → PySem.W.kitOne K (.ref (cl n)) (.type "ValueError") = some true
section
variable {P : Program} {w : World} {K : PySem.W.Frag} {mg : Str → Option Value} {base : Heap}
theorem ok_NoRoom_init (T : Tx K mg w) : FnOk P w K mg base CX0 1 T.a_NoRoom_init T.d_NoRoom_init ["self", "at"] (spInit (T.cl 5) "at") := by
  refine (T.f_NoRoom_init).ok sc_NoRoom_init (fun vs H Q E h => by obtain ⟨a, v, rfl, _⟩ := h; rfl) (fun cdv A outer s H vs Q E hr h => ⟨tInitS K "at" "no such room", ?_, init_run T.xo_NoRoom T.xn_NoRoom h⟩)
  exact pss_cons (ps_expr (pe_baseinit (by rfl) T.gc_OutError T.rd_OutError T.ga_OutError T.bi_OutError (pa_cons (pe_var (i := 0) (by rfl) (Or.inl rfl)) (pa_cons pe_str pa_nil)))) (pss_one (ps_ost (pe_var (i := 0) (by rfl) (Or.inl rfl)) (pe_var (i := 1) (by rfl) (Or.inl rfl))))
theorem ok_is_name__X1 (T : Tx K mg w) : FnOk P w K mg base CX0 1 T.a_is_name__X1 T.d_is_name__X1 ["thing"] (spD ⟨K, T.cl, w⟩ F_is_name__X1) := by
  refine ok_def (N := N_is_name__X1) (m := m_is_name__X1) (kp := [true]) T.f_is_name__X1 sc_is_name__X1 rfl (fun cdv A outer s H XE en ek hr => ?_)
  have hu := hr.units
  have nd := (sc_is_name__X1).nd
  exact (s_cons (s_if (t_w (w_or (t_not (t_val (r_f (f_isi' (r_v 0) (pe_bltn (v := .ty "str") (u := .type "str") (by rfl) T.z_str (by decide +kernel) rfl) T.z_isinstance)))) (w_or1 (t_not (t_ch opr_le op_cmpD opr_le op_cmpD (r_f f_int) (r_f (f_blt cr_len op_lenD (by rfl) T.z_len (by decide +kernel) (a_cons (r_v 0) a_nil))) (r_f (f_glI 8 T.k_LONGEST))))))) (s_cons (s_ret (g_f f_bl)) s_nil) s_nil)
      (s_cons (s_for [1] PassesOwn.never rfl (i_seq (r_v 0)) (g_name 1 nd (by rfl) (by first | exact Or.inl rfl | exact Or.inr rfl) (by rw [ek]; decide)) (s_cons (s_if (t_nin hu (r_v 1) (r_f (f_glS [97, 98, 99, 100, 101, 102, 103, 104, 105, 106, 107, 108, 109, 110, 111, 112, 113, 114, 115, 116, 117, 118, 119, 120, 121, 122] T.k_LETTERS))) (s_cons (s_ret (g_f f_bl)) s_nil) s_nil)
      s_nil))
      (s_cons (s_ret (g_f f_bl)) s_nil)))
theorem ok_is_name (T : Tx K mg w) : FnOk P w K mg base CX0 1 T.a_is_name T.d_is_name ["thing"] (spD ⟨K, T.cl, w⟩ F_is_name) := by
  refine ok_def (N := N_is_name) (m := m_is_name) (kp := [true]) T.f_is_name sc_is_name rfl (fun cdv A outer s H XE en ek hr => ?_)
  have hu := hr.units
  have nd := (sc_is_name).nd
  exact (s_cons (s_if (t_w (w_or (t_not (t_val (r_f (f_isi' (r_v 0) (pe_bltn (v := .ty "str") (u := .type "str") (by rfl) T.z_str (by decide +kernel) rfl) T.z_isinstance)))) (w_or1 (t_not (t_ch opr_le op_cmpD opr_le op_cmpD (r_f f_int) (r_f (f_blt cr_len op_lenD (by rfl) T.z_len (by decide +kernel) (a_cons (r_v 0) a_nil))) (r_f (f_glI 8 T.k_LONGEST))))))) (s_cons (s_ret (g_f f_bl)) s_nil) s_nil)
      (s_cons (s_for [1] PassesOwn.never rfl (i_seq (r_v 0)) (g_name 1 nd (by rfl) (by first | exact Or.inl rfl | exact Or.inr rfl) (by rw [ek]; decide)) (s_cons (s_if (t_nin hu (r_v 1) (r_f (f_glS [97, 98, 99, 100, 101, 102, 103, 104, 105, 106, 107, 108, 109, 110, 111, 112, 113, 114, 115, 116, 117, 118, 119, 120, 121, 122] T.k_LETTERS))) (s_cons (s_ret (g_f f_bl)) s_nil) s_nil)
      s_nil))
      (s_cons (s_ret (g_f f_bl)) s_nil)))
theorem ok_is_whole__X1 (T : Tx K mg w) : FnOk P w K mg base CX0 1 T.a_is_whole__X1 T.d_is_whole__X1 ["thing"] (spD ⟨K, T.cl, w⟩ F_is_whole__X1) := by
  refine ok_def (N := N_is_whole__X1) (m := m_is_whole__X1) (kp := [true]) T.f_is_whole__X1 sc_is_whole__X1 rfl (fun cdv A outer s H XE en ek hr => ?_)
  have hu := hr.units
  have nd := (sc_is_whole__X1).nd
  exact (s_cons (s_ret (g_f (f_and (r_f (f_isi' (r_v 0) (pe_bltn (v := .ty "int") (u := .type "int") (by rfl) T.z_int (by decide +kernel) rfl) T.z_isinstance)) (f_one (f_not (r_f (f_isi' (r_v 0) (pe_bltn (v := .ty "bool") (u := .type "bool") (by rfl) T.z_bool (by decide +kernel) rfl) T.z_isinstance))))))) s_nil)
theorem ok_is_whole (T : Tx K mg w) : FnOk P w K mg base CX0 1 T.a_is_whole T.d_is_whole ["thing"] (spD ⟨K, T.cl, w⟩ F_is_whole) := by
  refine ok_def (N := N_is_whole) (m := m_is_whole) (kp := [true]) T.f_is_whole sc_is_whole rfl (fun cdv A outer s H XE en ek hr => ?_)
  have hu := hr.units
  have nd := (sc_is_whole).nd
  exact (s_cons (s_ret (g_f (f_and (r_f (f_isi' (r_v 0) (pe_bltn (v := .ty "int") (u := .type "int") (by rfl) T.z_int (by decide +kernel) rfl) T.z_isinstance)) (f_one (f_not (r_f (f_isi' (r_v 0) (pe_bltn (v := .ty "bool") (u := .type "bool") (by rfl) T.z_bool (by decide +kernel) rfl) T.z_isinstance))))))) s_nil)
theorem ok_is_among__X1 (T : Tx K mg w) : FnOk P w K mg base CX0 2 T.a_is_among__X1 T.d_is_among__X1 ["thing", "least", "most"] (spD ⟨K, T.cl, w⟩ F_is_among__X1) := by
  refine ok_def (N := N_is_among__X1) (m := m_is_among__X1) (kp := [true, true, true]) T.f_is_among__X1 sc_is_among__X1 rfl (fun cdv A outer s H XE en ek hr => ?_)
  have hu := hr.units
  have nd := (sc_is_among__X1).nd
  exact (s_cons (s_ret (g_f (f_and (r_f (f_call (ok_is_whole__X1 T) (hr.mono (by decide)) (by rfl) T.g_is_whole__X1 T.f_is_whole__X1.kp T.b_is_whole__X1 pass0 (a_cons (r_v 0) a_nil))) (f_one (f_ch opr_le op_cmpD opr_le op_cmpD (r_v 1) (r_v 0) (r_v 2)))))) s_nil)
theorem ok_is_among (T : Tx K mg w) : FnOk P w K mg base CX0 2 T.a_is_among T.d_is_among ["thing", "least", "most"] (spD ⟨K, T.cl, w⟩ F_is_among) := by
  refine ok_def (N := N_is_among) (m := m_is_among) (kp := [true, true, true]) T.f_is_among sc_is_among rfl (fun cdv A outer s H XE en ek hr => ?_)
  have hu := hr.units
  have nd := (sc_is_among).nd
  exact (s_cons (s_ret (g_f (f_and (r_f (f_call (ok_is_whole T) (hr.mono (by decide)) (by rfl) T.g_is_whole T.f_is_whole.kp T.b_is_whole pass0 (a_cons (r_v 0) a_nil))) (f_one (f_ch opr_le op_cmpD opr_le op_cmpD (r_v 1) (r_v 0) (r_v 2)))))) s_nil)
theorem ok_is_room__X1 (T : Tx K mg w) : FnOk P w K mg base CX0 3 T.a_is_room__X1 T.d_is_room__X1 ["thing", "high", "wide"] (spD ⟨K, T.cl, w⟩ F_is_room__X1) := by
  refine ok_def (N := N_is_room__X1) (m := m_is_room__X1) (kp := [true, true, true]) T.f_is_room__X1 sc_is_room__X1 rfl (fun cdv A outer s H XE en ek hr => ?_)
  have hu := hr.units
  have nd := (sc_is_room__X1).nd
  exact (s_cons (s_if (t_w (w_or (t_not (t_val (r_f (f_isi' (r_v 0) (pe_bltn (v := .ty "tuple") (u := .type "tuple") (by rfl) T.z_tuple (by decide +kernel) rfl) T.z_isinstance)))) (w_or1 (tv_cmp (op_neD hu) op_neqD flat_ne (v_r (r_f (f_blt cr_len op_lenD (by rfl) T.z_len (by decide +kernel) (a_cons (r_v 0) a_nil)))) (v_r (r_f f_int)) (nomark _))))) (s_cons (s_ret (g_f f_bl)) s_nil) s_nil)
      (s_cons (s_asg (g_r (r_v 0)) (g_tup rfl (gs_cons (g_name 3 nd (by rfl) (by first | exact Or.inl rfl | exact Or.inr rfl) (by rw [ek]; decide)) (gs_cons (g_name 4 nd (by rfl) (by first | exact Or.inl rfl | exact Or.inr rfl) (by rw [ek]; decide)) (gs_cons (g_name 5 nd (by rfl) (by first | exact Or.inl rfl | exact Or.inr rfl) (by rw [ek]; decide)) (gs_cons (g_name 6 nd (by rfl) (by first | exact Or.inl rfl | exact Or.inr rfl) (by rw [ek]; decide)) (gs_cons (g_name 7 nd (by rfl) (by first | exact Or.inl rfl | exact Or.inr rfl) (by rw [ek]; decide)) (gs_cons (g_name 8 nd (by rfl) (by first | exact Or.inl rfl | exact Or.inr rfl) (by rw [ek]; decide)) gs_nil)))))) (hlen := len_cons (len_cons (len_cons (len_cons (len_cons (len_cons (fun _ _ _ h => len_nil h)))))))))
      (s_cons (s_if (t_w (w_or (t_not (t_val (r_f (f_call (ok_is_name__X1 T) (hr.mono (by decide)) (by rfl) T.g_is_name__X1 T.f_is_name__X1.kp T.b_is_name__X1 pass0 (a_cons (r_v 3) a_nil))))) (w_or (t_not (t_val (r_f (f_isi' (r_v 8) (pe_bltn (v := .ty "str") (u := .type "str") (by rfl) T.z_str (by decide +kernel) rfl) T.z_isinstance)))) (w_or1 (t_nin hu (r_v 8) (r_f (f_glK [[99, 117, 116], [99, 101, 108, 108, 115], [119, 111, 114, 100, 115], [101, 118, 101, 110]] T.k_WAYS))))))) (s_cons (s_ret (g_f f_bl)) s_nil) s_nil)
      (s_cons (s_if (t_w (w_or (t_not (t_val (r_f (f_call (ok_is_among__X1 T) (hr.mono (by decide)) (by rfl) T.g_is_among__X1 T.f_is_among__X1.kp T.b_is_among__X1 pass0 (a_cons (r_v 4) (a_cons (r_f f_int) (a_cons (r_v 1) a_nil))))))) (w_or (t_not (t_val (r_f (f_call (ok_is_among__X1 T) (hr.mono (by decide)) (by rfl) T.g_is_among__X1 T.f_is_among__X1.kp T.b_is_among__X1 pass0 (a_cons (r_v 6) (a_cons (r_f f_int) (a_cons (r_v 1) a_nil))))))) (w_or1 (t_cmp opr_gt op_cmpD (r_f (f_bin opr_add op_addD (r_v 4) (r_v 6))) (r_v 1) (nomark _)))))) (s_cons (s_ret (g_f f_bl)) s_nil) s_nil)
      (s_cons (s_ret (g_f (f_and (r_f (f_call (ok_is_among__X1 T) (hr.mono (by decide)) (by rfl) T.g_is_among__X1 T.f_is_among__X1.kp T.b_is_among__X1 pass0 (a_cons (r_v 5) (a_cons (r_f f_int) (a_cons (r_v 2) a_nil))))) (f_and (r_f (f_call (ok_is_among__X1 T) (hr.mono (by decide)) (by rfl) T.g_is_among__X1 T.f_is_among__X1.kp T.b_is_among__X1 pass0 (a_cons (r_v 7) (a_cons (r_f (f_glI 2 T.k_NARROWEST)) (a_cons (r_v 2) a_nil))))) (f_one (f_cmp opr_le op_cmpD (r_f (f_bin opr_add op_addD (r_v 5) (r_v 7))) (r_v 2) (nomark _))))))) s_nil)))))
theorem ok_is_room (T : Tx K mg w) : FnOk P w K mg base CX0 3 T.a_is_room T.d_is_room ["thing", "high", "wide"] (spD ⟨K, T.cl, w⟩ F_is_room) := by
  refine ok_def (N := N_is_room) (m := m_is_room) (kp := [true, true, true]) T.f_is_room sc_is_room rfl (fun cdv A outer s H XE en ek hr => ?_)
  have hu := hr.units
  have nd := (sc_is_room).nd
  exact (s_cons (s_if (t_w (w_or (t_not (t_val (r_f (f_isi' (r_v 0) (pe_bltn (v := .ty "tuple") (u := .type "tuple") (by rfl) T.z_tuple (by decide +kernel) rfl) T.z_isinstance)))) (w_or1 (tv_cmp (op_neD hu) op_neqD flat_ne (v_r (r_f (f_blt cr_len op_lenD (by rfl) T.z_len (by decide +kernel) (a_cons (r_v 0) a_nil)))) (v_r (r_f f_int)) (nomark _))))) (s_cons (s_ret (g_f f_bl)) s_nil) s_nil)
      (s_cons (s_asg (g_r (r_v 0)) (g_tup rfl (gs_cons (g_name 3 nd (by rfl) (by first | exact Or.inl rfl | exact Or.inr rfl) (by rw [ek]; decide)) (gs_cons (g_name 4 nd (by rfl) (by first | exact Or.inl rfl | exact Or.inr rfl) (by rw [ek]; decide)) (gs_cons (g_name 5 nd (by rfl) (by first | exact Or.inl rfl | exact Or.inr rfl) (by rw [ek]; decide)) (gs_cons (g_name 6 nd (by rfl) (by first | exact Or.inl rfl | exact Or.inr rfl) (by rw [ek]; decide)) (gs_cons (g_name 7 nd (by rfl) (by first | exact Or.inl rfl | exact Or.inr rfl) (by rw [ek]; decide)) (gs_cons (g_name 8 nd (by rfl) (by first | exact Or.inl rfl | exact Or.inr rfl) (by rw [ek]; decide)) gs_nil)))))) (hlen := len_cons (len_cons (len_cons (len_cons (len_cons (len_cons (fun _ _ _ h => len_nil h)))))))))
      (s_cons (s_if (t_w (w_or (t_not (t_val (r_f (f_call (ok_is_name T) (hr.mono (by decide)) (by rfl) T.g_is_name T.f_is_name.kp T.b_is_name pass0 (a_cons (r_v 3) a_nil))))) (w_or (t_not (t_val (r_f (f_isi' (r_v 8) (pe_bltn (v := .ty "str") (u := .type "str") (by rfl) T.z_str (by decide +kernel) rfl) T.z_isinstance)))) (w_or1 (t_nin hu (r_v 8) (r_f (f_glK [[99, 117, 116], [99, 101, 108, 108, 115], [119, 111, 114, 100, 115], [101, 118, 101, 110]] T.k_WAYS))))))) (s_cons (s_ret (g_f f_bl)) s_nil) s_nil)
      (s_cons (s_if (t_w (w_or (t_not (t_val (r_f (f_call (ok_is_among T) (hr.mono (by decide)) (by rfl) T.g_is_among T.f_is_among.kp T.b_is_among pass0 (a_cons (r_v 4) (a_cons (r_f f_int) (a_cons (r_v 1) a_nil))))))) (w_or (t_not (t_val (r_f (f_call (ok_is_among T) (hr.mono (by decide)) (by rfl) T.g_is_among T.f_is_among.kp T.b_is_among pass0 (a_cons (r_v 6) (a_cons (r_f f_int) (a_cons (r_v 1) a_nil))))))) (w_or1 (t_cmp opr_gt op_cmpD (r_f (f_bin opr_add op_addD (r_v 4) (r_v 6))) (r_v 1) (nomark _)))))) (s_cons (s_ret (g_f f_bl)) s_nil) s_nil)
      (s_cons (s_ret (g_f (f_and (r_f (f_call (ok_is_among T) (hr.mono (by decide)) (by rfl) T.g_is_among T.f_is_among.kp T.b_is_among pass0 (a_cons (r_v 5) (a_cons (r_f f_int) (a_cons (r_v 2) a_nil))))) (f_and (r_f (f_call (ok_is_among T) (hr.mono (by decide)) (by rfl) T.g_is_among T.f_is_among.kp T.b_is_among pass0 (a_cons (r_v 7) (a_cons (r_f (f_glI 2 T.k_NARROWEST)) (a_cons (r_v 2) a_nil))))) (f_one (f_cmp opr_le op_cmpD (r_f (f_bin opr_add op_addD (r_v 5) (r_v 7))) (r_v 2) (nomark _))))))) s_nil)))))
theorem ok_is_apart (T : Tx K mg w) : FnOk P w K mg base CX0 1 T.a_is_apart T.d_is_apart ["one", "other"] (spD ⟨K, T.cl, w⟩ F_is_apart) := by
  refine ok_def (N := N_is_apart) (m := m_is_apart) (kp := [true, true]) T.f_is_apart sc_is_apart rfl (fun cdv A outer s H XE en ek hr => ?_)
  have hu := hr.units
  have nd := (sc_is_apart).nd
  exact (s_cons (s_if (t_w (w_or (t_cmp opr_le op_cmpD (r_f (f_bin opr_add op_addD (r_ix hu (r_v 0) (r_f f_int)) (r_ix hu (r_v 0) (r_f f_int)))) (r_ix hu (r_v 1) (r_f f_int)) (nomark _)) (w_or1 (t_cmp opr_le op_cmpD (r_f (f_bin opr_add op_addD (r_ix hu (r_v 1) (r_f f_int)) (r_ix hu (r_v 1) (r_f f_int)))) (r_ix hu (r_v 0) (r_f f_int)) (nomark _))))) (s_cons (s_ret (g_f f_bl)) s_nil) s_nil)
      (s_cons (s_ret (g_f (f_or (r_f (f_cmp opr_le op_cmpD (r_f (f_bin opr_add op_addD (r_ix hu (r_v 0) (r_f f_int)) (r_ix hu (r_v 0) (r_f f_int)))) (r_ix hu (r_v 1) (r_f f_int)) (nomark _))) (f_one (f_cmp opr_le op_cmpD (r_f (f_bin opr_add op_addD (r_ix hu (r_v 1) (r_f f_int)) (r_ix hu (r_v 1) (r_f f_int)))) (r_ix hu (r_v 0) (r_f f_int)) (nomark _)))))) s_nil))
theorem ok_Plan_init__X1 (T : Tx K mg w) : FnOk P w K mg base (L2N.CX P w) 4 T.a_Plan_init__X1 T.d_Plan_init__X1 ["self", "high", "wide", "rooms"] (spX ⟨K, T.cl, w⟩ F_Plan_init__X1) := by
  refine ok_defX (N := N_Plan_init__X1) (m := m_Plan_init__X1) (kp := [true, true, true, true]) T.f_Plan_init__X1 sc_Plan_init__X1 rfl (fun cdv A outer s H XE en ek ex hr => ?_)
  have hu := hr.units
  have nd := (sc_Plan_init__X1).nd
  exact (s_cons (s_if (t_w (w_or (t_not (t_val (r_f (f_call (ok_is_among__X1 T) (hr.mono (by decide)) (by rfl) T.g_is_among__X1 T.f_is_among__X1.kp T.b_is_among__X1 pass0 (a_cons (r_v 1) (a_cons (r_f f_int) (a_cons (r_f (f_glI 12 T.k_HIGHEST)) a_nil))))))) (w_or1 (t_not (t_val (r_f (f_call (ok_is_among__X1 T) (hr.mono (by decide)) (by rfl) T.g_is_among__X1 T.f_is_among__X1.kp T.b_is_among__X1 pass0 (a_cons (r_v 2) (a_cons (r_f (f_glI 2 T.k_NARROWEST)) (a_cons (r_f (f_glI 40 T.k_WIDEST)) a_nil)))))))))) (s_cons (s_raise0 4 rfl (by rw [ex]; exact L2N.takes_of rfl rfl rfl rfl) (L2N.pmk_own PySem.F.excBase_ValueError T.xp_NoSize T.gc_NoSize T.xq_NoSize (raises_own T.xb_NoSize T.xt_NoSize) (by rfl))) s_nil) s_nil)
      (s_cons (s_if (t_w (w_or (t_not (t_val (r_f (f_isi' (r_v 3) (pe_bltn (v := .ty "list") (u := .type "list") (by rfl) T.z_list (by decide +kernel) rfl) T.z_isinstance)))) (w_or1 (tv_cmp (OpR_or (op_eqD hu) (op_eqE hu)) (op_or2 op_eqqD op_eqqE) flat_eqE (v_r (r_v 3)) (v_r (r_f (f_cold (f_lst a_nil)))) (nomark _))))) (s_cons (s_raise1 5 rfl (by rw [ex]; exact L2N.takes_of rfl rfl rfl rfl) T.xo_NoRoom T.xic_NoRoom T.xit_NoRoom (ok_NoRoom_init T) (hr.mono (by decide)) T.b_NoRoom_init pass0 (by rfl) T.gc_NoRoom (r_f f_int)) s_nil) s_nil)
      (s_cons (s_fld 7 T.cls_Plan T.na_Plan_high (g_r (r_v 1)) (p_v 0))
      (s_cons (s_fld 7 T.cls_Plan T.na_Plan_wide (g_r (r_v 2)) (p_v 0))
      (s_cons (s_fld 7 T.cls_Plan T.na_Plan_rooms (g_f (f_lst a_nil)) (p_v 0))
      (s_cons (s_for [4, 5, 6] (passes_of rfl) rfl (i_enumS (by rfl) T.z_enumerate (r_v 3)) (g_tup rfl (gs_cons (g_name 4 nd (by rfl) (by first | exact Or.inl rfl | exact Or.inr rfl) (by rw [ek]; decide)) (gs_cons (g_name 5 nd (by rfl) (by first | exact Or.inl rfl | exact Or.inr rfl) (by rw [ek]; decide)) gs_nil)) (hlen := len_cons (len_cons (fun _ _ _ h => len_nil h)))) (s_cons (s_if (t_w (w_or (t_cmp opr_ge op_cmpD (r_v 4) (r_f (f_glI 6 T.k_MOST_ROOMS)) (nomark _)) (w_or1 (t_not (t_val (r_f (f_call (ok_is_room__X1 T) (hr.mono (by decide)) (by rfl) T.g_is_room__X1 T.f_is_room__X1.kp T.b_is_room__X1 pass0 (a_cons (r_v 5) (a_cons (r_v 1) (a_cons (r_v 2) a_nil)))))))))) (s_cons (s_raise1 5 rfl (by rw [ex]; exact L2N.takes_of rfl rfl rfl rfl) T.xo_NoRoom T.xic_NoRoom T.xit_NoRoom (ok_NoRoom_init T) (hr.mono (by decide)) T.b_NoRoom_init pass0 (by rfl) T.gc_NoRoom (r_v 4)) s_nil) s_nil)
      (s_cons (s_forF [6] (passes_of rfl) rfl (p_fld 7 T.cls_Plan T.na_Plan_rooms (p_v 0)) (g_name 6 nd (by rfl) (by first | exact Or.inl rfl | exact Or.inr rfl) (by rw [ek]; decide)) (t_w (w_or (tv_cmp (op_eqD hu) op_eqqD flat_eq (v_r (r_ix hu (r_v 6) (r_f f_int))) (v_r (r_ix hu (r_v 5) (r_f f_int))) (nomark _)) (w_or1 (t_not (t_val (r_f (f_call (ok_is_apart T) (hr.mono (by decide)) (by rfl) T.g_is_apart T.f_is_apart.kp T.b_is_apart pass0 (a_cons (r_v 6) (a_cons (r_v 5) a_nil))))))))) (s_cons (s_raise1 5 rfl (by rw [ex]; exact L2N.takes_of rfl rfl rfl rfl) T.xo_NoRoom T.xic_NoRoom T.xit_NoRoom (ok_NoRoom_init T) (hr.mono (by decide)) T.b_NoRoom_init pass0 (by rfl) T.gc_NoRoom (r_v 4)) s_nil))
      (s_cons (s_expr (g_app (p_fld 7 T.cls_Plan T.na_Plan_rooms (p_v 0)) (f_fr (r_v 5))))
      s_nil))))
      s_nil))))))
theorem ok_Plan_init (T : Tx K mg w) : FnOk P w K mg base CX0 4 T.a_Plan_init T.d_Plan_init ["self", "high", "wide", "rooms"] (spD ⟨K, T.cl, w⟩ F_Plan_init) := by
  refine ok_def (N := N_Plan_init) (m := m_Plan_init) (kp := [true, true, true, true]) T.f_Plan_init sc_Plan_init rfl (fun cdv A outer s H XE en ek hr => ?_)
  have hu := hr.units
  have nd := (sc_Plan_init).nd
  exact (s_cons (s_if (t_w (w_or (t_not (t_val (r_f (f_call (ok_is_among T) (hr.mono (by decide)) (by rfl) T.g_is_among T.f_is_among.kp T.b_is_among pass0 (a_cons (r_v 1) (a_cons (r_f f_int) (a_cons (r_f (f_glI 12 T.k_HIGHEST)) a_nil))))))) (w_or1 (t_not (t_val (r_f (f_call (ok_is_among T) (hr.mono (by decide)) (by rfl) T.g_is_among T.f_is_among.kp T.b_is_among pass0 (a_cons (r_v 2) (a_cons (r_f (f_glI 2 T.k_NARROWEST)) (a_cons (r_f (f_glI 40 T.k_WIDEST)) a_nil)))))))))) ss_never s_nil)
      (s_cons (s_if (t_w (w_or (t_not (t_val (r_f (f_isi' (r_v 3) (pe_bltn (v := .ty "list") (u := .type "list") (by rfl) T.z_list (by decide +kernel) rfl) T.z_isinstance)))) (w_or1 (tv_cmp (op_eqD hu) op_eqqD flat_eq (v_r (r_v 3)) (v_r (r_f (f_lst a_nil))) (nomark _))))) ss_never s_nil)
      (s_cons (s_fld 7 T.cls_Plan T.na_Plan_high (g_r (r_v 1)) (p_v 0))
      (s_cons (s_fld 7 T.cls_Plan T.na_Plan_wide (g_r (r_v 2)) (p_v 0))
      (s_cons (s_fld 7 T.cls_Plan T.na_Plan_rooms (g_f (f_lst a_nil)) (p_v 0))
      (s_cons (s_for [4, 5, 6] PassesOwn.never rfl (i_enumS (by rfl) T.z_enumerate (r_v 3)) (g_tup rfl (gs_cons (g_name 4 nd (by rfl) (by first | exact Or.inl rfl | exact Or.inr rfl) (by rw [ek]; decide)) (gs_cons (g_name 5 nd (by rfl) (by first | exact Or.inl rfl | exact Or.inr rfl) (by rw [ek]; decide)) gs_nil)) (hlen := len_cons (len_cons (fun _ _ _ h => len_nil h)))) (s_cons (s_if (t_w (w_or (t_cmp opr_ge op_cmpD (r_v 4) (r_f (f_glI 6 T.k_MOST_ROOMS)) (nomark _)) (w_or1 (t_not (t_val (r_f (f_call (ok_is_room T) (hr.mono (by decide)) (by rfl) T.g_is_room T.f_is_room.kp T.b_is_room pass0 (a_cons (r_v 5) (a_cons (r_v 1) (a_cons (r_v 2) a_nil)))))))))) ss_never s_nil)
      (s_cons (s_forF [6] PassesOwn.never rfl (p_fld 7 T.cls_Plan T.na_Plan_rooms (p_v 0)) (g_name 6 nd (by rfl) (by first | exact Or.inl rfl | exact Or.inr rfl) (by rw [ek]; decide)) (t_w (w_or (tv_cmp (op_eqD hu) op_eqqD flat_eq (v_r (r_ix hu (r_v 6) (r_f f_int))) (v_r (r_ix hu (r_v 5) (r_f f_int))) (nomark _)) (w_or1 (t_not (t_val (r_f (f_call (ok_is_apart T) (hr.mono (by decide)) (by rfl) T.g_is_apart T.f_is_apart.kp T.b_is_apart pass0 (a_cons (r_v 6) (a_cons (r_v 5) a_nil))))))))) ss_never)
      (s_cons (s_expr (g_app (p_fld 7 T.cls_Plan T.na_Plan_rooms (p_v 0)) (f_fr (r_v 5))))
      s_nil))))
      s_nil))))))
theorem ok_Plan_room_names (T : Tx K mg w) : FnOk P w K mg base CX0 1 T.a_Plan_room_names T.d_Plan_room_names ["self"] (spD ⟨K, T.cl, w⟩ F_Plan_room_names) := by
  refine ok_def (N := N_Plan_room_names) (m := m_Plan_room_names) (kp := [true]) T.f_Plan_room_names sc_Plan_room_names rfl (fun cdv A outer s H XE en ek hr => ?_)
  have hu := hr.units
  have nd := (sc_Plan_room_names).nd
  exact (s_cons (s_ret (g_f (f_lcV [("room", 1)] (by rfl) rfl nd (i_seqV (r_pl (p_fld 7 T.cls_Plan T.na_Plan_rooms (p_v 0)))) (blkOk_by (own := [("room", 1)]) (N := N_Plan_room_names) (sc := defScope s_Plan_room_names) (by decide +kernel)) (fun _ _ _ _ _ => (g_name 1 nd (by rfl) (by first | exact Or.inl rfl | exact Or.inr rfl) (by rw [ek]; decide))) (fun _ _ _ _ _ => ts_nil) (fun _ _ _ _ _ => (r_ix hu (r_v 1) (r_f f_int))) (by decide) (by rw [ek]; decide)))) s_nil)
theorem ok_lw_cell_at (T : Tx K mg w) : FnOk P w K mg base CX0 1 T.a_lw_cell_at T.d_lw_cell_at ["_law_script", "_law_k"] (spD ⟨K, T.cl, w⟩ F_lw_cell_at) := by
  refine ok_def (N := N_lw_cell_at) (m := m_lw_cell_at) (kp := [true, true]) T.f_lw_cell_at sc_lw_cell_at rfl (fun cdv A outer s H XE en ek hr => ?_)
  have hu := hr.units
  have nd := (sc_lw_cell_at).nd
  exact (s_cons (s_if (t_cmp opr_lt op_cmpD (r_v 1) (r_f (f_blt cr_len op_lenD (by rfl) T.z_len (by decide +kernel) (a_cons (r_v 0) a_nil))) (nomark _)) (s_cons (s_ret (g_r (r_ix hu (r_v 0) (r_v 1)))) s_nil) s_nil)
      (s_cons (s_ret (g_f f_int)) s_nil))
theorem ok_lw_mix (T : Tx K mg w) : FnOk P w K mg base CX0 1 T.a_lw_mix T.d_lw_mix ["_law_cell", "_law_k"] (spD ⟨K, T.cl, w⟩ F_lw_mix) := by
  refine ok_def (N := N_lw_mix) (m := m_lw_mix) (kp := [true, true]) T.f_lw_mix sc_lw_mix rfl (fun cdv A outer s H XE en ek hr => ?_)
  have hu := hr.units
  have nd := (sc_lw_mix).nd
  exact (s_cons (s_if (t_cmp opr_gt op_cmpD (r_v 0) (r_f (f_bin op_pow op_powD (r_f f_int) (r_f f_int))) (nomark _)) (s_cons (s_set 2 nd (by rfl) (by first | exact Or.inl rfl | exact Or.inr rfl) (by rw [ek]; decide) (g_r (r_v 0)))
      (s_cons (s_for [3] PassesOwn.never rfl (i_rng1 (by rfl) T.z_range (r_v 1)) (g_name 3 nd (by rfl) (by first | exact Or.inl rfl | exact Or.inr rfl) (by rw [ek]; decide)) (s_cons (s_set 2 nd (by rfl) (by first | exact Or.inl rfl | exact Or.inr rfl) (by rw [ek]; decide) (g_f (f_bin op_fdivW op_fdivD (r_v 2) (r_f (f_bin op_pow op_powD (r_f f_int) (r_f f_int))))))
      s_nil))
      (s_cons (s_ret (g_f (f_bin op_mod op_modD (r_v 2) (r_f (f_bin op_pow op_powD (r_f f_int) (r_f f_int)))))) s_nil))) s_nil)
      (s_cons (s_set 4 nd (by rfl) (by first | exact Or.inl rfl | exact Or.inr rfl) (by rw [ek]; decide) (g_f (f_bin opr_add op_addD (r_f (f_bin op_mod op_modD (r_v 0) (r_f f_int))) (r_f f_int))))
      (s_cons (s_for [3] PassesOwn.never rfl (i_rng1 (by rfl) T.z_range (r_f (f_bin opr_add op_addD (r_v 1) (r_f f_int)))) (g_name 3 nd (by rfl) (by first | exact Or.inl rfl | exact Or.inr rfl) (by rw [ek]; decide)) (s_cons (s_set 4 nd (by rfl) (by first | exact Or.inl rfl | exact Or.inr rfl) (by rw [ek]; decide) (g_f (f_bin op_mod op_modD (r_f (f_bin opr_add op_addD (r_f (f_bin opr_mul op_mulD (r_v 4) (r_f f_int))) (r_f f_int))) (r_f f_int))))
      s_nil))
      (s_cons (s_ret (g_f (f_bin op_fdivW op_fdivD (r_f (f_bin op_mod op_modD (r_f (f_bin opr_mul op_mulD (r_v 4) (r_v 4))) (r_f f_int))) (r_f f_int)))) s_nil))))
theorem ok_lw_names (T : Tx K mg w) : FnOk P w K mg base CX0 2 T.a_lw_names T.d_lw_names ["_law_cell", "_law_many"] (spD ⟨K, T.cl, w⟩ F_lw_names) := by
  refine ok_def (N := N_lw_names) (m := m_lw_names) (kp := [true, true]) T.f_lw_names sc_lw_names rfl (fun cdv A outer s H XE en ek hr => ?_)
  have hu := hr.units
  have nd := (sc_lw_names).nd
  exact (s_cons (s_set 2 nd (by rfl) (by first | exact Or.inl rfl | exact Or.inr rfl) (by rw [ek]; decide) (g_f (f_str [97, 98, 99, 100, 101, 102, 103, 104, 105, 106, 107, 108, 109, 110, 111, 112, 113, 114, 115, 116, 117, 118, 119, 120, 121, 122])))
      (s_cons (s_set 3 nd (by rfl) (by first | exact Or.inl rfl | exact Or.inr rfl) (by rw [ek]; decide) (g_f (f_str [])))
      (s_cons (s_for [4] PassesOwn.never rfl (i_rng1 (by rfl) T.z_range (r_f f_int)) (g_name 4 nd (by rfl) (by first | exact Or.inl rfl | exact Or.inr rfl) (by rw [ek]; decide)) (s_cons (s_set 3 nd (by rfl) (by first | exact Or.inl rfl | exact Or.inr rfl) (by rw [ek]; decide) (g_f (f_bin opr_add op_addD (r_v 3) (r_ix hu (r_v 2) (r_f (f_bin op_mod op_modD (r_f (f_call (ok_lw_mix T) (hr.mono (by decide)) (by rfl) T.g_lw_mix T.f_lw_mix.kp T.b_lw_mix pass0 (a_cons (r_v 0) (a_cons (r_v 4) a_nil)))) (r_f f_int)))))))
      s_nil))
      (s_cons (s_if (tv_cmp (op_eqD hu) op_eqqD flat_eq (v_r (r_f (f_bin op_mod op_modD (r_v 0) (r_f f_int)))) (v_r (r_f f_int)) (nomark _)) (s_cons (s_ret (g_f (f_lcV [("_law_k", 4)] (by rfl) rfl nd (i_up (i_rng1 (by rfl) T.z_range (r_v 1))) (blkOk_by (own := [("_law_k", 4)]) (N := N_lw_names) (sc := defScope s_lw_names) (by decide +kernel)) (fun _ _ _ _ _ => (g_name 4 nd (by rfl) (by first | exact Or.inl rfl | exact Or.inr rfl) (by rw [ek]; decide))) (fun _ _ _ _ _ => ts_nil) (fun _ _ _ _ _ => (r_f (f_sl (r_v 3) o_none (o_some (r_f (f_bin opr_add op_addD (r_v 4) (r_f f_int))))))) (by decide) (by rw [ek]; decide)))) s_nil) s_nil)
      (s_cons (s_set 5 nd (by rfl) (by first | exact Or.inl rfl | exact Or.inr rfl) (by rw [ek]; decide) (g_f (f_bin op_mod op_modD (r_f (f_bin op_fdivW op_fdivD (r_v 0) (r_f f_int))) (r_f f_int))))
      (s_cons (s_set 6 nd (by rfl) (by first | exact Or.inl rfl | exact Or.inr rfl) (by rw [ek]; decide) (g_f (f_lst a_nil)))
      (s_cons (s_for [4, 7] PassesOwn.never rfl (i_rng1 (by rfl) T.z_range (r_v 1)) (g_name 4 nd (by rfl) (by first | exact Or.inl rfl | exact Or.inr rfl) (by rw [ek]; decide)) (s_cons (s_set 7 nd (by rfl) (by first | exact Or.inl rfl | exact Or.inr rfl) (by rw [ek]; decide) (g_r (r_ix hu (r_v 2) (r_f (f_bin op_mod op_modD (r_f (f_bin opr_add op_addD (r_f (f_call (ok_lw_mix T) (hr.mono (by decide)) (by rfl) T.g_lw_mix T.f_lw_mix.kp T.b_lw_mix pass0 (a_cons (r_v 0) (a_cons (r_f f_int) a_nil)))) (r_v 4))) (r_f f_int))))))
      (s_cons (s_expr (g_app (p_v 6) (f_sl (r_f (f_bin opr_add op_addD (r_f (f_bin opr_add op_addD (r_f (f_sl (r_v 3) o_none (o_some (r_v 5)))) (r_v 7))) (r_f (f_sl (r_v 3) (o_some (r_f (f_bin opr_add op_addD (r_v 5) (r_f f_int)))) o_none)))) o_none (o_some (r_f (f_blt (call_max2 rfl) op_max2D (by rfl) T.z_max (by decide +kernel) (a_cons (r_f (f_bin opr_add op_addD (r_v 5) (r_f f_int))) (a_cons (r_f (f_bin opr_add op_addD (r_f f_int) (r_f (f_bin op_mod op_modD (r_f (f_bin op_fdivW op_fdivD (r_v 0) (r_f f_int))) (r_f f_int))))) a_nil))))))))
      s_nil)))
      (s_cons (s_ret (g_mv (p_v 6))) s_nil))))))))
theorem ok_lw_good (T : Tx K mg w) : FnOk P w K mg base CX0 3 T.a_lw_good T.d_lw_good ["_law_script", "_law_many"] (spD ⟨K, T.cl, w⟩ F_lw_good) := by
  refine ok_def (N := N_lw_good) (m := m_lw_good) (kp := [true, true]) T.f_lw_good sc_lw_good rfl (fun cdv A outer s H XE en ek hr => ?_)
  have hu := hr.units
  have nd := (sc_lw_good).nd
  exact (s_cons (s_set 2 nd (by rfl) (by first | exact Or.inl rfl | exact Or.inr rfl) (by rw [ek]; decide) (g_f (f_call (ok_lw_cell_at T) (hr.mono (by decide)) (by rfl) T.g_lw_cell_at T.f_lw_cell_at.kp T.b_lw_cell_at pass0 (a_cons (r_v 0) (a_cons (r_f f_int) a_nil)))))
      (s_cons (s_set 3 nd (by rfl) (by first | exact Or.inl rfl | exact Or.inr rfl) (by rw [ek]; decide) (g_f (f_cold (f_call (ok_lw_names T) (hr.mono (by decide)) (by rfl) T.g_lw_names T.f_lw_names.kp T.b_lw_names pass0 (a_cons (r_f (f_call (ok_lw_cell_at T) (hr.mono (by decide)) (by rfl) T.g_lw_cell_at T.f_lw_cell_at.kp T.b_lw_cell_at pass0 (a_cons (r_v 0) (a_cons (r_f f_int) a_nil)))) (a_cons (r_v 1) a_nil))))))
      (s_cons (s_set 4 nd (by rfl) (by first | exact Or.inl rfl | exact Or.inr rfl) (by rw [ek]; decide) (g_f (f_lst a_nil)))
      (s_cons (s_set 5 nd (by rfl) (by first | exact Or.inl rfl | exact Or.inr rfl) (by rw [ek]; decide) (g_f f_int))
      (s_cons (s_for [6, 7, 8, 9] PassesOwn.never rfl (i_rng1 (by rfl) T.z_range (r_v 1)) (g_name 6 nd (by rfl) (by first | exact Or.inl rfl | exact Or.inr rfl) (by rw [ek]; decide)) (s_cons (s_set 7 nd (by rfl) (by first | exact Or.inl rfl | exact Or.inr rfl) (by rw [ek]; decide) (g_f (f_bin opr_add op_addD (r_f f_int) (r_f (f_bin op_mod op_modD (r_f (f_call (ok_lw_mix T) (hr.mono (by decide)) (by rfl) T.g_lw_mix T.f_lw_mix.kp T.b_lw_mix pass0 (a_cons (r_v 2) (a_cons (r_f (f_bin opr_add op_addD (r_f f_int) (r_f (f_bin opr_mul op_mulD (r_f f_int) (r_v 6))))) a_nil)))) (r_f f_int))))))
      (s_cons (s_set 8 nd (by rfl) (by first | exact Or.inl rfl | exact Or.inr rfl) (by rw [ek]; decide) (g_f (f_bin opr_add op_addD (r_f f_int) (r_f (f_bin op_mod op_modD (r_f (f_call (ok_lw_mix T) (hr.mono (by decide)) (by rfl) T.g_lw_mix T.f_lw_mix.kp T.b_lw_mix pass0 (a_cons (r_v 2) (a_cons (r_f (f_bin opr_add op_addD (r_f f_int) (r_f (f_bin opr_mul op_mulD (r_f f_int) (r_v 6))))) a_nil)))) (r_f f_int))))))
      (s_cons (s_set 9 nd (by rfl) (by first | exact Or.inl rfl | exact Or.inr rfl) (by rw [ek]; decide) (g_r (r_ix hu (r_f (f_lst (a_cons (r_f (f_str [99, 117, 116])) (a_cons (r_f (f_str [99, 101, 108, 108, 115])) (a_cons (r_f (f_str [119, 111, 114, 100, 115])) (a_cons (r_f (f_str [101, 118, 101, 110])) a_nil)))))) (r_f (f_bin op_mod op_modD (r_f (f_call (ok_lw_mix T) (hr.mono (by decide)) (by rfl) T.g_lw_mix T.f_lw_mix.kp T.b_lw_mix pass0 (a_cons (r_v 2) (a_cons (r_f (f_bin opr_add op_addD (r_f f_int) (r_f (f_bin opr_mul op_mulD (r_f f_int) (r_v 6))))) a_nil)))) (r_f f_int))))))
      (s_cons (s_expr (g_app (p_v 4) (f_tup (a_cons (r_ix hu (r_v 3) (r_v 6)) (a_cons (r_f (f_bin op_mod op_modD (r_f (f_call (ok_lw_mix T) (hr.mono (by decide)) (by rfl) T.g_lw_mix T.f_lw_mix.kp T.b_lw_mix pass0 (a_cons (r_v 2) (a_cons (r_f (f_bin opr_add op_addD (r_f f_int) (r_f (f_bin opr_mul op_mulD (r_f f_int) (r_v 6))))) a_nil)))) (r_f f_int))) (a_cons (r_v 5) (a_cons (r_v 7) (a_cons (r_v 8) (a_cons (r_v 9) a_nil)))))))))
      (s_cons (s_set 5 nd (by rfl) (by first | exact Or.inl rfl | exact Or.inr rfl) (by rw [ek]; decide) (g_f (f_bin opr_add op_addD (r_v 5) (r_v 8))))
      s_nil))))))
      (s_frz 4 (s_cons (s_ret (g_f (f_tup (a_cons (r_f (f_bin opr_add op_addD (r_f f_int) (r_f (f_bin op_mod op_modD (r_f (f_call (ok_lw_mix T) (hr.mono (by decide)) (by rfl) T.g_lw_mix T.f_lw_mix.kp T.b_lw_mix pass0 (a_cons (r_v 2) (a_cons (r_f f_int) a_nil)))) (r_f f_int))))) (a_cons (r_f (f_bin opr_add op_addD (r_f f_int) (r_f (f_bin op_mod op_modD (r_f (f_call (ok_lw_mix T) (hr.mono (by decide)) (by rfl) T.g_lw_mix T.f_lw_mix.kp T.b_lw_mix pass0 (a_cons (r_v 2) (a_cons (r_f f_int) a_nil)))) (r_f f_int))))) (a_cons (r_v 4) a_nil)))))) s_nil)))))))
theorem ok_lw_number (T : Tx K mg w) : FnOk P w K mg base CX0 1 T.a_lw_number T.d_lw_number ["_law_cell", "_law_room", "_law_high", "_law_wide"] (spD ⟨K, T.cl, w⟩ F_lw_number) := by
  refine ok_def (N := N_lw_number) (m := m_lw_number) (kp := [true, true, true, true]) T.f_lw_number sc_lw_number rfl (fun cdv A outer s H XE en ek hr => ?_)
  have hu := hr.units
  have nd := (sc_lw_number).nd
  exact (s_cons (s_set 4 nd (by rfl) (by first | exact Or.inl rfl | exact Or.inr rfl) (by rw [ek]; decide) (g_f (f_bin opr_add op_addD (r_f f_int) (r_f (f_bin op_mod op_modD (r_v 0) (r_f f_int))))))
      (s_cons (s_set 5 nd (by rfl) (by first | exact Or.inl rfl | exact Or.inr rfl) (by rw [ek]; decide) (g_f (f_cold (f_lst (a_cons (r_f (f_cold (f_lst (a_cons (r_f (f_neg (r_f f_int))) (a_cons (r_f f_non) (a_cons (r_f f_bl) (a_cons (r_f (f_str [48])) a_nil))))))) (a_cons (r_f (f_cold (f_lst (a_cons (r_f (f_neg (r_f f_int))) (a_cons (r_f f_non) (a_cons (r_f f_bl) (a_cons (r_f (f_str [48])) a_nil))))))) (a_cons (r_f (f_cold (f_lst (a_cons (r_f f_int) (a_cons (r_f f_non) (a_cons (r_f f_bl) (a_cons (r_f (f_str [49])) a_nil))))))) (a_cons (r_f (f_cold (f_lst (a_cons (r_f f_int) (a_cons (r_f f_non) (a_cons (r_f f_bl) (a_cons (r_f (f_str [50])) a_nil))))))) a_nil))))))))
      (s_cons (s_set 6 nd (by rfl) (by first | exact Or.inl rfl | exact Or.inr rfl) (by rw [ek]; decide) (g_r (r_ix hu (r_f (f_lst (a_cons (r_v 2) (a_cons (r_v 3) (a_cons (r_f (f_bin opr_add op_addD (r_v 2) (r_f f_int))) (a_cons (r_f (f_bin opr_add op_addD (r_v 3) (r_f f_int))) a_nil)))))) (r_f (f_bin op_sub op_subD (r_v 4) (r_f f_int))))))
      (s_cons (s_set 7 nd (by rfl) (by first | exact Or.inl rfl | exact Or.inr rfl) (by rw [ek]; decide) (g_f (f_bin opr_add op_addD (r_ix hu (r_f (f_lst (a_cons (r_f (f_bin op_sub op_subD (r_v 2) (r_ix hu (r_v 1) (r_f f_int)))) (a_cons (r_f (f_bin op_sub op_subD (r_v 3) (r_ix hu (r_v 1) (r_f f_int)))) (a_cons (r_f (f_bin op_sub op_subD (r_v 2) (r_ix hu (r_v 1) (r_f f_int)))) (a_cons (r_f (f_bin op_sub op_subD (r_v 3) (r_ix hu (r_v 1) (r_f f_int)))) a_nil)))))) (r_f (f_bin op_sub op_subD (r_v 4) (r_f f_int)))) (r_f f_int))))
      (s_cons (s_set 8 nd (by rfl) (by first | exact Or.inl rfl | exact Or.inr rfl) (by rw [ek]; decide) (g_r (r_ix hu (r_f (f_bin opr_add op_addD (r_ix hu (r_v 5) (r_f (f_bin op_sub op_subD (r_v 4) (r_f f_int)))) (r_f (f_lst (a_cons (r_v 6) (a_cons (r_v 7) a_nil)))))) (r_f (f_bin op_mod op_modD (r_f (f_bin op_fdivW op_fdivD (r_v 0) (r_f f_int))) (r_f f_int))))))
      (s_cons (s_ret (g_f (f_bin opr_add op_addD (r_f (f_bin opr_add op_addD (r_f (f_sl (r_v 1) o_none (o_some (r_v 4)))) (r_f (f_tup (a_cons (r_v 8) a_nil))))) (r_f (f_sl (r_v 1) (o_some (r_f (f_bin opr_add op_addD (r_v 4) (r_f f_int)))) o_none))))) s_nil))))))
theorem ok_lw_over (T : Tx K mg w) : FnOk P w K mg base CX0 1 T.a_lw_over T.d_lw_over ["_law_cell", "_law_room", "_law_other", "_law_high", "_law_wide"] (spD ⟨K, T.cl, w⟩ F_lw_over) := by
  refine ok_def (N := N_lw_over) (m := m_lw_over) (kp := [true, true, true, true, true]) T.f_lw_over sc_lw_over rfl (fun cdv A outer s H XE en ek hr => ?_)
  have hu := hr.units
  have nd := (sc_lw_over).nd
  exact (s_cons (s_set 5 nd (by rfl) (by first | exact Or.inl rfl | exact Or.inr rfl) (by rw [ek]; decide) (g_f (f_bin opr_add op_addD (r_ix hu (r_v 2) (r_f f_int)) (r_f (f_bin op_mod op_modD (r_f (f_bin op_fdivW op_fdivD (r_v 0) (r_f f_int))) (r_ix hu (r_v 2) (r_f f_int)))))))
      (s_cons (s_set 6 nd (by rfl) (by first | exact Or.inl rfl | exact Or.inr rfl) (by rw [ek]; decide) (g_f (f_bin opr_add op_addD (r_ix hu (r_v 2) (r_f f_int)) (r_f (f_bin op_mod op_modD (r_f (f_bin op_fdivW op_fdivD (r_v 0) (r_f f_int))) (r_ix hu (r_v 2) (r_f f_int)))))))
      (s_cons (s_set 7 nd (by rfl) (by first | exact Or.inl rfl | exact Or.inr rfl) (by rw [ek]; decide) (g_f (f_bin op_mod op_modD (r_f (f_bin op_fdivW op_fdivD (r_v 0) (r_f f_int))) (r_f (f_bin opr_add op_addD (r_v 5) (r_f f_int))))))
      (s_cons (s_set 8 nd (by rfl) (by first | exact Or.inl rfl | exact Or.inr rfl) (by rw [ek]; decide) (g_f (f_bin opr_add op_addD (r_f (f_bin opr_add op_addD (r_f (f_bin op_sub op_subD (r_v 5) (r_v 7))) (r_f f_int))) (r_f (f_bin op_mod op_modD (r_f (f_bin op_fdivW op_fdivD (r_v 0) (r_f f_int))) (r_f (f_bin op_sub op_subD (r_v 3) (r_v 5))))))))
      (s_cons (s_set 9 nd (by rfl) (by first | exact Or.inl rfl | exact Or.inr rfl) (by rw [ek]; decide) (g_f (f_bin op_mod op_modD (r_f (f_bin op_fdivW op_fdivD (r_v 0) (r_f f_int))) (r_f (f_bin opr_add op_addD (r_v 6) (r_f f_int))))))
      (s_cons (s_set 10 nd (by rfl) (by first | exact Or.inl rfl | exact Or.inr rfl) (by rw [ek]; decide) (g_f (f_blt (call_max2 rfl) op_max2D (by rfl) T.z_max (by decide +kernel) (a_cons (r_f f_int) (a_cons (r_f (f_bin opr_add op_addD (r_f (f_bin opr_add op_addD (r_f (f_bin op_sub op_subD (r_v 6) (r_v 9))) (r_f f_int))) (r_f (f_bin op_mod op_modD (r_f (f_bin op_fdivW op_fdivD (r_v 0) (r_f f_int))) (r_f (f_bin op_sub op_subD (r_v 4) (r_v 6))))))) a_nil)))))
      (s_cons (s_ret (g_f (f_tup (a_cons (r_ix hu (r_v 1) (r_f f_int)) (a_cons (r_v 7) (a_cons (r_v 9) (a_cons (r_v 8) (a_cons (r_v 10) (a_cons (r_ix hu (r_v 1) (r_f f_int)) a_nil))))))))) s_nil)))))))
theorem ok_lw_bad (T : Tx K mg w) : FnOk P w K mg base CX0 2 T.a_lw_bad T.d_lw_bad ["_law_cell", "_law_room", "_law_ahead", "_law_high", "_law_wide"] (spD ⟨K, T.cl, w⟩ F_lw_bad) := by
  refine ok_def (N := N_lw_bad) (m := m_lw_bad) (kp := [true, true, true, true, true]) T.f_lw_bad sc_lw_bad rfl (fun cdv A outer s H XE en ek hr => ?_)
  have hu := hr.units
  have nd := (sc_lw_bad).nd
  exact (s_cons (s_set 5 nd (by rfl) (by first | exact Or.inl rfl | exact Or.inr rfl) (by rw [ek]; decide) (g_f (f_bin op_mod op_modD (r_v 0) (r_f f_int))))
      (s_cons (s_if (tv_cmp (op_eqD hu) op_eqqD flat_eq (v_r (r_v 5)) (v_r (r_f f_int)) (nomark _)) (s_cons (s_ret (g_r (r_ix hu (r_f (f_lst (a_cons (r_f f_non) (a_cons (r_f (f_cold (f_bty call_list_of op_listD (by rfl) T.z_list (by decide +kernel) (a_cons (r_v 1) a_nil)))) (a_cons (r_f (f_str [114, 111, 111, 109])) (a_cons (r_f f_int) (a_cons (r_f (f_tup a_nil)) a_nil))))))) (r_f (f_bin op_mod op_modD (r_f (f_bin op_fdivW op_fdivD (r_v 0) (r_f f_int))) (r_f f_int)))))) s_nil) s_nil)
      (s_cons (s_if (tv_cmp (op_eqD hu) op_eqqD flat_eq (v_r (r_v 5)) (v_r (r_f f_int)) (nomark _)) (s_cons (s_ret (g_r (r_ix hu (r_f (f_lst (a_cons (r_f (f_sl (r_v 1) o_none (o_some (r_f f_int)))) (a_cons (r_f (f_bin opr_add op_addD (r_v 1) (r_f (f_tup (a_cons (r_f f_int) a_nil))))) a_nil)))) (r_f (f_bin op_mod op_modD (r_f (f_bin op_fdivW op_fdivD (r_v 0) (r_f f_int))) (r_f f_int)))))) s_nil) s_nil)
      (s_cons (s_if (tv_cmp (op_eqD hu) op_eqqD flat_eq (v_r (r_v 5)) (v_r (r_f f_int)) (nomark _)) (s_cons (s_ret (g_f (f_bin opr_add op_addD (r_f (f_tup (a_cons (r_ix hu (r_f (f_lst (a_cons (r_f f_non) (a_cons (r_f (f_str [])) (a_cons (r_f (f_str [65])) (a_cons (r_f (f_str [97, 98, 99, 100, 101, 102, 103, 104, 105])) (a_cons (r_f (f_str [97, 32, 98])) (a_cons (r_f f_int) (a_cons (r_f (f_cold (f_lst (a_cons (r_f (f_str [97])) a_nil)))) a_nil))))))))) (r_f (f_bin op_mod op_modD (r_f (f_bin op_fdivW op_fdivD (r_v 0) (r_f f_int))) (r_f f_int)))) a_nil))) (r_f (f_sl (r_v 1) (o_some (r_f f_int)) o_none))))) s_nil) s_nil)
      (s_cons (s_if (tv_cmp (op_eqD hu) op_eqqD flat_eq (v_r (r_v 5)) (v_r (r_f f_int)) (nomark _)) (s_cons (s_ret (g_f (f_bin opr_add op_addD (r_f (f_sl (r_v 1) o_none (o_some (r_f f_int)))) (r_f (f_tup (a_cons (r_ix hu (r_f (f_lst (a_cons (r_f f_non) (a_cons (r_f (f_str [])) (a_cons (r_f (f_str [101, 118, 101, 110, 32])) (a_cons (r_f (f_str [99, 101, 108, 108, 115, 44])) (a_cons (r_f f_int) (a_cons (r_f (f_tup (a_cons (r_f (f_str [99, 117, 116])) a_nil))) a_nil)))))))) (r_f (f_bin op_mod op_modD (r_f (f_bin op_fdivW op_fdivD (r_v 0) (r_f f_int))) (r_f f_int)))) a_nil)))))) s_nil) s_nil)
      (s_cons (s_if (t_w (w_and (tv_cmp (op_eqD hu) op_eqqD flat_eq (v_r (r_v 5)) (v_r (r_f f_int)) (nomark _)) (w_and1 (tv_cmp (op_neD hu) op_neqD flat_ne (v_r (r_v 2)) (v_r (r_f (f_lst a_nil))) (nomark _))))) (s_cons (s_ret (g_f (f_bin opr_add op_addD (r_f (f_tup (a_cons (r_ix hu (r_ix hu (r_v 2) (r_f (f_bin op_mod op_modD (r_f (f_bin op_fdivW op_fdivD (r_v 0) (r_f f_int))) (r_f (f_blt cr_len op_lenD (by rfl) T.z_len (by decide +kernel) (a_cons (r_v 2) a_nil)))))) (r_f f_int)) a_nil))) (r_f (f_sl (r_v 1) (o_some (r_f f_int)) o_none))))) s_nil) s_nil)
      (s_cons (s_if (t_w (w_and (tv_cmp (op_eqD hu) op_eqqD flat_eq (v_r (r_v 5)) (v_r (r_f f_int)) (nomark _)) (w_and1 (tv_cmp (op_neD hu) op_neqD flat_ne (v_r (r_v 2)) (v_r (r_f (f_lst a_nil))) (nomark _))))) (s_cons (s_ret (g_f (f_call (ok_lw_over T) (hr.mono (by decide)) (by rfl) T.g_lw_over T.f_lw_over.kp T.b_lw_over pass0 (a_cons (r_v 0) (a_cons (r_v 1) (a_cons (r_ix hu (r_v 2) (r_f (f_bin op_mod op_modD (r_f (f_bin op_fdivW op_fdivD (r_v 0) (r_f f_int))) (r_f (f_blt cr_len op_lenD (by rfl) T.z_len (by decide +kernel) (a_cons (r_v 2) a_nil)))))) (a_cons (r_v 3) (a_cons (r_v 4) a_nil)))))))) s_nil) s_nil)
      (s_cons (s_ret (g_f (f_call (ok_lw_number T) (hr.mono (by decide)) (by rfl) T.g_lw_number T.f_lw_number.kp T.b_lw_number pass0 (a_cons (r_f (f_bin op_fdivW op_fdivD (r_v 0) (r_f f_int))) (a_cons (r_v 1) (a_cons (r_v 3) (a_cons (r_v 4) a_nil))))))) s_nil))))))))
theorem ok_lw_refused (T : Tx K mg w) : FnOk P w K mg base CX0 6 T.a_lw_refused T.d_lw_refused ["_law_high", "_law_wide", "_law_rooms", "_law_due"] (spD ⟨K, T.cl, w⟩ F_lw_refused) := by
  refine ok_def (N := N_lw_refused) (m := m_lw_refused) (kp := [true, true, true, true]) T.f_lw_refused sc_lw_refused rfl (fun cdv A outer s H XE en ek hr => ?_)
  have hu := hr.units
  have nd := (sc_lw_refused).nd
  exact (s_cons (s_set 4 nd (by rfl) (by first | exact Or.inl rfl | exact Or.inr rfl) (by rw [ek]; decide) (g_f f_non))
      (s_cons (s_tryMs 5 [true, true, true, true, false, true] (by rw [ek]; rfl) rfl rfl nd (by rfl) (by rfl) (by rw [ek]; decide) (fun W pn xe tk _ => (s_cons (s_exprX (f_mkX 7 T.mk_Plan__X1 (ok_Plan_init__X1 T) (hr.mono (by decide)) (by rfl) T.gc_Plan T.b_Plan_init__X1 tk (a_cons (r_v 0) (a_cons (r_v 1) (a_cons (r_v 2) a_nil)))))
      s_nil)) (HM.cons 4 ⟨rfl, by decide, .inl T.gc_NoSize⟩ (mOf_is T.xm_NoSize T.xz_NoSize) (fun a oe cls d pn n fs es en hz hf ek hsub0 hh => have hsub := mOf_yes hsub0; (s_cons (s_set 4 nd (by rfl) (by first | exact Or.inl rfl | exact Or.inr rfl) (by rw [ek]; decide) (g_f (f_tup (a_cons (r_f (f_str [115, 105, 122, 101])) (a_cons (r_f f_int) (a_cons (r_f (f_and (r_f (f_not (r_f (f_isX (subX n 5) hh hz hf (T.xc n fs (sbX_NoSize _ (okL_mem hsub))) (.own (T.cl 5)) (T.xk n fs 5 (sbX_NoSize _ (okL_mem hsub)) (by decide)) (pe_glob (v := .ref (T.cl 5)) (by rfl) T.gc_NoRoom rfl (by decide)) T.z_isinstance)))) (f_one (f_isX (subX n 0) hh hz hf (T.xc n fs (sbX_NoSize _ (okL_mem hsub))) (.own (T.cl 0)) (T.xk n fs 0 (sbX_NoSize _ (okL_mem hsub)) (by decide)) (pe_glob (v := .ref (T.cl 0)) (by rfl) T.gc_OutError rfl (by decide)) T.z_isinstance)))) a_nil))))))
      s_nil)) (HM.cons 5 ⟨rfl, by decide, .inl T.gc_NoRoom⟩ (mOf_is T.xm_NoRoom T.xz_NoRoom) (fun a oe cls d pn n fs es en hz hf ek hsub0 hh => have hsub := mOf_yes hsub0; (s_cons (s_set 6 nd (by rfl) (by first | exact Or.inl rfl | exact Or.inr rfl) (by rw [ek]; decide) (g_f (f_and (r_f (f_isX (subX n 0) hh hz hf (T.xc n fs (sbX_NoRoom _ (okL_mem hsub))) (.own (T.cl 0)) (T.xk n fs 0 (sbX_NoRoom _ (okL_mem hsub)) (by decide)) (pe_glob (v := .ref (T.cl 0)) (by rfl) T.gc_OutError rfl (by decide)) T.z_isinstance)) (f_and (r_f (f_isX true hh hz hf (T.xc n fs (sbX_NoRoom _ (okL_mem hsub))) (.ty "ValueError") (T.xv n fs (sbX_NoRoom _ (okL_mem hsub))) (pe_bltn (v := .ty "ValueError") (u := .type "ValueError") (by rfl) T.z_ValueError (by decide +kernel) rfl) T.z_isinstance)) (f_one (f_not (r_f (f_isi' (r_f (f_fldX hh hz hf (T.xc n fs (sbX_NoRoom _ (okL_mem hsub))) (T.xf_at n fs (sbX_NoRoom _ (okL_mem hsub))))) (pe_bltn (v := .ty "bool") (u := .type "bool") (by rfl) T.z_bool (by decide +kernel) rfl) T.z_isinstance))))))))
      (s_cons (s_set 4 nd (by rfl) (by first | exact Or.inl rfl | exact Or.inr rfl) (by rw [ek]; decide) (g_f (f_tup (a_cons (r_f (f_str [114, 111, 111, 109])) (a_cons (r_f (f_fldX hh hz hf (T.xc n fs (sbX_NoRoom _ (okL_mem hsub))) (T.xf_at n fs (sbX_NoRoom _ (okL_mem hsub))))) (a_cons (r_f (f_and (r_v 6) (f_one (f_not (r_f (f_isXT (([6, 2, 1, 3] : List Nat).any (subX n)) hh hz hf (T.xc n fs (sbX_NoRoom _ (okL_mem hsub))) (cs := ([6, 2, 1, 3] : List Nat).map fun k => V.ref (T.cl k)) (fun _ _ _ h => h) (paired_cls [6, 2, 1, 3]) (by rw [List.length_map]; decide) (kitAny_subs [6, 2, 1, 3] (fun k hk => T.xk n fs k (sbX_NoRoom _ (okL_mem hsub)) (by revert k; decide))) (pa_cons (pe_glob (v := .ref (T.cl 6)) (by rfl) T.gc_NoCell rfl (by decide)) (pa_cons (pe_glob (v := .ref (T.cl 2)) (by rfl) T.gc_NoHand rfl (by decide)) (pa_cons (pe_glob (v := .ref (T.cl 1)) (by rfl) T.gc_NoName rfl (by decide)) (pa_cons (pe_glob (v := .ref (T.cl 3)) (by rfl) T.gc_Twice rfl (by decide)) pa_nil)))) T.z_isinstance)))))) a_nil))))))
      s_nil))) HM.nil)))
      (s_kill [5, 6] (s_cons (s_ret (g_f (v_cmp (op_eqD hu) op_eqqD flat_eq (v_r (r_v 4)) (v_r (r_v 3)) (nomark _)))) s_nil))))
theorem ok_lw_taken (T : Tx K mg w) : FnOk P w K mg base CX0 6 T.a_lw_taken T.d_lw_taken ["_law_high", "_law_wide", "_law_rooms"] (spD ⟨K, T.cl, w⟩ F_lw_taken) := by
  refine ok_def (N := N_lw_taken) (m := m_lw_taken) (kp := [true, true, true]) T.f_lw_taken sc_lw_taken rfl (fun cdv A outer s H XE en ek hr => ?_)
  have hu := hr.units
  have nd := (sc_lw_taken).nd
  exact (s_cons (s_ret (g_f (v_cmp (op_eqD hu) op_eqqD flat_eq (v_r (r_f (f_look0 7 (r_f (f_cold (f_mk 7 T.mk_Plan (ok_Plan_init T) (hr.mono (by decide)) (by rfl) T.gc_Plan T.b_Plan_init pass0 (a_cons (r_v 0) (a_cons (r_v 1) (a_cons (r_f (f_cold (f_bty call_list_of op_listD (by rfl) T.z_list (by decide +kernel) (a_cons (r_v 2) a_nil)))) a_nil)))))) T.cls_Plan T.me_Plan_room_names (ok_Plan_room_names T) (hr.mono (by decide)) T.b_Plan_room_names pass0))) (v_r (r_f (f_lcV [("_law_room", 3)] (by rfl) rfl nd (i_seqV (r_v 2)) (blkOk_by (own := [("_law_room", 3)]) (N := N_lw_taken) (sc := defScope s_lw_taken) (by decide +kernel)) (fun _ _ _ _ _ => (g_name 3 nd (by rfl) (by first | exact Or.inl rfl | exact Or.inr rfl) (by rw [ek]; decide))) (fun _ _ _ _ _ => ts_nil) (fun _ _ _ _ _ => (r_ix hu (r_v 3) (r_f f_int))) (by decide) (by rw [ek]; decide)))) (nomark _)))) s_nil)
theorem ok_lw_edges (T : Tx K mg w) : FnOk P w K mg base CX0 7 T.a_lw_edges T.d_lw_edges ["_law_high", "_law_wide", "_law_room"] (spD ⟨K, T.cl, w⟩ F_lw_edges) := by
  refine ok_def (N := N_lw_edges) (m := m_lw_edges) (kp := [true, true, true]) T.f_lw_edges sc_lw_edges rfl (fun cdv A outer s H XE en ek hr => ?_)
  have hu := hr.units
  have nd := (sc_lw_edges).nd
  exact (s_cons (s_asg (g_r (r_v 2)) (g_tup rfl (gs_cons (g_name 3 nd (by rfl) (by first | exact Or.inl rfl | exact Or.inr rfl) (by rw [ek]; decide)) (gs_cons (g_name 4 nd (by rfl) (by first | exact Or.inl rfl | exact Or.inr rfl) (by rw [ek]; decide)) (gs_cons (g_name 5 nd (by rfl) (by first | exact Or.inl rfl | exact Or.inr rfl) (by rw [ek]; decide)) (gs_cons (g_name 6 nd (by rfl) (by first | exact Or.inl rfl | exact Or.inr rfl) (by rw [ek]; decide)) (gs_cons (g_name 7 nd (by rfl) (by first | exact Or.inl rfl | exact Or.inr rfl) (by rw [ek]; decide)) (gs_cons (g_name 8 nd (by rfl) (by first | exact Or.inl rfl | exact Or.inr rfl) (by rw [ek]; decide)) gs_nil)))))) (hlen := len_cons (len_cons (len_cons (len_cons (len_cons (len_cons (fun _ _ _ h => len_nil h)))))))))
      (s_cons (s_set 9 nd (by rfl) (by first | exact Or.inl rfl | exact Or.inr rfl) (by rw [ek]; decide) (g_f (f_cold (f_lst (a_cons (r_f (f_tup (a_cons (r_f (f_bin op_sub op_subD (r_v 0) (r_v 6))) (a_cons (r_v 5) (a_cons (r_v 6) (a_cons (r_v 7) a_nil)))))) (a_cons (r_f (f_tup (a_cons (r_v 4) (a_cons (r_f (f_bin op_sub op_subD (r_v 1) (r_v 7))) (a_cons (r_v 6) (a_cons (r_v 7) a_nil)))))) a_nil))))))
      (s_cons (s_set 9 nd (by rfl) (by first | exact Or.inl rfl | exact Or.inr rfl) (by rw [ek]; decide) (g_f (f_cold (f_bin opr_add op_addD (r_v 9) (r_f (f_lst (a_cons (r_f (f_tup (a_cons (r_v 4) (a_cons (r_v 5) (a_cons (r_f (f_bin op_sub op_subD (r_v 0) (r_v 4))) (a_cons (r_v 7) a_nil)))))) (a_cons (r_f (f_tup (a_cons (r_v 4) (a_cons (r_v 5) (a_cons (r_v 6) (a_cons (r_f (f_bin op_sub op_subD (r_v 1) (r_v 5))) a_nil)))))) (a_cons (r_f (f_tup (a_cons (r_f f_int) (a_cons (r_f f_int) (a_cons (r_v 0) (a_cons (r_v 1) a_nil)))))) a_nil)))))))))
      (s_cons (s_ret (g_f (f_blt (cr_all rfl) op_allD (by rfl) T.z_all (by decide +kernel) (a_cons (r_f (f_lcV [("_law_one", 10)] (by rfl) rfl nd (i_seqV (r_v 9)) (blkOk_by (own := [("_law_one", 10)]) (N := N_lw_edges) (sc := defScope s_lw_edges) (by decide +kernel)) (fun _ _ _ _ _ => (g_name 10 nd (by rfl) (by first | exact Or.inl rfl | exact Or.inr rfl) (by rw [ek]; decide))) (fun _ _ _ _ _ => ts_nil) (fun _ _ _ _ _ => (r_f (f_call (ok_lw_taken T) (hr.mono (by decide)) (by rfl) T.g_lw_taken T.f_lw_taken.kp T.b_lw_taken pass0 (a_cons (r_v 0) (a_cons (r_v 1) (a_cons (r_f (f_cold (f_lst (a_cons (r_f (f_bin opr_add op_addD (r_f (f_bin opr_add op_addD (r_f (f_tup (a_cons (r_v 3) a_nil))) (r_v 10))) (r_f (f_tup (a_cons (r_v 8) a_nil))))) a_nil)))) a_nil)))))) (by decide) (by rw [ek]; decide))) a_nil)))) s_nil))))
theorem ok_lw_sizes (T : Tx K mg w) : FnOk P w K mg base CX0 7 T.a_lw_sizes T.d_lw_sizes ["_law_script", "_law_high", "_law_wide", "_law_rooms"] (spD ⟨K, T.cl, w⟩ F_lw_sizes) := by
  refine ok_def (N := N_lw_sizes) (m := m_lw_sizes) (kp := [true, true, true, true]) T.f_lw_sizes sc_lw_sizes rfl (fun cdv A outer s H XE en ek hr => ?_)
  have hu := hr.units
  have nd := (sc_lw_sizes).nd
  exact (s_cons (s_set 4 nd (by rfl) (by first | exact Or.inl rfl | exact Or.inr rfl) (by rw [ek]; decide) (g_f (f_call (ok_lw_cell_at T) (hr.mono (by decide)) (by rfl) T.g_lw_cell_at T.f_lw_cell_at.kp T.b_lw_cell_at pass0 (a_cons (r_v 0) (a_cons (r_f f_int) a_nil)))))
      (s_cons (s_set 5 nd (by rfl) (by first | exact Or.inl rfl | exact Or.inr rfl) (by rw [ek]; decide) (g_r (r_ix hu (r_f (f_lst (a_cons (r_v 3) (a_cons (r_f (f_cold (f_lst a_nil))) (a_cons (r_f f_non) (a_cons (r_f (f_cold (f_lst (a_cons (r_f f_non) a_nil)))) a_nil)))))) (r_f (f_bin op_mod op_modD (r_f (f_bin op_fdivW op_fdivD (r_v 4) (r_f f_int))) (r_f f_int))))))
      (s_cons (s_if (tv_cmp (op_eqD hu) op_eqqD flat_eq (v_r (r_f (f_bin op_mod op_modD (r_v 4) (r_f f_int)))) (v_r (r_f f_int)) (nomark _)) (s_cons (s_ret (g_f (f_call (ok_lw_refused T) (hr.mono (by decide)) (by rfl) T.g_lw_refused T.f_lw_refused.kp T.b_lw_refused pass0 (a_cons (r_ix hu (r_f (f_lst (a_cons (r_f f_int) (a_cons (r_f f_int) (a_cons (r_f (f_neg (r_f f_int))) (a_cons (r_f f_non) (a_cons (r_f f_bl) (a_cons (r_f (f_str [53])) (a_cons (r_f (f_bin op_pow op_powD (r_f f_int) (r_f f_int))) (a_cons (r_f (f_tup (a_cons (r_f f_int) a_nil))) a_nil)))))))))) (r_f (f_bin op_mod op_modD (r_f (f_bin op_fdivW op_fdivD (r_v 4) (r_f f_int))) (r_f f_int)))) (a_cons (r_v 2) (a_cons (r_v 5) (a_cons (r_f (f_tup (a_cons (r_f (f_str [115, 105, 122, 101])) (a_cons (r_f f_int) (a_cons (r_f f_bl) a_nil))))) a_nil))))))) s_nil) s_nil)
      (s_cons (s_set 6 nd (by rfl) (by first | exact Or.inl rfl | exact Or.inr rfl) (by rw [ek]; decide) (g_r (r_ix hu (r_f (f_lst (a_cons (r_f f_int) (a_cons (r_f f_int) (a_cons (r_f (f_neg (r_f f_int))) (a_cons (r_f f_non) (a_cons (r_f f_bl) (a_cons (r_f (f_str [51, 48])) (a_cons (r_f (f_bin op_pow op_powD (r_f f_int) (r_f f_int))) (a_cons (r_f (f_cold (f_lst (a_cons (r_f f_int) a_nil)))) a_nil)))))))))) (r_f (f_bin op_mod op_modD (r_f (f_bin op_fdivW op_fdivD (r_v 4) (r_f f_int))) (r_f f_int))))))
      (s_cons (s_ret (g_f (f_call (ok_lw_refused T) (hr.mono (by decide)) (by rfl) T.g_lw_refused T.f_lw_refused.kp T.b_lw_refused pass0 (a_cons (r_v 1) (a_cons (r_v 6) (a_cons (r_v 5) (a_cons (r_f (f_tup (a_cons (r_f (f_str [115, 105, 122, 101])) (a_cons (r_f f_int) (a_cons (r_f f_bl) a_nil))))) a_nil))))))) s_nil)))))
theorem ok_law (T : Tx K mg w) : FnOk P w K mg base CX0 8 T.a_law T.d_law ["_law_script"] (spD ⟨K, T.cl, w⟩ F_law) := by
  refine ok_def (N := N_law) (m := m_law) (kp := [true]) T.f_law sc_law rfl (fun cdv A outer s H XE en ek hr => ?_)
  have hu := hr.units
  have nd := (sc_law).nd
  exact (s_cons (s_set 1 nd (by rfl) (by first | exact Or.inl rfl | exact Or.inr rfl) (by rw [ek]; decide) (g_f (f_call (ok_lw_cell_at T) (hr.mono (by decide)) (by rfl) T.g_lw_cell_at T.f_lw_cell_at.kp T.b_lw_cell_at pass0 (a_cons (r_v 0) (a_cons (r_f f_int) a_nil)))))
      (s_cons (s_set 2 nd (by rfl) (by first | exact Or.inl rfl | exact Or.inr rfl) (by rw [ek]; decide) (g_f (f_bin opr_add op_addD (r_f f_int) (r_f (f_bin op_mod op_modD (r_f (f_bin op_fdivW op_fdivD (r_v 1) (r_f f_int))) (r_f f_int))))))
      (s_cons (s_asg (g_f (f_call (ok_lw_good T) (hr.mono (by decide)) (by rfl) T.g_lw_good T.f_lw_good.kp T.b_lw_good pass0 (a_cons (r_v 0) (a_cons (r_f f_int) a_nil)))) (g_tup rfl (gs_cons (g_name 3 nd (by rfl) (by first | exact Or.inl rfl | exact Or.inr rfl) (by rw [ek]; decide)) (gs_cons (g_name 4 nd (by rfl) (by first | exact Or.inl rfl | exact Or.inr rfl) (by rw [ek]; decide)) (gs_cons (g_name 5 nd (by rfl) (by first | exact Or.inl rfl | exact Or.inr rfl) (by rw [ek]; decide)) gs_nil))) (hlen := len_cons (len_cons (len_cons (fun _ _ _ h => len_nil h))))))
      (s_cons (s_set 6 nd (by rfl) (by first | exact Or.inl rfl | exact Or.inr rfl) (by rw [ek]; decide) (g_f (f_cold (f_sl (r_v 5) o_none (o_some (r_v 2))))))
      (s_cons (s_if (t_w (w_or (t_not (t_val (r_f (f_call (ok_lw_taken T) (hr.mono (by decide)) (by rfl) T.g_lw_taken T.f_lw_taken.kp T.b_lw_taken pass0 (a_cons (r_v 3) (a_cons (r_v 4) (a_cons (r_v 6) a_nil))))))) (w_or1 (t_not (t_val (r_f (f_call (ok_lw_edges T) (hr.mono (by decide)) (by rfl) T.g_lw_edges T.f_lw_edges.kp T.b_lw_edges pass0 (a_cons (r_v 3) (a_cons (r_v 4) (a_cons (r_ix hu (r_v 6) (r_f (f_neg (r_f f_int)))) a_nil)))))))))) (s_cons (s_ret (g_f f_bl)) s_nil) s_nil)
      (s_cons (s_if (t_w (w_and (tv_cmp (op_eqD hu) op_eqqD flat_eq (v_r (r_f (f_bin op_mod op_modD (r_v 1) (r_f f_int)))) (v_r (r_f f_int)) (nomark _)) (w_and1 (t_not (t_val (r_f (f_call (ok_lw_sizes T) (hr.mono (by decide)) (by rfl) T.g_lw_sizes T.f_lw_sizes.kp T.b_lw_sizes pass0 (a_cons (r_v 0) (a_cons (r_v 3) (a_cons (r_v 4) (a_cons (r_v 6) a_nil))))))))))) (s_cons (s_ret (g_f f_bl)) s_nil) s_nil)
      (s_cons (s_set 7 nd (by rfl) (by first | exact Or.inl rfl | exact Or.inr rfl) (by rw [ek]; decide) (g_r (r_ix hu (r_f (f_lst (a_cons (r_f f_non) (a_cons (r_f (f_tup a_nil)) (a_cons (r_f (f_str [])) (a_cons (r_f (f_cold f_dnew)) (a_cons (r_f (f_cold (f_lst a_nil))) (a_cons (r_f f_int) a_nil)))))))) (r_f (f_bin op_mod op_modD (r_f (f_bin op_fdivW op_fdivD (r_v 1) (r_f f_int))) (r_f f_int))))))
      (s_cons (s_if (t_w (w_and (tv_cmp (op_eqD hu) op_eqqD flat_eq (v_r (r_f (f_bin op_mod op_modD (r_v 1) (r_f f_int)))) (v_r (r_f f_int)) (nomark _)) (w_and1 (t_not (t_val (r_f (f_call (ok_lw_refused T) (hr.mono (by decide)) (by rfl) T.g_lw_refused T.f_lw_refused.kp T.b_lw_refused pass0 (a_cons (r_v 3) (a_cons (r_v 4) (a_cons (r_v 7) (a_cons (r_f (f_tup (a_cons (r_f (f_str [114, 111, 111, 109])) (a_cons (r_f f_int) (a_cons (r_f f_bl) a_nil))))) a_nil))))))))))) (s_cons (s_ret (g_f f_bl)) s_nil) s_nil)
      (s_cons (s_if (t_w (w_and (tv_cmp (op_eqD hu) op_eqqD flat_eq (v_r (r_f (f_bin op_mod op_modD (r_v 1) (r_f f_int)))) (v_r (r_f f_int)) (nomark _)) (w_and1 (t_not (t_val (r_f (f_call (ok_lw_refused T) (hr.mono (by decide)) (by rfl) T.g_lw_refused T.f_lw_refused.kp T.b_lw_refused pass0 (a_cons (r_v 3) (a_cons (r_v 4) (a_cons (r_f (f_cold (f_bty call_list_of op_listD (by rfl) T.z_list (by decide +kernel) (a_cons (r_v 5) a_nil)))) (a_cons (r_f (f_tup (a_cons (r_f (f_str [114, 111, 111, 109])) (a_cons (r_f f_int) (a_cons (r_f f_bl) a_nil))))) a_nil))))))))))) (s_cons (s_ret (g_f f_bl)) s_nil) s_nil)
      (s_cons (s_set 8 nd (by rfl) (by first | exact Or.inl rfl | exact Or.inr rfl) (by rw [ek]; decide) (g_f (f_call (ok_lw_cell_at T) (hr.mono (by decide)) (by rfl) T.g_lw_cell_at T.f_lw_cell_at.kp T.b_lw_cell_at pass0 (a_cons (r_v 0) (a_cons (r_f f_int) a_nil)))))
      (s_cons (s_set 9 nd (by rfl) (by first | exact Or.inl rfl | exact Or.inr rfl) (by rw [ek]; decide) (g_f (f_bin op_mod op_modD (r_v 8) (r_v 2))))
      (s_cons (s_set 10 nd (by rfl) (by first | exact Or.inl rfl | exact Or.inr rfl) (by rw [ek]; decide) (g_f (f_bty call_list_of op_listD (by rfl) T.z_list (by decide +kernel) (a_cons (r_v 6) a_nil))))
      (s_cons (s_store (g_f (f_call (ok_lw_bad T) (hr.mono (by decide)) (by rfl) T.g_lw_bad T.f_lw_bad.kp T.b_lw_bad pass0 (a_cons (r_f (f_bin op_fdivW op_fdivD (r_v 8) (r_f f_int))) (a_cons (r_ix hu (r_v 6) (r_v 9)) (a_cons (r_f (f_cold (f_sl (r_v 6) o_none (o_some (r_v 9))))) (a_cons (r_v 3) (a_cons (r_v 4) a_nil))))))) (p_v 10) (r_v 9))
      (s_cons (s_set 11 nd (by rfl) (by first | exact Or.inl rfl | exact Or.inr rfl) (by rw [ek]; decide) (g_f (f_call (ok_lw_cell_at T) (hr.mono (by decide)) (by rfl) T.g_lw_cell_at T.f_lw_cell_at.kp T.b_lw_cell_at pass0 (a_cons (r_v 0) (a_cons (r_f f_int) a_nil)))))
      (s_cons (s_if (tv_cmp (op_eqD hu) op_eqqD flat_eq (v_r (r_f (f_bin op_mod op_modD (r_v 11) (r_f f_int)))) (v_r (r_f f_int)) (nomark _)) (s_cons (s_set 10 nd (by rfl) (by first | exact Or.inl rfl | exact Or.inr rfl) (by rw [ek]; decide) (g_f (f_bin opr_add op_addD (r_v 10) (r_f (f_lst (a_cons (r_ix hu (r_f (f_lst (a_cons (r_f f_non) (a_cons (r_f (f_tup a_nil)) (a_cons (r_f f_int) a_nil))))) (r_f (f_bin op_mod op_modD (r_f (f_bin op_fdivW op_fdivD (r_v 11) (r_f f_int))) (r_f f_int)))) a_nil))))))
      s_nil) s_nil)
      (s_kill [] (s_cons (s_if (t_not (t_val (r_f (f_view [10] (f_call (ok_lw_refused T) (hr.mono (by decide)) (by rfl) T.g_lw_refused T.f_lw_refused.kp T.b_lw_refused pass0 (a_cons (r_v 3) (a_cons (r_v 4) (a_cons (r_v 10) (a_cons (r_f (f_tup (a_cons (r_f (f_str [114, 111, 111, 109])) (a_cons (r_v 9) (a_cons (r_f f_bl) a_nil))))) a_nil))))))))) (s_cons (s_ret (g_f f_bl)) s_nil) s_nil)
      (s_cons (s_ret (g_f (f_call (ok_lw_taken T) (hr.mono (by decide)) (by rfl) T.g_lw_taken T.f_lw_taken.kp T.b_lw_taken pass0 (a_cons (r_v 3) (a_cons (r_v 4) (a_cons (r_v 6) a_nil)))))) s_nil))))))))))))))))))
end
end LW

namespace LW
open PySem L2 PyProof.Rows LI
theorem law_true (ns : List Int) (hl : ns.length ≤ 63) (hb : ∀ z ∈ ns, Builtin.Int.intBits z ≤ 1048576) : ∃ ds', F_law [.scr ns] = some (.bl true, ds') := ⟨_, L_law ns (LW.law_t ns hl hb)⟩
theorem all_mk (LT : ∀ ns : List Int, ns.length ≤ 63 → (∀ z ∈ ns, Builtin.Int.intBits z ≤ 1048576) → ∃ ds', F_law [.scr ns] = some (.bl true, ds')) {l : PySem.W.OpenLaw} {w : World} {K : PySem.W.Frag} {h : Heap} {mg : Str → Option Value} {fa : Addr} (X : K.In h) (G : h.Ns mainGlobals mg) (hfa : mg "law" = some (.ref fa))
    {c_Plan c_OutError c_NoName c_NoHand c_Twice c_NoSize c_NoRoom c_NoCell p_is_name__X1 p_is_name p_is_whole__X1 p_is_whole p_is_among__X1 p_is_among p_is_room__X1 p_is_room p_is_apart p_Plan_init__X1 p_Plan_init p_Plan_room_names p_lw_cell_at p_lw_mix p_lw_names p_lw_good p_lw_number p_lw_over p_lw_bad p_lw_refused p_lw_taken p_lw_edges p_lw_sizes p_law p_NoRoom_init NN_NoRoom q_WAYS : Addr} {od_is_name__X1 an_is_name__X1 od_is_name an_is_name od_is_whole__X1 an_is_whole__X1 od_is_whole an_is_whole od_is_among__X1 an_is_among__X1 od_is_among an_is_among od_is_room__X1 an_is_room__X1 od_is_room an_is_room od_is_apart an_is_apart od_Plan_init__X1 an_Plan_init__X1 od_Plan_init an_Plan_init od_Plan_room_names an_Plan_room_names od_lw_cell_at an_lw_cell_at od_lw_mix an_lw_mix od_lw_names an_lw_names od_lw_good an_lw_good od_lw_number an_lw_number od_lw_over an_lw_over od_lw_bad an_lw_bad od_lw_refused an_lw_refused od_lw_taken an_lw_taken od_lw_edges an_lw_edges od_lw_sizes an_lw_sizes od_law an_law od_NoRoom_init an_NoRoom_init dd_NoRoom od_WAYS : Option Addr} {sl_is_name__X1 sl_is_name sl_is_whole__X1 sl_is_whole sl_is_among__X1 sl_is_among sl_is_room__X1 sl_is_room sl_is_apart sl_Plan_init__X1 sl_Plan_init sl_Plan_room_names sl_lw_cell_at sl_lw_mix sl_lw_names sl_lw_good sl_lw_number sl_lw_over sl_lw_bad sl_lw_refused sl_lw_taken sl_lw_edges sl_lw_sizes sl_law sl_NoRoom_init sl_WAYS : Array (Option Value)} {oc_is_name__X1 kV_is_name__X1 dc_is_name__X1 pm_is_name__X1 cd_is_name__X1 ct_is_name__X1 oc_is_name kV_is_name dc_is_name pm_is_name cd_is_name ct_is_name oc_is_whole__X1 kV_is_whole__X1 dc_is_whole__X1 pm_is_whole__X1 cd_is_whole__X1 ct_is_whole__X1 oc_is_whole kV_is_whole dc_is_whole pm_is_whole cd_is_whole ct_is_whole oc_is_among__X1 kV_is_among__X1 dc_is_among__X1 pm_is_among__X1 cd_is_among__X1 ct_is_among__X1 oc_is_among kV_is_among dc_is_among pm_is_among cd_is_among ct_is_among oc_is_room__X1 kV_is_room__X1 dc_is_room__X1 pm_is_room__X1 cd_is_room__X1 ct_is_room__X1 oc_is_room kV_is_room dc_is_room pm_is_room cd_is_room ct_is_room oc_is_apart kV_is_apart dc_is_apart pm_is_apart cd_is_apart ct_is_apart oc_Plan_init__X1 kV_Plan_init__X1 dc_Plan_init__X1 pm_Plan_init__X1 cd_Plan_init__X1 ct_Plan_init__X1 oc_Plan_init kV_Plan_init dc_Plan_init pm_Plan_init cd_Plan_init ct_Plan_init oc_Plan_room_names kV_Plan_room_names dc_Plan_room_names pm_Plan_room_names cd_Plan_room_names ct_Plan_room_names oc_lw_cell_at kV_lw_cell_at dc_lw_cell_at pm_lw_cell_at cd_lw_cell_at ct_lw_cell_at oc_lw_mix kV_lw_mix dc_lw_mix pm_lw_mix cd_lw_mix ct_lw_mix oc_lw_names kV_lw_names dc_lw_names pm_lw_names cd_lw_names ct_lw_names oc_lw_good kV_lw_good dc_lw_good pm_lw_good cd_lw_good ct_lw_good oc_lw_number kV_lw_number dc_lw_number pm_lw_number cd_lw_number ct_lw_number oc_lw_over kV_lw_over dc_lw_over pm_lw_over cd_lw_over ct_lw_over oc_lw_bad kV_lw_bad dc_lw_bad pm_lw_bad cd_lw_bad ct_lw_bad oc_lw_refused kV_lw_refused dc_lw_refused pm_lw_refused cd_lw_refused ct_lw_refused oc_lw_taken kV_lw_taken dc_lw_taken pm_lw_taken cd_lw_taken ct_lw_taken oc_lw_edges kV_lw_edges dc_lw_edges pm_lw_edges cd_lw_edges ct_lw_edges oc_lw_sizes kV_lw_sizes dc_lw_sizes pm_lw_sizes cd_lw_sizes ct_lw_sizes oc_law kV_law dc_law pm_law cd_law ct_law oc_NoRoom_init kV_NoRoom_init dc_NoRoom_init pm_NoRoom_init cd_NoRoom_init ct_NoRoom_init : Value} {nm_NoRoom qq_NoRoom : Str} {bs_NoRoom su_NoRoom : List Value} {sn_NoRoom : List Str} {ab_NoRoom : Bool} {co_NoRoom : Option Bool} {m0_NoRoom m1_NoRoom m2_NoRoom m3_NoRoom m5_NoRoom : Option Value} {t_HIGHEST t_LETTERS t_LONGEST t_MOST_ROOMS t_NARROWEST t_WIDEST : Tok} {it_WAYS : Array Value} {n_WAYS : Nat} 
    (gc_OutError : PySem.W.nsIn K mainGlobals "OutError" = some (some (.ref c_OutError)))
    (gc_NoName : PySem.W.nsIn K mainGlobals "NoName" = some (some (.ref c_NoName)))
    (gc_NoHand : PySem.W.nsIn K mainGlobals "NoHand" = some (some (.ref c_NoHand)))
    (gc_Twice : PySem.W.nsIn K mainGlobals "Twice" = some (some (.ref c_Twice)))
    (gc_NoSize : PySem.W.nsIn K mainGlobals "NoSize" = some (some (.ref c_NoSize)))
    (gc_NoRoom : PySem.W.nsIn K mainGlobals "NoRoom" = some (some (.ref c_NoRoom)))
    (gc_NoCell : PySem.W.nsIn K mainGlobals "NoCell" = some (some (.ref c_NoCell)))
    (x1_NoRoom : PySem.W.isClsIn K c_NoRoom = true)
    (x2_NoRoom : PySem.W.findIn K (.ref c_NoRoom) "__getattribute__" = some (some (.builtin "BaseException.__getattribute__")))
    (x3_NoRoom : PySem.W.findIn K (.ref c_NoRoom) "__getattr__" = some none)
    (x4_NoRoom : PySem.W.subIn K (.ref c_NoRoom) (.type "BaseException") = some true)
    (x5_NoRoom : PySem.W.findIn K (.ref c_NoRoom) "__class__" = some (some (.builtin "object.__class__")))
    (x6_NoRoom : PySem.W.specialIn K (.builtin "object.__class__") "__get__" = some (some (.builtin "getset_descriptor.__get__")))
    (x7_NoRoom : PySem.W.takesIn K (.builtin "object.__class__") = some true)
    (x8_NoRoom : PySem.W.mroIn K c_NoRoom (.type "object") = some true)
    (x9_NoRoom : PySem.W.hasDictIn K c_NoRoom = true)
    (ik_v_NoRoom : PySem.W.kitOne K (.ref c_NoRoom) (.type "ValueError") = some true)
    (ik_NoRoom__NoCell : PySem.W.kitOne K (.ref c_NoRoom) (.ref c_NoCell) = some false)
    (ik_NoRoom__NoHand : PySem.W.kitOne K (.ref c_NoRoom) (.ref c_NoHand) = some false)
    (ik_NoRoom__NoName : PySem.W.kitOne K (.ref c_NoRoom) (.ref c_NoName) = some false)
    (ik_NoRoom__NoRoom : PySem.W.kitOne K (.ref c_NoRoom) (.ref c_NoRoom) = some true)
    (ik_NoRoom__OutError : PySem.W.kitOne K (.ref c_NoRoom) (.ref c_OutError) = some true)
    (ik_NoRoom__Twice : PySem.W.kitOne K (.ref c_NoRoom) (.ref c_Twice) = some false)
    (xs_NoRoom__NoSize : PySem.W.subIn K (.ref c_NoRoom) (.ref c_NoSize) = some false)
    (xs_NoRoom__NoRoom : PySem.W.subIn K (.ref c_NoRoom) (.ref c_NoRoom) = some true)
    (x1_NoSize : PySem.W.isClsIn K c_NoSize = true)
    (x2_NoSize : PySem.W.findIn K (.ref c_NoSize) "__getattribute__" = some (some (.builtin "BaseException.__getattribute__")))
    (x3_NoSize : PySem.W.findIn K (.ref c_NoSize) "__getattr__" = some none)
    (x4_NoSize : PySem.W.subIn K (.ref c_NoSize) (.type "BaseException") = some true)
    (x5_NoSize : PySem.W.findIn K (.ref c_NoSize) "__class__" = some (some (.builtin "object.__class__")))
    (x6_NoSize : PySem.W.specialIn K (.builtin "object.__class__") "__get__" = some (some (.builtin "getset_descriptor.__get__")))
    (x7_NoSize : PySem.W.takesIn K (.builtin "object.__class__") = some true)
    (x8_NoSize : PySem.W.mroIn K c_NoSize (.type "object") = some true)
    (x9_NoSize : PySem.W.hasDictIn K c_NoSize = true)
    (ik_v_NoSize : PySem.W.kitOne K (.ref c_NoSize) (.type "ValueError") = some true)
    (ik_NoSize__NoCell : PySem.W.kitOne K (.ref c_NoSize) (.ref c_NoCell) = some false)
    (ik_NoSize__NoHand : PySem.W.kitOne K (.ref c_NoSize) (.ref c_NoHand) = some false)
    (ik_NoSize__NoName : PySem.W.kitOne K (.ref c_NoSize) (.ref c_NoName) = some false)
    (ik_NoSize__NoRoom : PySem.W.kitOne K (.ref c_NoSize) (.ref c_NoRoom) = some false)
    (ik_NoSize__OutError : PySem.W.kitOne K (.ref c_NoSize) (.ref c_OutError) = some true)
    (ik_NoSize__Twice : PySem.W.kitOne K (.ref c_NoSize) (.ref c_Twice) = some false)
    (xs_NoSize__NoSize : PySem.W.subIn K (.ref c_NoSize) (.ref c_NoSize) = some true)
    (xs_NoSize__NoRoom : PySem.W.subIn K (.ref c_NoSize) (.ref c_NoRoom) = some false)
    (xf_at__NoRoom : PySem.W.findIn K (.ref c_NoRoom) "at" = some none)
    (xf_at__NoSize : PySem.W.findIn K (.ref c_NoSize) "at" = some none)
    (a1_NoRoom_init : PySem.W.findIn K (.ref c_NoRoom) "__init__" = some (some (.ref p_NoRoom_init)))
    (a5_NoRoom_init : PySem.W.typeIn K (.ref p_NoRoom_init) = some (.type "function"))
    (a2_NoRoom_init : K.lookup p_NoRoom_init = some ⟨oc_NoRoom_init, od_NoRoom_init, .func (PySem.W.fnOf "__init__" "NoRoom.__init__" (defArgs s_NoRoom_init) (defBody s_NoRoom_init) (defScope s_NoRoom_init) .none kV_NoRoom_init dc_NoRoom_init pm_NoRoom_init an_NoRoom_init cd_NoRoom_init ct_NoRoom_init), sl_NoRoom_init⟩)
    (a3_NoRoom_init : PySem.W.codeIn K cd_NoRoom_init "NoRoom.__init__" = true)
    (a4_NoRoom_init : PySem.W.keepIn K (.ref p_NoRoom_init) = true)
    (xl_NoRoom : K.lookup c_NoRoom = some (excClassObj nm_NoRoom qq_NoRoom c_NoRoom NN_NoRoom bs_NoRoom [.ref c_OutError, .type "ValueError", .type "Exception", .type "BaseException", .type "object"] true sn_NoRoom su_NoRoom ab_NoRoom co_NoRoom dd_NoRoom m0_NoRoom m1_NoRoom m2_NoRoom m3_NoRoom m5_NoRoom "ValueError.__new__"))
    (xw_NoRoom : PySem.W.findIn K (.ref c_NoRoom) "__setattr__" = some (some (.builtin "object.__setattr__")))
    (xt_NoRoom : PySem.W.typeIn K (.ref c_NoRoom) = some (.type "type"))
    (xq_NoRoom : PySem.W.keepIn K (.ref c_NoRoom) = true)
    (xn_NoRoom : PySem.W.findIn K (.ref c_NoRoom) "at" = some none)
    (rd_OutError : PySem.W.readsIn K c_OutError (.type "type") = true)
    (ga_OutError : PySem.W.specialIn K (.ref c_OutError) "__getattribute__" = some (some (.builtin "type.__getattribute__")))
    (bi_OutError : PySem.W.findCls K (.ref c_OutError) (.type "type") "__init__" = some (.val (.builtin "ValueError.__init__")))
    (xm1_NoSize : PySem.W.subIn K (.ref c_NoSize) (.type "BaseException") = some true)
    (xm2_NoSize : PySem.W.hasDictIn K c_NoSize = true)
    (xm3_NoSize : PySem.W.typeIn K (.ref c_NoSize) = some (.type "type"))
    (xm1_NoRoom : PySem.W.subIn K (.ref c_NoRoom) (.type "BaseException") = some true)
    (xm2_NoRoom : PySem.W.hasDictIn K c_NoRoom = true)
    (xm3_NoRoom : PySem.W.typeIn K (.ref c_NoRoom) = some (.type "type"))
    (xp_NoSize : PySem.W.excIn K c_NoSize [.type "ValueError", .type "Exception", .type "BaseException", .type "object"] "ValueError.__new__" = true)
    (xq_NoSize : PySem.W.keepIn K (.ref c_NoSize) = true)
    (xt_NoSize : PySem.W.typeIn K (.ref c_NoSize) = some (.type "type"))
    (gc_Plan : PySem.W.nsIn K mainGlobals "Plan" = some (some (.ref c_Plan)))
    (a1_is_name__X1 : PySem.W.nsIn K mainGlobals "is_name" = some (some (.ref p_is_name__X1)))
    (a2_is_name__X1 : K.lookup p_is_name__X1 = some ⟨oc_is_name__X1, od_is_name__X1, .func (PySem.W.fnOf "is_name" "is_name" (defArgs s_is_name__X1) (defBody s_is_name__X1) (defScope s_is_name__X1) .none kV_is_name__X1 dc_is_name__X1 pm_is_name__X1 an_is_name__X1 cd_is_name__X1 ct_is_name__X1), sl_is_name__X1⟩)
    (a3_is_name__X1 : PySem.W.codeIn K cd_is_name__X1 "is_name" = true)
    (a4_is_name__X1 : PySem.W.keepIn K (.ref p_is_name__X1) = true)
    (a1_is_name : PySem.W.nsIn K mainGlobals "is_name" = some (some (.ref p_is_name)))
    (a2_is_name : K.lookup p_is_name = some ⟨oc_is_name, od_is_name, .func (PySem.W.fnOf "is_name" "is_name" (defArgs s_is_name) (defBody s_is_name) (defScope s_is_name) .none kV_is_name dc_is_name pm_is_name an_is_name cd_is_name ct_is_name), sl_is_name⟩)
    (a3_is_name : PySem.W.codeIn K cd_is_name "is_name" = true)
    (a4_is_name : PySem.W.keepIn K (.ref p_is_name) = true)
    (a1_is_whole__X1 : PySem.W.nsIn K mainGlobals "is_whole" = some (some (.ref p_is_whole__X1)))
    (a2_is_whole__X1 : K.lookup p_is_whole__X1 = some ⟨oc_is_whole__X1, od_is_whole__X1, .func (PySem.W.fnOf "is_whole" "is_whole" (defArgs s_is_whole__X1) (defBody s_is_whole__X1) (defScope s_is_whole__X1) .none kV_is_whole__X1 dc_is_whole__X1 pm_is_whole__X1 an_is_whole__X1 cd_is_whole__X1 ct_is_whole__X1), sl_is_whole__X1⟩)
    (a3_is_whole__X1 : PySem.W.codeIn K cd_is_whole__X1 "is_whole" = true)
    (a4_is_whole__X1 : PySem.W.keepIn K (.ref p_is_whole__X1) = true)
    (a1_is_whole : PySem.W.nsIn K mainGlobals "is_whole" = some (some (.ref p_is_whole)))
    (a2_is_whole : K.lookup p_is_whole = some ⟨oc_is_whole, od_is_whole, .func (PySem.W.fnOf "is_whole" "is_whole" (defArgs s_is_whole) (defBody s_is_whole) (defScope s_is_whole) .none kV_is_whole dc_is_whole pm_is_whole an_is_whole cd_is_whole ct_is_whole), sl_is_whole⟩)
    (a3_is_whole : PySem.W.codeIn K cd_is_whole "is_whole" = true)
    (a4_is_whole : PySem.W.keepIn K (.ref p_is_whole) = true)
    (a1_is_among__X1 : PySem.W.nsIn K mainGlobals "is_among" = some (some (.ref p_is_among__X1)))
    (a2_is_among__X1 : K.lookup p_is_among__X1 = some ⟨oc_is_among__X1, od_is_among__X1, .func (PySem.W.fnOf "is_among" "is_among" (defArgs s_is_among__X1) (defBody s_is_among__X1) (defScope s_is_among__X1) .none kV_is_among__X1 dc_is_among__X1 pm_is_among__X1 an_is_among__X1 cd_is_among__X1 ct_is_among__X1), sl_is_among__X1⟩)
    (a3_is_among__X1 : PySem.W.codeIn K cd_is_among__X1 "is_among" = true)
    (a4_is_among__X1 : PySem.W.keepIn K (.ref p_is_among__X1) = true)
    (a1_is_among : PySem.W.nsIn K mainGlobals "is_among" = some (some (.ref p_is_among)))
    (a2_is_among : K.lookup p_is_among = some ⟨oc_is_among, od_is_among, .func (PySem.W.fnOf "is_among" "is_among" (defArgs s_is_among) (defBody s_is_among) (defScope s_is_among) .none kV_is_among dc_is_among pm_is_among an_is_among cd_is_among ct_is_among), sl_is_among⟩)
    (a3_is_among : PySem.W.codeIn K cd_is_among "is_among" = true)
    (a4_is_among : PySem.W.keepIn K (.ref p_is_among) = true)
    (a1_is_room__X1 : PySem.W.nsIn K mainGlobals "is_room" = some (some (.ref p_is_room__X1)))
    (a2_is_room__X1 : K.lookup p_is_room__X1 = some ⟨oc_is_room__X1, od_is_room__X1, .func (PySem.W.fnOf "is_room" "is_room" (defArgs s_is_room__X1) (defBody s_is_room__X1) (defScope s_is_room__X1) .none kV_is_room__X1 dc_is_room__X1 pm_is_room__X1 an_is_room__X1 cd_is_room__X1 ct_is_room__X1), sl_is_room__X1⟩)
    (a3_is_room__X1 : PySem.W.codeIn K cd_is_room__X1 "is_room" = true)
    (a4_is_room__X1 : PySem.W.keepIn K (.ref p_is_room__X1) = true)
    (a1_is_room : PySem.W.nsIn K mainGlobals "is_room" = some (some (.ref p_is_room)))
    (a2_is_room : K.lookup p_is_room = some ⟨oc_is_room, od_is_room, .func (PySem.W.fnOf "is_room" "is_room" (defArgs s_is_room) (defBody s_is_room) (defScope s_is_room) .none kV_is_room dc_is_room pm_is_room an_is_room cd_is_room ct_is_room), sl_is_room⟩)
    (a3_is_room : PySem.W.codeIn K cd_is_room "is_room" = true)
    (a4_is_room : PySem.W.keepIn K (.ref p_is_room) = true)
    (a1_is_apart : PySem.W.nsIn K mainGlobals "is_apart" = some (some (.ref p_is_apart)))
    (a2_is_apart : K.lookup p_is_apart = some ⟨oc_is_apart, od_is_apart, .func (PySem.W.fnOf "is_apart" "is_apart" (defArgs s_is_apart) (defBody s_is_apart) (defScope s_is_apart) .none kV_is_apart dc_is_apart pm_is_apart an_is_apart cd_is_apart ct_is_apart), sl_is_apart⟩)
    (a3_is_apart : PySem.W.codeIn K cd_is_apart "is_apart" = true)
    (a4_is_apart : PySem.W.keepIn K (.ref p_is_apart) = true)
    (a1_Plan_init__X1 : PySem.W.findIn K (.ref c_Plan) "__init__" = some (some (.ref p_Plan_init__X1)))
    (a5_Plan_init__X1 : PySem.W.isFn K (.ref p_Plan_init__X1) = true)
    (a2_Plan_init__X1 : K.lookup p_Plan_init__X1 = some ⟨oc_Plan_init__X1, od_Plan_init__X1, .func (PySem.W.fnOf "__init__" "Plan.__init__" (defArgs s_Plan_init__X1) (defBody s_Plan_init__X1) (defScope s_Plan_init__X1) .none kV_Plan_init__X1 dc_Plan_init__X1 pm_Plan_init__X1 an_Plan_init__X1 cd_Plan_init__X1 ct_Plan_init__X1), sl_Plan_init__X1⟩)
    (a3_Plan_init__X1 : PySem.W.codeIn K cd_Plan_init__X1 "Plan.__init__" = true)
    (a4_Plan_init__X1 : PySem.W.keepIn K (.ref p_Plan_init__X1) = true)
    (a1_Plan_init : PySem.W.findIn K (.ref c_Plan) "__init__" = some (some (.ref p_Plan_init)))
    (a5_Plan_init : PySem.W.isFn K (.ref p_Plan_init) = true)
    (a2_Plan_init : K.lookup p_Plan_init = some ⟨oc_Plan_init, od_Plan_init, .func (PySem.W.fnOf "__init__" "Plan.__init__" (defArgs s_Plan_init) (defBody s_Plan_init) (defScope s_Plan_init) .none kV_Plan_init dc_Plan_init pm_Plan_init an_Plan_init cd_Plan_init ct_Plan_init), sl_Plan_init⟩)
    (a3_Plan_init : PySem.W.codeIn K cd_Plan_init "Plan.__init__" = true)
    (a4_Plan_init : PySem.W.keepIn K (.ref p_Plan_init) = true)
    (a1_Plan_room_names : PySem.W.findIn K (.ref c_Plan) "room_names" = some (some (.ref p_Plan_room_names)))
    (a5_Plan_room_names : PySem.W.isFn K (.ref p_Plan_room_names) = true)
    (a2_Plan_room_names : K.lookup p_Plan_room_names = some ⟨oc_Plan_room_names, od_Plan_room_names, .func (PySem.W.fnOf "room_names" "Plan.room_names" (defArgs s_Plan_room_names) (defBody s_Plan_room_names) (defScope s_Plan_room_names) .none kV_Plan_room_names dc_Plan_room_names pm_Plan_room_names an_Plan_room_names cd_Plan_room_names ct_Plan_room_names), sl_Plan_room_names⟩)
    (a3_Plan_room_names : PySem.W.codeIn K cd_Plan_room_names "Plan.room_names" = true)
    (a4_Plan_room_names : PySem.W.keepIn K (.ref p_Plan_room_names) = true)
    (a1_lw_cell_at : PySem.W.nsIn K mainGlobals "_law_cell_at" = some (some (.ref p_lw_cell_at)))
    (a2_lw_cell_at : K.lookup p_lw_cell_at = some ⟨oc_lw_cell_at, od_lw_cell_at, .func (PySem.W.fnOf "_law_cell_at" "_law_cell_at" (defArgs s_lw_cell_at) (defBody s_lw_cell_at) (defScope s_lw_cell_at) .none kV_lw_cell_at dc_lw_cell_at pm_lw_cell_at an_lw_cell_at cd_lw_cell_at ct_lw_cell_at), sl_lw_cell_at⟩)
    (a3_lw_cell_at : PySem.W.codeIn K cd_lw_cell_at "_law_cell_at" = true)
    (a4_lw_cell_at : PySem.W.keepIn K (.ref p_lw_cell_at) = true)
    (a1_lw_mix : PySem.W.nsIn K mainGlobals "_law_mix" = some (some (.ref p_lw_mix)))
    (a2_lw_mix : K.lookup p_lw_mix = some ⟨oc_lw_mix, od_lw_mix, .func (PySem.W.fnOf "_law_mix" "_law_mix" (defArgs s_lw_mix) (defBody s_lw_mix) (defScope s_lw_mix) .none kV_lw_mix dc_lw_mix pm_lw_mix an_lw_mix cd_lw_mix ct_lw_mix), sl_lw_mix⟩)
    (a3_lw_mix : PySem.W.codeIn K cd_lw_mix "_law_mix" = true)
    (a4_lw_mix : PySem.W.keepIn K (.ref p_lw_mix) = true)
    (a1_lw_names : PySem.W.nsIn K mainGlobals "_law_names" = some (some (.ref p_lw_names)))
    (a2_lw_names : K.lookup p_lw_names = some ⟨oc_lw_names, od_lw_names, .func (PySem.W.fnOf "_law_names" "_law_names" (defArgs s_lw_names) (defBody s_lw_names) (defScope s_lw_names) .none kV_lw_names dc_lw_names pm_lw_names an_lw_names cd_lw_names ct_lw_names), sl_lw_names⟩)
    (a3_lw_names : PySem.W.codeIn K cd_lw_names "_law_names" = true)
    (a4_lw_names : PySem.W.keepIn K (.ref p_lw_names) = true)
    (a1_lw_good : PySem.W.nsIn K mainGlobals "_law_good" = some (some (.ref p_lw_good)))
    (a2_lw_good : K.lookup p_lw_good = some ⟨oc_lw_good, od_lw_good, .func (PySem.W.fnOf "_law_good" "_law_good" (defArgs s_lw_good) (defBody s_lw_good) (defScope s_lw_good) .none kV_lw_good dc_lw_good pm_lw_good an_lw_good cd_lw_good ct_lw_good), sl_lw_good⟩)
    (a3_lw_good : PySem.W.codeIn K cd_lw_good "_law_good" = true)
    (a4_lw_good : PySem.W.keepIn K (.ref p_lw_good) = true)
    (a1_lw_number : PySem.W.nsIn K mainGlobals "_law_number" = some (some (.ref p_lw_number)))
    (a2_lw_number : K.lookup p_lw_number = some ⟨oc_lw_number, od_lw_number, .func (PySem.W.fnOf "_law_number" "_law_number" (defArgs s_lw_number) (defBody s_lw_number) (defScope s_lw_number) .none kV_lw_number dc_lw_number pm_lw_number an_lw_number cd_lw_number ct_lw_number), sl_lw_number⟩)
    (a3_lw_number : PySem.W.codeIn K cd_lw_number "_law_number" = true)
    (a4_lw_number : PySem.W.keepIn K (.ref p_lw_number) = true)
    (a1_lw_over : PySem.W.nsIn K mainGlobals "_law_over" = some (some (.ref p_lw_over)))
    (a2_lw_over : K.lookup p_lw_over = some ⟨oc_lw_over, od_lw_over, .func (PySem.W.fnOf "_law_over" "_law_over" (defArgs s_lw_over) (defBody s_lw_over) (defScope s_lw_over) .none kV_lw_over dc_lw_over pm_lw_over an_lw_over cd_lw_over ct_lw_over), sl_lw_over⟩)
    (a3_lw_over : PySem.W.codeIn K cd_lw_over "_law_over" = true)
    (a4_lw_over : PySem.W.keepIn K (.ref p_lw_over) = true)
    (a1_lw_bad : PySem.W.nsIn K mainGlobals "_law_bad" = some (some (.ref p_lw_bad)))
    (a2_lw_bad : K.lookup p_lw_bad = some ⟨oc_lw_bad, od_lw_bad, .func (PySem.W.fnOf "_law_bad" "_law_bad" (defArgs s_lw_bad) (defBody s_lw_bad) (defScope s_lw_bad) .none kV_lw_bad dc_lw_bad pm_lw_bad an_lw_bad cd_lw_bad ct_lw_bad), sl_lw_bad⟩)
    (a3_lw_bad : PySem.W.codeIn K cd_lw_bad "_law_bad" = true)
    (a4_lw_bad : PySem.W.keepIn K (.ref p_lw_bad) = true)
    (a1_lw_refused : PySem.W.nsIn K mainGlobals "_law_refused" = some (some (.ref p_lw_refused)))
    (a2_lw_refused : K.lookup p_lw_refused = some ⟨oc_lw_refused, od_lw_refused, .func (PySem.W.fnOf "_law_refused" "_law_refused" (defArgs s_lw_refused) (defBody s_lw_refused) (defScope s_lw_refused) .none kV_lw_refused dc_lw_refused pm_lw_refused an_lw_refused cd_lw_refused ct_lw_refused), sl_lw_refused⟩)
    (a3_lw_refused : PySem.W.codeIn K cd_lw_refused "_law_refused" = true)
    (a4_lw_refused : PySem.W.keepIn K (.ref p_lw_refused) = true)
    (a1_lw_taken : PySem.W.nsIn K mainGlobals "_law_taken" = some (some (.ref p_lw_taken)))
    (a2_lw_taken : K.lookup p_lw_taken = some ⟨oc_lw_taken, od_lw_taken, .func (PySem.W.fnOf "_law_taken" "_law_taken" (defArgs s_lw_taken) (defBody s_lw_taken) (defScope s_lw_taken) .none kV_lw_taken dc_lw_taken pm_lw_taken an_lw_taken cd_lw_taken ct_lw_taken), sl_lw_taken⟩)
    (a3_lw_taken : PySem.W.codeIn K cd_lw_taken "_law_taken" = true)
    (a4_lw_taken : PySem.W.keepIn K (.ref p_lw_taken) = true)
    (a1_lw_edges : PySem.W.nsIn K mainGlobals "_law_edges" = some (some (.ref p_lw_edges)))
    (a2_lw_edges : K.lookup p_lw_edges = some ⟨oc_lw_edges, od_lw_edges, .func (PySem.W.fnOf "_law_edges" "_law_edges" (defArgs s_lw_edges) (defBody s_lw_edges) (defScope s_lw_edges) .none kV_lw_edges dc_lw_edges pm_lw_edges an_lw_edges cd_lw_edges ct_lw_edges), sl_lw_edges⟩)
    (a3_lw_edges : PySem.W.codeIn K cd_lw_edges "_law_edges" = true)
    (a4_lw_edges : PySem.W.keepIn K (.ref p_lw_edges) = true)
    (a1_lw_sizes : PySem.W.nsIn K mainGlobals "_law_sizes" = some (some (.ref p_lw_sizes)))
    (a2_lw_sizes : K.lookup p_lw_sizes = some ⟨oc_lw_sizes, od_lw_sizes, .func (PySem.W.fnOf "_law_sizes" "_law_sizes" (defArgs s_lw_sizes) (defBody s_lw_sizes) (defScope s_lw_sizes) .none kV_lw_sizes dc_lw_sizes pm_lw_sizes an_lw_sizes cd_lw_sizes ct_lw_sizes), sl_lw_sizes⟩)
    (a3_lw_sizes : PySem.W.codeIn K cd_lw_sizes "_law_sizes" = true)
    (a4_lw_sizes : PySem.W.keepIn K (.ref p_lw_sizes) = true)
    (a1_law : PySem.W.nsIn K mainGlobals "law" = some (some (.ref p_law)))
    (a2_law : K.lookup p_law = some ⟨oc_law, od_law, .func (PySem.W.fnOf "law" "law" (defArgs s_law) (defBody s_law) (defScope s_law) .none kV_law dc_law pm_law an_law cd_law ct_law), sl_law⟩)
    (a3_law : PySem.W.codeIn K cd_law "law" = true)
    (a4_law : PySem.W.keepIn K (.ref p_law) = true)
    (z_ValueError : PySem.W.nsIn K mainGlobals "ValueError" = some none)
    (z_all : PySem.W.nsIn K mainGlobals "all" = some none)
    (z_bool : PySem.W.nsIn K mainGlobals "bool" = some none)
    (z_enumerate : PySem.W.nsIn K mainGlobals "enumerate" = some none)
    (z_int : PySem.W.nsIn K mainGlobals "int" = some none)
    (z_isinstance : PySem.W.nsIn K mainGlobals "isinstance" = some none)
    (z_len : PySem.W.nsIn K mainGlobals "len" = some none)
    (z_list : PySem.W.nsIn K mainGlobals "list" = some none)
    (z_max : PySem.W.nsIn K mainGlobals "max" = some none)
    (z_range : PySem.W.nsIn K mainGlobals "range" = some none)
    (z_str : PySem.W.nsIn K mainGlobals "str" = some none)
    (z_tuple : PySem.W.nsIn K mainGlobals "tuple" = some none)
    (k_HIGHEST : PySem.W.nsIn K mainGlobals "HIGHEST" = some (some (.int 12 t_HIGHEST)))
    (k_LETTERS : PySem.W.nsIn K mainGlobals "LETTERS" = some (some (.str "abcdefghijklmnopqrstuvwxyz" t_LETTERS)))
    (k_LONGEST : PySem.W.nsIn K mainGlobals "LONGEST" = some (some (.int 8 t_LONGEST)))
    (k_MOST_ROOMS : PySem.W.nsIn K mainGlobals "MOST_ROOMS" = some (some (.int 6 t_MOST_ROOMS)))
    (k_NARROWEST : PySem.W.nsIn K mainGlobals "NARROWEST" = some (some (.int 2 t_NARROWEST)))
    (k1_WAYS : PySem.W.nsIn K mainGlobals "WAYS" = some (some (.ref q_WAYS)))
    (k2_WAYS : K.lookup q_WAYS = some ⟨.type "tuple", od_WAYS, .seq it_WAYS n_WAYS, sl_WAYS⟩)
    (k5_WAYS : it_WAYS.size ≤ sizeLine)
    (k6_WAYS : Vals ([[99, 117, 116], [99, 101, 108, 108, 115], [119, 111, 114, 100, 115], [101, 118, 101, 110]].map fun s => V.str ⟨s.toArray⟩) it_WAYS.toList)
    (k_WIDEST : PySem.W.nsIn K mainGlobals "WIDEST" = some (some (.int 40 t_WIDEST)))
    (pg_Plan : PySem.W.plainGet K c_Plan Str.empty = true)
    (hd_Plan : PySem.W.hasDictIn K c_Plan = true)
    (po_Plan : PySem.W.plainOver K c_Plan = true)
    (sa_Plan : PySem.W.findIn K (.ref c_Plan) "__setattr__" = some (some (.builtin "object.__setattr__")))
    (na_Plan_high : PySem.W.findIn K (.ref c_Plan) "high" = some none)
    (na_Plan_wide : PySem.W.findIn K (.ref c_Plan) "wide" = some none)
    (na_Plan_rooms : PySem.W.findIn K (.ref c_Plan) "rooms" = some none)
    (mi_Plan__X1 : PySem.W.makesIn K c_Plan = true)
    (kc_Plan__X1 : PySem.W.keepIn K (.ref c_Plan) = true)
    (mi_Plan : PySem.W.makesIn K c_Plan = true)
    (kc_Plan : PySem.W.keepIn K (.ref c_Plan) = true) :
    ∃ fd : FuncData, (∀ (s : Shared) (v : Value), BindsTo s fd ⟨[v], []⟩ [("_law_script", v)]) ∧ ∀ base : Heap, K.In base → base.Ns mainGlobals mg → FnOk l.prog w K mg base CX0 8 fa fd ["_law_script"] (spLaw K) := by
  have e := hfa.symm.trans (PySem.W.mg_of X G a1_law)
  cases e
  have Fis_name__X1 := fun_mk (st := s_is_name__X1) a2_is_name__X1 a3_is_name__X1 a4_is_name__X1
  have Fis_name := fun_mk (st := s_is_name) a2_is_name a3_is_name a4_is_name
  have Fis_whole__X1 := fun_mk (st := s_is_whole__X1) a2_is_whole__X1 a3_is_whole__X1 a4_is_whole__X1
  have Fis_whole := fun_mk (st := s_is_whole) a2_is_whole a3_is_whole a4_is_whole
  have Fis_among__X1 := fun_mk (st := s_is_among__X1) a2_is_among__X1 a3_is_among__X1 a4_is_among__X1
  have Fis_among := fun_mk (st := s_is_among) a2_is_among a3_is_among a4_is_among
  have Fis_room__X1 := fun_mk (st := s_is_room__X1) a2_is_room__X1 a3_is_room__X1 a4_is_room__X1
  have Fis_room := fun_mk (st := s_is_room) a2_is_room a3_is_room a4_is_room
  have Fis_apart := fun_mk (st := s_is_apart) a2_is_apart a3_is_apart a4_is_apart
  have FPlan_init__X1 := fun_mk (st := s_Plan_init__X1) a2_Plan_init__X1 a3_Plan_init__X1 a4_Plan_init__X1
  have FPlan_init := fun_mk (st := s_Plan_init) a2_Plan_init a3_Plan_init a4_Plan_init
  have FPlan_room_names := fun_mk (st := s_Plan_room_names) a2_Plan_room_names a3_Plan_room_names a4_Plan_room_names
  have Flw_cell_at := fun_mk (st := s_lw_cell_at) a2_lw_cell_at a3_lw_cell_at a4_lw_cell_at
  have Flw_mix := fun_mk (st := s_lw_mix) a2_lw_mix a3_lw_mix a4_lw_mix
  have Flw_names := fun_mk (st := s_lw_names) a2_lw_names a3_lw_names a4_lw_names
  have Flw_good := fun_mk (st := s_lw_good) a2_lw_good a3_lw_good a4_lw_good
  have Flw_number := fun_mk (st := s_lw_number) a2_lw_number a3_lw_number a4_lw_number
  have Flw_over := fun_mk (st := s_lw_over) a2_lw_over a3_lw_over a4_lw_over
  have Flw_bad := fun_mk (st := s_lw_bad) a2_lw_bad a3_lw_bad a4_lw_bad
  have Flw_refused := fun_mk (st := s_lw_refused) a2_lw_refused a3_lw_refused a4_lw_refused
  have Flw_taken := fun_mk (st := s_lw_taken) a2_lw_taken a3_lw_taken a4_lw_taken
  have Flw_edges := fun_mk (st := s_lw_edges) a2_lw_edges a3_lw_edges a4_lw_edges
  have Flw_sizes := fun_mk (st := s_lw_sizes) a2_lw_sizes a3_lw_sizes a4_lw_sizes
  have Flaw := fun_mk (st := s_law) a2_law a3_law a4_law
  have FNoRoom_init := fun_mk (st := s_NoRoom_init) a2_NoRoom_init a3_NoRoom_init a4_NoRoom_init
  let T : Tx K mg w := {
    cl := fun i => if i = 7 then c_Plan else if i = 0 then c_OutError else if i = 1 then c_NoName else if i = 2 then c_NoHand else if i = 3 then c_Twice else if i = 4 then c_NoSize else if i = 5 then c_NoRoom else if i = 6 then c_NoCell else 0,
    a_is_name__X1 := p_is_name__X1,
    d_is_name__X1 := _,
    f_is_name__X1 := Fis_name__X1,
    b_is_name__X1 := Fis_name__X1.binds (ps := ["thing"]) fun _ _ _ _ _ _ us hl => match us, hl with | [_], _ => rfl,
    g_is_name__X1 := PySem.W.mg_of X G a1_is_name__X1,
    a_is_name := p_is_name,
    d_is_name := _,
    f_is_name := Fis_name,
    b_is_name := Fis_name.binds (ps := ["thing"]) fun _ _ _ _ _ _ us hl => match us, hl with | [_], _ => rfl,
    g_is_name := PySem.W.mg_of X G a1_is_name,
    a_is_whole__X1 := p_is_whole__X1,
    d_is_whole__X1 := _,
    f_is_whole__X1 := Fis_whole__X1,
    b_is_whole__X1 := Fis_whole__X1.binds (ps := ["thing"]) fun _ _ _ _ _ _ us hl => match us, hl with | [_], _ => rfl,
    g_is_whole__X1 := PySem.W.mg_of X G a1_is_whole__X1,
    a_is_whole := p_is_whole,
    d_is_whole := _,
    f_is_whole := Fis_whole,
    b_is_whole := Fis_whole.binds (ps := ["thing"]) fun _ _ _ _ _ _ us hl => match us, hl with | [_], _ => rfl,
    g_is_whole := PySem.W.mg_of X G a1_is_whole,
    a_is_among__X1 := p_is_among__X1,
    d_is_among__X1 := _,
    f_is_among__X1 := Fis_among__X1,
    b_is_among__X1 := Fis_among__X1.binds (ps := ["thing", "least", "most"]) fun _ _ _ _ _ _ us hl => match us, hl with | [_, _, _], _ => rfl,
    g_is_among__X1 := PySem.W.mg_of X G a1_is_among__X1,
    a_is_among := p_is_among,
    d_is_among := _,
    f_is_among := Fis_among,
    b_is_among := Fis_among.binds (ps := ["thing", "least", "most"]) fun _ _ _ _ _ _ us hl => match us, hl with | [_, _, _], _ => rfl,
    g_is_among := PySem.W.mg_of X G a1_is_among,
    a_is_room__X1 := p_is_room__X1,
    d_is_room__X1 := _,
    f_is_room__X1 := Fis_room__X1,
    b_is_room__X1 := Fis_room__X1.binds (ps := ["thing", "high", "wide"]) fun _ _ _ _ _ _ us hl => match us, hl with | [_, _, _], _ => rfl,
    g_is_room__X1 := PySem.W.mg_of X G a1_is_room__X1,
    a_is_room := p_is_room,
    d_is_room := _,
    f_is_room := Fis_room,
    b_is_room := Fis_room.binds (ps := ["thing", "high", "wide"]) fun _ _ _ _ _ _ us hl => match us, hl with | [_, _, _], _ => rfl,
    g_is_room := PySem.W.mg_of X G a1_is_room,
    a_is_apart := p_is_apart,
    d_is_apart := _,
    f_is_apart := Fis_apart,
    b_is_apart := Fis_apart.binds (ps := ["one", "other"]) fun _ _ _ _ _ _ us hl => match us, hl with | [_, _], _ => rfl,
    g_is_apart := PySem.W.mg_of X G a1_is_apart,
    a_Plan_init__X1 := p_Plan_init__X1,
    d_Plan_init__X1 := _,
    f_Plan_init__X1 := FPlan_init__X1,
    b_Plan_init__X1 := FPlan_init__X1.binds (ps := ["self", "high", "wide", "rooms"]) fun _ _ _ _ _ _ us hl => match us, hl with | [_, _, _, _], _ => rfl,
    a_Plan_init := p_Plan_init,
    d_Plan_init := _,
    f_Plan_init := FPlan_init,
    b_Plan_init := FPlan_init.binds (ps := ["self", "high", "wide", "rooms"]) fun _ _ _ _ _ _ us hl => match us, hl with | [_, _, _, _], _ => rfl,
    a_Plan_room_names := p_Plan_room_names,
    d_Plan_room_names := _,
    f_Plan_room_names := FPlan_room_names,
    b_Plan_room_names := FPlan_room_names.binds (ps := ["self"]) fun _ _ _ _ _ _ us hl => match us, hl with | [_], _ => rfl,
    a_lw_cell_at := p_lw_cell_at,
    d_lw_cell_at := _,
    f_lw_cell_at := Flw_cell_at,
    b_lw_cell_at := Flw_cell_at.binds (ps := ["_law_script", "_law_k"]) fun _ _ _ _ _ _ us hl => match us, hl with | [_, _], _ => rfl,
    g_lw_cell_at := PySem.W.mg_of X G a1_lw_cell_at,
    a_lw_mix := p_lw_mix,
    d_lw_mix := _,
    f_lw_mix := Flw_mix,
    b_lw_mix := Flw_mix.binds (ps := ["_law_cell", "_law_k"]) fun _ _ _ _ _ _ us hl => match us, hl with | [_, _], _ => rfl,
    g_lw_mix := PySem.W.mg_of X G a1_lw_mix,
    a_lw_names := p_lw_names,
    d_lw_names := _,
    f_lw_names := Flw_names,
    b_lw_names := Flw_names.binds (ps := ["_law_cell", "_law_many"]) fun _ _ _ _ _ _ us hl => match us, hl with | [_, _], _ => rfl,
    g_lw_names := PySem.W.mg_of X G a1_lw_names,
    a_lw_good := p_lw_good,
    d_lw_good := _,
    f_lw_good := Flw_good,
    b_lw_good := Flw_good.binds (ps := ["_law_script", "_law_many"]) fun _ _ _ _ _ _ us hl => match us, hl with | [_, _], _ => rfl,
    g_lw_good := PySem.W.mg_of X G a1_lw_good,
    a_lw_number := p_lw_number,
    d_lw_number := _,
    f_lw_number := Flw_number,
    b_lw_number := Flw_number.binds (ps := ["_law_cell", "_law_room", "_law_high", "_law_wide"]) fun _ _ _ _ _ _ us hl => match us, hl with | [_, _, _, _], _ => rfl,
    g_lw_number := PySem.W.mg_of X G a1_lw_number,
    a_lw_over := p_lw_over,
    d_lw_over := _,
    f_lw_over := Flw_over,
    b_lw_over := Flw_over.binds (ps := ["_law_cell", "_law_room", "_law_other", "_law_high", "_law_wide"]) fun _ _ _ _ _ _ us hl => match us, hl with | [_, _, _, _, _], _ => rfl,
    g_lw_over := PySem.W.mg_of X G a1_lw_over,
    a_lw_bad := p_lw_bad,
    d_lw_bad := _,
    f_lw_bad := Flw_bad,
    b_lw_bad := Flw_bad.binds (ps := ["_law_cell", "_law_room", "_law_ahead", "_law_high", "_law_wide"]) fun _ _ _ _ _ _ us hl => match us, hl with | [_, _, _, _, _], _ => rfl,
    g_lw_bad := PySem.W.mg_of X G a1_lw_bad,
    a_lw_refused := p_lw_refused,
    d_lw_refused := _,
    f_lw_refused := Flw_refused,
    b_lw_refused := Flw_refused.binds (ps := ["_law_high", "_law_wide", "_law_rooms", "_law_due"]) fun _ _ _ _ _ _ us hl => match us, hl with | [_, _, _, _], _ => rfl,
    g_lw_refused := PySem.W.mg_of X G a1_lw_refused,
    a_lw_taken := p_lw_taken,
    d_lw_taken := _,
    f_lw_taken := Flw_taken,
    b_lw_taken := Flw_taken.binds (ps := ["_law_high", "_law_wide", "_law_rooms"]) fun _ _ _ _ _ _ us hl => match us, hl with | [_, _, _], _ => rfl,
    g_lw_taken := PySem.W.mg_of X G a1_lw_taken,
    a_lw_edges := p_lw_edges,
    d_lw_edges := _,
    f_lw_edges := Flw_edges,
    b_lw_edges := Flw_edges.binds (ps := ["_law_high", "_law_wide", "_law_room"]) fun _ _ _ _ _ _ us hl => match us, hl with | [_, _, _], _ => rfl,
    g_lw_edges := PySem.W.mg_of X G a1_lw_edges,
    a_lw_sizes := p_lw_sizes,
    d_lw_sizes := _,
    f_lw_sizes := Flw_sizes,
    b_lw_sizes := Flw_sizes.binds (ps := ["_law_script", "_law_high", "_law_wide", "_law_rooms"]) fun _ _ _ _ _ _ us hl => match us, hl with | [_, _, _, _], _ => rfl,
    g_lw_sizes := PySem.W.mg_of X G a1_lw_sizes,
    a_law := fa,
    d_law := _,
    f_law := Flaw,
    b_law := Flaw.binds (ps := ["_law_script"]) fun _ _ _ _ _ _ us hl => match us, hl with | [_], _ => rfl,
    g_law := PySem.W.mg_of X G a1_law,
    z_ValueError := PySem.W.mg_none_of X G z_ValueError,
    z_all := PySem.W.mg_none_of X G z_all,
    z_bool := PySem.W.mg_none_of X G z_bool,
    z_enumerate := PySem.W.mg_none_of X G z_enumerate,
    z_int := PySem.W.mg_none_of X G z_int,
    z_isinstance := PySem.W.mg_none_of X G z_isinstance,
    z_len := PySem.W.mg_none_of X G z_len,
    z_list := PySem.W.mg_none_of X G z_list,
    z_max := PySem.W.mg_none_of X G z_max,
    z_range := PySem.W.mg_none_of X G z_range,
    z_str := PySem.W.mg_none_of X G z_str,
    z_tuple := PySem.W.mg_none_of X G z_tuple,
    k_HIGHEST := ⟨_, PySem.W.mg_of X G k_HIGHEST, _, by rfl⟩,
    k_LETTERS := ⟨_, PySem.W.mg_of X G k_LETTERS, _, by rfl⟩,
    k_LONGEST := ⟨_, PySem.W.mg_of X G k_LONGEST, _, by rfl⟩,
    k_MOST_ROOMS := ⟨_, PySem.W.mg_of X G k_MOST_ROOMS, _, by rfl⟩,
    k_NARROWEST := ⟨_, PySem.W.mg_of X G k_NARROWEST, _, by rfl⟩,
    k_WAYS := ⟨_, _, _, _, PySem.W.mg_of X G k1_WAYS, k2_WAYS, rfl, rfl, k5_WAYS, k6_WAYS⟩,
    k_WIDEST := ⟨_, PySem.W.mg_of X G k_WIDEST, _, by rfl⟩,
    cls_Plan := ⟨pg_Plan, hd_Plan, po_Plan, sa_Plan⟩,
    gc_Plan := PySem.W.mg_of X G gc_Plan,
    xp_NoSize := xp_NoSize,
    xq_NoSize := xq_NoSize,
    xb_NoSize := x4_NoSize,
    xt_NoSize := xt_NoSize,
    na_Plan_high := na_Plan_high,
    na_Plan_wide := na_Plan_wide,
    na_Plan_rooms := na_Plan_rooms,
    xm_NoSize := fun n fs h => by
      simp only [xL_NoSize, List.mem_cons, List.not_mem_nil, or_false, Prod.mk.injEq] at h
      rcases h with ⟨rfl, _⟩
      · exact PySem.W.exm_ref xm1_NoSize xm2_NoSize xm3_NoSize xs_NoSize__NoSize,
    xz_NoSize := fun n fs h => by
      simp only [xN_NoSize, List.mem_cons, List.not_mem_nil, or_false, Prod.mk.injEq] at h
      rcases h with ⟨rfl, _⟩
      · exact PySem.W.exm_ref xm1_NoSize xm2_NoSize xm3_NoSize xs_NoRoom__NoSize,
    xm_NoRoom := fun n fs h => by
      simp only [xL_NoRoom, List.mem_cons, List.not_mem_nil, or_false, Prod.mk.injEq] at h
      rcases h with ⟨rfl, _⟩
      · exact PySem.W.exm_ref xm1_NoRoom xm2_NoRoom xm3_NoRoom xs_NoRoom__NoRoom,
    xz_NoRoom := fun n fs h => by
      simp only [xN_NoRoom, List.mem_cons, List.not_mem_nil, or_false, Prod.mk.injEq] at h
      rcases h with ⟨rfl, _⟩
      · exact PySem.W.exm_ref xm1_NoRoom xm2_NoRoom xm3_NoRoom xs_NoSize__NoRoom,
    mk_Plan__X1 := ⟨mi_Plan__X1, a1_Plan_init__X1, a5_Plan_init__X1, kc_Plan__X1⟩,
    me_Plan_room_names := ⟨a1_Plan_room_names, a5_Plan_room_names, a4_Plan_room_names⟩,
    mk_Plan := ⟨mi_Plan, a1_Plan_init, a5_Plan_init, kc_Plan⟩,
    gc_OutError := PySem.W.mg_of X G gc_OutError,
    gc_NoName := PySem.W.mg_of X G gc_NoName,
    gc_NoHand := PySem.W.mg_of X G gc_NoHand,
    gc_Twice := PySem.W.mg_of X G gc_Twice,
    gc_NoSize := PySem.W.mg_of X G gc_NoSize,
    gc_NoRoom := PySem.W.mg_of X G gc_NoRoom,
    gc_NoCell := PySem.W.mg_of X G gc_NoCell,
    a_NoRoom_init := p_NoRoom_init,
    d_NoRoom_init := _,
    f_NoRoom_init := FNoRoom_init,
    b_NoRoom_init := FNoRoom_init.binds (ps := ["self", "at"]) fun _ _ _ _ _ _ us hl => match us, hl with | [_, _], _ => rfl,
    xo_NoRoom := ⟨⟨_, _, _, _, _, _, _, _, _, _, _, _, _, _, _, xl_NoRoom, (show PySem.HandSPX.refsVE [.type "ValueError", .type "Exception", .type "BaseException", .type "object"] = true by decide +kernel)⟩, xw_NoRoom, x4_NoRoom, xt_NoRoom, xq_NoRoom⟩,
    xic_NoRoom := a1_NoRoom_init,
    xit_NoRoom := a5_NoRoom_init,
    xn_NoRoom := xn_NoRoom,
    rd_OutError := rd_OutError,
    ga_OutError := ga_OutError,
    bi_OutError := bi_OutError,
    xf_at := fun n fs h => by
      simp only [xL, List.mem_cons, List.not_mem_nil, or_false, Prod.mk.injEq] at h
      rcases h with ⟨rfl, _⟩ | ⟨rfl, _⟩
      · exact xf_at__NoSize
      · exact xf_at__NoRoom,
    xc := fun n fs h => by
      simp only [xL, List.mem_cons, List.not_mem_nil, or_false, Prod.mk.injEq] at h
      rcases h with ⟨rfl, _⟩ | ⟨rfl, _⟩
      · exact ⟨x1_NoSize, x2_NoSize, x3_NoSize, x4_NoSize, x5_NoSize, x6_NoSize, x7_NoSize, x8_NoSize, x9_NoSize⟩
      · exact ⟨x1_NoRoom, x2_NoRoom, x3_NoRoom, x4_NoRoom, x5_NoRoom, x6_NoRoom, x7_NoRoom, x8_NoRoom, x9_NoRoom⟩,
    xv := fun n fs h => by
      simp only [xL, List.mem_cons, List.not_mem_nil, or_false, Prod.mk.injEq] at h
      rcases h with ⟨rfl, _⟩ | ⟨rfl, _⟩
      · exact ik_v_NoSize
      · exact ik_v_NoRoom,
    xk := fun n fs k h hk => by
      simp only [xL, List.mem_cons, List.not_mem_nil, or_false, Prod.mk.injEq] at h
      simp only [kL, List.mem_cons, List.not_mem_nil, or_false] at hk
      rcases h with ⟨rfl, _⟩ | ⟨rfl, _⟩
      · rcases hk with rfl | rfl | rfl | rfl | rfl | rfl
        · exact ik_NoSize__OutError
        · exact ik_NoSize__NoName
        · exact ik_NoSize__NoHand
        · exact ik_NoSize__Twice
        · exact ik_NoSize__NoRoom
        · exact ik_NoSize__NoCell
      · rcases hk with rfl | rfl | rfl | rfl | rfl | rfl
        · exact ik_NoRoom__OutError
        · exact ik_NoRoom__NoName
        · exact ik_NoRoom__NoHand
        · exact ik_NoRoom__Twice
        · exact ik_NoRoom__NoRoom
        · exact ik_NoRoom__NoCell }
  exact ⟨PySem.W.fnOf "law" "law" (defArgs s_law) (defBody s_law) (defScope s_law) .none kV_law dc_law pm_law an_law cd_law ct_law, fun s v => .of_eq rfl, fun base _ _ => law_ok (ok_law T) LT⟩
end LW
namespace PySem.W.Fast
def tw3231896347882285527:=0
def tw12704117370320940837:=0
def tw6549778791944193902:=0
def tw14287269881091083683:=0
def tw7008132788043495979:=0
def tw3656267798915838888:=0
def tw10942845281804559143:=0
def tw13226219841312298060:=0
def tw7495516281916527401:=0
def tw3084596946838839386:=0
def tw3891155581299942322:=0
def tw10137306320164872106:=0
def tw16211078885302681971:=0
def tw15001221627967858086:=0
def tw16786991328857451227:=0
def tw7719264321553806381:=0
def tw6502520907355964258:=0
def tw1483546345824410327:=0
def tw15687599189357372019:=0
def tw4004210318826251298:=0
def tw17611204839348470751:=0
def tw8232199364198587686:=0
def tw18242301110560695267:=0
def tw10237429219016531521:=0
def tw11059330873848135660:=0
def tw6672117794352585677:=0
def tw15252965908256002789:=0
def tw9892465547427568725:=0
def tw2420515652707096495:=0
def tw4730119163734039819:=0
def tw15134368119689240534:=0
def tw16969267920522011547:=0
def tw18241268787083344069:=0
def tw59612336827175836:=0
def tw6770544782298320866:=0
def tw15493419359496489796:=0
def tw17607171496829546354:=0
def tw7211243874861225133:=0
def tw13320000447722152717:=0
def tw7701963329110035934:=0
def tw993386665759354659:=0
def tw16392338946557141685:=0
def tw15614831433739278075:=0
def tw3834244806811705696:=0
def tw12816069462316118325:=0
def tw4983700080036191284:=0
def tw15750913041211411760:=0
def tw14275258283697471319:=0
def tw15673074354530186777:=0
def tw12563390360417564431:=0
def tw9152190443116353811:=0
def tw4998080617220407717:=0
def tw7618494558704186144:=0
def tw3342155379504822624:=0
def tw7696447666751627609:=0
def tw2646650079979392040:=0
def tw12121977652561695921:=0
def tw3888142858222884665:=0
def tw3538162282103943774:=0
def tw11035116460469913363:=0
def tw16081488280819800462:=0
def tw17068721053133478554:=0
def tw6773571167333234608:=0
def tw10579225721969867927:=0
def tw12886443577815729837:=0
def tw8423124349520452958:=0
def tw2742031897938130711:=0
def tw14666595972116083478:=0
def tw2979584212470124715:=0
def tw943029599243301060:=0
def tw17118589316276492731:=0
def tw2882725294288307527:=0
def tw10761646573733913469:=0
def tw787184232735663396:=0
def tw11648528521086807606:=0
def tw14042257444925382751:=0
def tw8074145177688385563:=0
def tw13748654796984785200:=0
def tw5981424955742805981:=0
def tw300408166001179499:=0
def tw16875397348237108165:=0
def tw14632962702831682922:=0
def tw8764134819240980024:=0
def tw6322972988788115795:=0
def tw14577012937398337325:=0
def tw18084618264985102019:=0
def tw13966891471094957069:=0
def tw6115523138225384568:=0
def tw16668150425599952087:=0
def tw1705174719281094030:=0
def tw13477832621739799089:=0
def tw5224711849250240801:=0
def tw14701071974120645881:=0
def tw11648214614967484640:=0
def tw15232911879806080222:=0
def tw14198964129991157462:=0
def tw10270691022969489797:=0
def tw912532399591620753:=0
def tw16567365740122612635:=0
def tw8983715704675772521:=0
def tw11993098134553611311:=0
def tw10960125581769356246:=0
def tw4136254586889287570:=0
def tw13068913246857096075:=0
def tw10232481302199979552:=0
def tw15019799914828973153:=0
def tw12018479285757779997:=0
def tw13069178918565469600:=0
def tw10869738802193536613:=0
def tw8094711723474816404:=0
def tw10499468853615037935:=0
def tw5139301984093365982:=0
def tw1005939172347754999:=0
def tw16005294650285660550:=0
def tw12434338099419708122:=0
def tw4193329454328009014:=0
def tw6192223966120790886:=0
def tw1138509002091910975:=0
def tw8593304716721709689:=0
def tw10963560186205542020:=0
def tw2854756913094223163:=0
def tw15937428750624055387:=0
def tw928811702229951357:=0
def tw13038241905374251557:=0
def tw6762000830950282892:=0
def tw2302688860435634186:=0
def tw16899798787669226611:=0
def tw14780351823835280420:=0
def tw9535863005799327648:=0
def tw10393008063820759561:=0
def tw9484177605476842079:=0
def tw6518290718385873144:=0
def tw9485815239996711250:=0
def tw17911712248420345385:=0
def tw13482920745417980924:=0
def tw7574495871259755407:=0
def tw13035562230761983362:=0
def tw7937075191930119825:=0
def tw2528563870577417723:=0
def tw5880468117402660871:=0
def tw17553298926483426414:=0
def tw3931212782856265302:=0
def tw17040422729019648158:=0
def tw14527073822589900424:=0
def tw17821319141109370892:=0
def tw15824202015915744641:=0
def tw2105774960250699751:=0
def tw11508320758748692029:=0
def tw1336200856866922165:=0
def tw7872258850348006056:=0
def tw3534859527772770247:=0
def tw16103362706284127920:=0
def tw3244254985368405568:=0
def tw1239858405230823006:=0
def tw16139047556502863193:=0
def tw5020093961505906001:=0
def tw6574359362369841784:=0
def tw13130537278960885227:=0
def tw15816703567888134724:=0
def tw4387095674497636050:=0
def tw15200442227814472817:=0
def tw11054015160408493685:=0
def tw16409622166904199882:=0
def tw749478426636801916:=0
def tw2327487408533152784:=0
def tw14612451873078007083:=0
def tw13322476916971077944:=0
def tw7184512079966415387:=0
def tw11947769507218815877:=0
def tw12224963461604017052:=0
def tw18176133194196971435:=0
def tw4213588917810394426:=0
def tw14454708713047578897:=0
def tw7721936299027539449:=0
def tw10064366974167054557:=0
def tw15587633342977079096:=0
def tw17147429600885765679:=0
def tw405244105023809331:=0
def tw6885552018284628357:=0
def tw10933145309845763881:=0
def tw14141950048804414061:=0
def tw376943933224195037:=0
def tw17446663827211789537:=0
def tw7380574591728849230:=0
def tw4925247965175699362:=0
def tw4937893562170886467:=0
def tw6179368786499230640:=0
def tw11072576736771142785:=0
def tw1335046133416188149:=0
def tw4122601604672553436:=0
def tw10998556114329835843:=0
def tw8417044313653013144:=0
def tw15417585015103212585:=0
def tw16137072790957639791:=0
def tw16521900010721486148:=0
def tw8919267176203918021:=0
def tw7768026334495586369:=0
def tw8504898088309789648:=0
def tw15908528624792875530:=0
def tw15045184001137186685:=0
def tw9513599308444351519:=0
def tw15532846450275060407:=0
def tw4654699099330750335:=0
def tw7134487476005578783:=0
def tw5404402499180701100:=0
def tw16092634442976703326:=0
def tw14370461917333810824:=0
def tw9222022692482317575:=0
def tw11599081830739029661:=0
def tw1270104664624988214:=0
def tw17786867587158598916:=0
def tw2788219122137201212:=0
def tw4488714627248948189:=0
def tw15644078113463526918:=0
def tw10201547854198504254:=0
def tw17774452024335747214:=0
def tw18384840074972686353:=0
def tw8423333380420077572:=0
def tw16525736707692449340:=0
def tw8239196419039891422:=0
def tw9842038792791170634:=0
def tw16112682276809604976:=0
def tw2343401798028520159:=0
def tw17565335833754269376:=0
def tw7819424600504475515:=0
def tw10846334346447232507:=0
def tw12959590775166583551:=0
def tw13827296202147348928:=0
def tw14728598773951944614:=0
def tw13319346206212752058:=0
def tw4371098489625640012:=0
def tw10851744800837009272:=0
def tw10975872069239031351:=0
def tw16855436880698645933:=0
def tw16031621459092114061:=0
def tw8861331252954725395:=0
def tw12131401371911739061:=0
def tw7589743780933328377:=0
def tw4891383729521090322:=0
def tw6608754456046735189:=0
def tw5873143206558429868:=0
def tw17574172071720516644:=0
def tw492593948113057208:=0
def tw4792076919417227221:=0
def tw7912936049077541772:=0
def tw9469282496299901260:=0
def tw18262253413237303560:=0
def tw11226054984501164596:=0
def tw13370688697894717034:=0
def tw13326142508691618844:=0
def tw17675004057995571854:=0
def tw2863071528765286761:=0
def tw12016756461473242203:=0
def tw18041759835437725767:=0
def tw253627854309055468:=0
def tw11544597121493405632:=0
def tw12576501564793009944:=0
def tw12557050186610079001:=0
def tw13132308632794391658:=0
def tw16374980016489451308:=0
def tw17467887504503829700:=0
def tw13977049925193278669:=0
def tw12141257862693605974:=0
def tw14149278672737339558:=0
def tw15776279998577480637:=0
def tw8243745973304473172:=0
def tw3925744558176304102:=0
def tw15261164449894206845:=0
def tw17008064471726533554:=0
def tw720636686331242638:=0
def tw7040447414032043745:=0
def tw17443987186778195047:=0
def tw11685713458434305637:=0
def tw6765382959332893709:=0
def tw12010089842807063760:=0
def tw15008858245344654434:=0
def tw1049435718101174336:=0
def tw17681044231664882139:=0
def tw12883595292611928363:=0
def tw2052065715185785861:=0
def tw8985509779608036587:=0
def tw17749581287009165442:=0
def tw3501248585585104070:=0
def tw14309594484645156952:=0
def tw2200100875646542995:=0
def tw14419204792528048715:=0
def tw2003441943668952250:=0
def tw6889484050142107389:=0
def tw13985200311480482345:=0
def tw9802633861980550023:=0
def tw10051777257519303067:=0
def tw2241471454461901052:=0
def tw13276612800271375732:=0
def tw11964689998357998281:=0
def tw17440053833583055140:=0
def tw16998039481282240822:=0
def tw8319737159438861323:=0
def tw18004337523051938399:=0
def tw14015571868409720190:=0
def tw3327837982773108534:=0
def tw2667046352407503635:=0
def tw2956584620251443090:=0
def tw16299339734628260685:=0
def tw10752886728305204055:=0
def tw10870654358609043582:=0
def tw262375170676440784:=0
def tw15899782400168262459:=0
def tw8565154441776049223:=0
def tw5367027217046055528:=0
def tw1769399260587402582:=0
def tw13079684017679792549:=0
def tw2086436968308747973:=0
def tw7995404895052223819:=0
def tw12765850789022260672:=0
def tw595337490876898173:=0
def tw13627838288571592865:=0
def tw11278064827680183579:=0
def tw2923380183997597885:=0
def tw14206444422831673574:=0
def tw10908879943326738580:=0
def tw10926088890700001204:=0
def tw17027753381530700227:=0
def tw17371205663157944710:=0
def tw95412012235420874:=0
def tw16259173826222872795:=0
def tw8162299244190312181:=0
def tw6903127515719164629:=0
def tw2998404451756877367:=0
def tw765129840084407909:=0
def tw13424825004781185112:=0
def tw17996049566279622215:=0
def tw7581311526917413074:=0
def tw7182883657142268774:=0
def tw10390020510013690682:=0
def tw4683897864066095104:=0
def tw12221647048490031803:=0
def tw10578652375347492012:=0
def tw594859813618454740:=0
def tw2385850531425243265:=0
def tw3049113419195285095:=0
def tw160882498324369967:=0
def tw6634232066123842032:=0
def tw325401113160551810:=0
def tw16302718235062275811:=0
def tw10218569604334824904:=0
def tw4061713144041142600:=0
def tw6498935429036420503:=0
def tw298139418756519992:=0
def tw6290098469751389618:=0
def tw2418075653555681003:=0
def tw13429239392272329372:=0
def tw331754091694939015:=0
def tw3191768125185882831:=0
def tw18190547277758504751:=0
def tw14646521969419983971:=0
def tw7072775855113086836:=0
def tw18306555109380548138:=0
def tw2198168419613962142:=0
def tw13984827675436268779:=0
def tw15220647709031333455:=0
def tw11410707250129338371:=0
def tw13533266560356376995:=0
def tw6270469404845220250:=0
def tw7203803576066912382:=0
def tw15243418723897530506:=0
def tw4557808944508786568:=0
def tw379799886925253414:=0
def tw13339870366384473683:=0
def tw7768673013725339388:=0
def tw15392521528743909617:=0
def tw15299739530942454908:=0
def tw7778720240909126885:=0
def tw8384205011483985258:=0
def tw5666567596912980758:=0
def tw5396944936684239408:=0
def tw10018314042780440379:=0
def tw973560638189775302:=0
def tw3948614205861001459:=0
def tw4908302068218980680:=0
def tw794109119280856067:=0
def tw5485412430099407794:=0
def tw969929320178138659:=0
def tw4005804728335937624:=0
def tw6974238058327252761:=0
def tw6328239231526304702:=0
def tw7776402952155473867:=0
def tw7186485277635213508:=0
def tw483103707658055962:=0
def tw9342126555886776638:=0
def tw4539537880304538634:=0
def tw1693217528390076906:=0
def tw12841662775342640371:=0
def tw14505674908002589345:=0
def tw8240855922756242244:=0
def tw13655339054813313875:=0
def tw17092696302412614104:=0
def tw11862773590284916905:=0
def tw15483089204001380956:=0
def tw16010738673853730522:=0
def tw1074466547401599762:=0
def tw3380880117575726044:=0
def tw7506163669032509290:=0
def tw8289227762942958267:=0
def tw14706975344758891467:=0
def tw14558252343319946606:=0
def tw10600893306972806697:=0
def tw7406424733743881184:=0
def tw16382827038774006691:=0
def tw5558003974614456390:=0
def tw8506062990065400420:=0
def tw10061901624061473819:=0
def tw3970167574668396841:=0
def tw6229958239074589893:=0
def tw16670231368944089773:=0
def tw6957458006482626880:=0
def tw3061541678883117872:=0
def tw13685128283150877815:=0
def tw14718119502134518473:=0
def tw13056783155632162347:=0
def tw6419445528365677169:=0
def tw5365407407527496673:=0
def tw1875887980931148840:=0
def tw2576345564533005973:=0
def tw5262766860576925778:=0
def tw12761260718868346084:=0
def tw493228727514078381:=0
def tw3718880599118214175:=0
def tw4679678601919623710:=0
def tw15019312748838994804:=0
def tw7222414379003782475:=0
def tw11351910761393111269:=0
def tw14879256033287504414:=0
def tw4054193506344223073:=0
def tw6860668368603950794:=0
def tw14308812997041144790:=0
def tw12236852835974877024:=0
def tw596899369633688421:=0
def tw14028691032991382618:=0
def tw13981863889472625363:=0
def tw3334524942418929987:=0
def tw17700647840667069129:=0
def tw13870112401634432755:=0
def tw14018724760916316153:=0
def tw10661756074151994569:=0
def tw8723012437797724254:=0
def tw6502795943840704555:=0
def tw570910372939420131:=0
def tw1950217733899079613:=0
def tw2232983570022300868:=0
def tw11089472735323049328:=0
def tw18188009617895027601:=0
def tw11305972833438216976:=0
def tw9823137824047899120:=0
def tw115058711240055882:=0
def tw13056916482193446448:=0
def tw4373762638018346486:=0
def tw8123979173762159942:=0
def tw14192574256328043543:=0
def tw65964857925825605:=0
def tw6008302292145286130:=0
def tw67681330071081908:=0
def tw16931680320899481497:=0
def tw16529309186109823539:=0
def tw16710700583100280957:=0
def tw16472766144075104994:=0
def tw7973991529558607825:=0
def tw8016442237485943039:=0
def tw14466305860407004254:=0
def tw12385682186315030510:=0
def tw10170550519439400874:=0
def tw4049538421965001547:=0
def tw7056887287816476642:=0
def tw14817339168882488471:=0
def tw13507538897026472151:=0
def tw9404899219871033525:=0
def tw13512275238621481622:=0
def tw7721660862893817024:=0
def tw2753904743724475856:=0
def tw16302884262615299487:=0
def tw3473335678844131033:=0
def tw2652873041951815815:=0
def tw2903564824662745184:=0
def tw11518654045817967893:=0
def tw4479342824977658196:=0
def tw2813069075776184295:=0
def tw3044975187291521051:=0
def tw18438230744872731129:=0
def tw9667126720337526638:=0
def tw5227524563494045903:=0
def tw18128063710302539625:=0
def tw13677507788464006314:=0
def tw15843405912419630339:=0
def tw11704117941307360583:=0
def tw11178193745365886331:=0
def tw16828329584309327362:=0
def tw2309165417104089834:=0
def tw8929715683094916121:=0
def tw5377565668785559348:=0
def tw6074005441230409074:=0
def tw4554789194792113667:=0
def tw13159768777427711989:=0
def tw4971983589368330027:=0
def tw6761501247005272671:=0
def tw274491658649567582:=0
def tw1717840894514613207:=0
def tw12068999556755699478:=0
def tw13979229855774922624:=0
def tw6744054543176408129:=0
def tw1397019760790036282:=0
def tw905174726113524243:=0
def tw8541358671932674096:=0
def tw16866785998107036441:=0
def tw3280692282618917030:=0
def tw2351575648384594121:=0
def tw11032890929365758718:=0
def tw9300387452751634486:=0
def tw18389150831038761590:=0
def tw13341307141910664468:=0
def tw7542417087411645746:=0
def tw1324213175545946985:=0
def tw14010962771995065770:=0
def tw6246548237701492777:=0
def tw15240620040832241442:=0
def tw12126354803953075180:=0
def tw8364803777167824153:=0
def tw5874521496016854411:=0
def tw9695550972274201249:=0
def tw8249634274547004883:=0
def tw5070651342696771856:=0
def tw9319430748155310171:=0
def tw5233298968207450437:=0
def tw12128296212867680794:=0
def tw14478215632400075116:=0
def tw100008829809205387:=0
def tw4716196393164730028:=0
def tw1944484329169905153:=0
def tw8392374418701482770:=0
def tw1028504599268581992:=0
def tw5324976491425377801:=0
def tw15224374777564802502:=0
def tw2973865584812841704:=0
def tw3439801439282166347:=0
def tw16254227950394761675:=0
def tw16453627882467052333:=0
def tw15658083503739758694:=0
def tw7104462047950775714:=0
def tw5204771723192461634:=0
def tw16167796032473417075:=0
def tw6466562510689816202:=0
def tw6215426384858624786:=0
def tw15786577135795897123:=0
def tw2666409506285690383:=0
def tw16704987442396742684:=0
def tw13975663131235436032:=0
def tw9243768437382420721:=0
def tw3362844485941374203:=0
def tw13377163701264969472:=0
def tw5185754992628113023:=0
def tw7252047709792860092:=0
def tw2480823547413814996:=0
def tw3382470511046598650:=0
def tw3576176459019962045:=0
def tw8448000277965906195:=0
def tw466553160430839236:=0
def tw88967872938700128:=0
def tw10518082034103699449:=0
def tw8173939415262065863:=0
def tw15792576355691554906:=0
def tw12757027123380990564:=0
def tw11891200785298599896:=0
def tw591228535303676521:=0
def tw18360559155108753825:=0
def tw14168936577767760008:=0
def tw1283904390252233870:=0
def tw13760969670741005313:=0
def tw14466237058918256215:=0
def tw10389067184335513052:=0
def tw230209139197552941:=0
def tw2669510277870700476:=0
def tw17742744353520585209:=0
def tw2840004352510603624:=0
def tw14020784690072283264:=0
def tw9222473738811371325:=0
def tw3874560631218984596:=0
def tw12319985756281263547:=0
def tw16432689147714614776:=0
def tw1914410450309423844:=0
def tw6775121674365831965:=0
def tw6423816747991157619:=0
def tw16569465161456012483:=0
def tw13167323744857779717:=0
def tw12779574529443356744:=0
def tw4143048062699668532:=0
def tw15260564462484662159:=0
def tw12051809549522681251:=0
def tw2444730029717574785:=0
def tw7250012688055211610:=0
def tw15655181244022576862:=0
def tw12333183957767826438:=0
def tw17080716165920341084:=0
def tw16477143249888612989:=0
def tw13000385773871872373:=0
def tw11364196652684398419:=0
def tw16705874756703063605:=0
def tw15997476441724819865:=0
def tw8387033794488669087:=0
def tw17852369041096950190:=0
def tw6005278005017372401:=0
def tw17231915748575122363:=0
def tw15721398886205783504:=0
def tw14995346630792193987:=0
def tw17926139708163481870:=0
def tw11062132157667699804:=0
def tw7222244812034342626:=0
def tw10391011449438639014:=0
def tw8058673332371062375:=0
def tw16653799350266291518:=0
def tw16135564697474799928:=0
def tw14052654429758424909:=0
def tw17159007335668495276:=0
def tw9284968762675862296:=0
def tw1231542187003873023:=0
def tw1938137736605708233:=0
def tw14408925722780873898:=0
def tw12990183304295863210:=0
def tw15271318872691252572:=0
def tw3631836349540534005:=0
def tw17599779520766283916:=0
def tw8886917964393409656:=0
def tw1294265513077704657:=0
def tw17927709826228514395:=0
def tw5752568165749550676:=0
def tw15387730364186361612:=0
def tw330955000604005710:=0
def tw144686110956752718:=0
def tw5712797281938352092:=0
def tw5930397797723801886:=0
def tw7531930064509598671:=0
def tw5825225797162770560:=0
def tw18249519198817593811:=0
def tw13966320872168833047:=0
def tw1579585499309041139:=0
def tw14236832284481770800:=0
def tw14676075039293737927:=0
def tw6660896370996736628:=0
def tw1065051399058173471:=0
def tw17084468980103089129:=0
def tw15009434347449573920:=0
def tw2386566524351374698:=0
def tw13433421756237098073:=0
def tw7825841607189720972:=0
def tw1274464312532864464:=0
def tw8532834117838194748:=0
def tw4871380569111594967:=0
def tw2128264735271621213:=0
def tw14923879937919268880:=0
def tw4748023817116898561:=0
def tw14479757490218349451:=0
def tw16139083715529247557:=0
def tw9040138858369319164:=0
def tw2964947255194135012:=0
def tw9086021237798711842:=0
def tw8678902640517064953:=0
def tw18362397770810129728:=0
def tw18068054620650300239:=0
def tw1947364455296093404:=0
def tw18083697868865049327:=0
def tw503672199985523784:=0
def tw596095616955486289:=0
def tw3834751607959299839:=0
def tw7561337505018181722:=0
def tw7810819542270647255:=0
def tw15133734302542142794:=0
def tw383009908228686774:=0
def tw17656846599317329282:=0
def tw15713643526345740875:=0
def tw18439030390876943252:=0
def tw12195198985355680662:=0
def tw6577356025152864287:=0
def tw16066823008748924402:=0
def tw5184236125330512100:=0
def tw17687102991260666287:=0
def tw10785472573011275029:=0
def tw14067617269843675882:=0
def tw2697860655117258567:=0
def tw10062700151009008657:=0
def tw2782038902519587528:=0
def tw10324377940291028660:=0
def tw8858950532862463053:=0
def tw13363600646455970436:=0
def tw17212662240688349142:=0
def tw13603959274559826755:=0
def tw6929637349791066616:=0
def tw4100386861653936669:=0
def tw6317391921426480483:=0
def tw10540420780389951544:=0
def tw9438886032159082962:=0
def tw3665734317424187970:=0
def tw14254832412610295404:=0
def tw14124166074841017135:=0
def tw13545825319564467915:=0
def tw18419523993701981358:=0
def tw3572546002162830207:=0
def tw1562978339951552991:=0
def tw1426551687095755539:=0
def tw14947418086548655097:=0
def tw10166657249109995667:=0
def tw10517221810335714489:=0
def tw7446233216992668451:=0
def tw13283905316808228126:=0
def tw11650095420690825155:=0
def tw7302169570536250720:=0
def tw8971301078403814651:=0
def tw16435517990412033282:=0
def tw13876271235324444365:=0
def tw9983288141258163412:=0
def tw14917676610042191035:=0
def tw636488088036862243:=0
def tw12563710893461213590:=0
def tw1579877792071826869:=0
def tw2526376264403229948:=0
def tw17094249580816102916:=0
def tw11225343272151525043:=0
def tw586508991517870826:=0
def tw14466433300332429172:=0
def tw14806091456573075741:=0
def tw2859506706214418639:=0
def tw14942954049873046339:=0
def tw390457771664028393:=0
def tw16507053836527509706:=0
def tw10354151320070143621:=0
def tw3655590085020981103:=0
def tw363383284294725048:=0
def tw18066162527316933485:=0
def tw12776949326533843519:=0
def tw13433166775341648274:=0
def tw4576407549505846100:=0
def tw4150586864720590650:=0
def tw7405329605075696175:=0
def tw2395708147752818572:=0
def tw9144732913121345024:=0
def tw12001946186511510488:=0
def tw7307890686529205100:=0
def tw8265853500407114681:=0
def tw13776622901672115669:=0
def tw6290098053248329769:=0
def tw10121885562235159817:=0
def tw7981102960632857358:=0
def tw1114844774946445887:=0
def tw12772527445995645936:=0
def tw1186148359834618116:=0
def tw11185144699796628656:=0
def tw683508467621131946:=0
def tw1141725236209345704:=0
def tw9937129465787725769:=0
def tw9933094869009994129:=0
def tw5990095689635266318:=0
def tw6426363082853290931:=0
def tw18129539369331892045:=0
def tw15075875594143274656:=0
def tw7828365750641673225:=0
def tw14381676839616896246:=0
def tw432675296853101907:=0
def tw9033124723057596887:=0
def tw14555392870351490869:=0
def tw12755803361050267645:=0
def tw9132798847263030137:=0
def tw18092655547611493247:=0
def tw11920738441318708171:=0
def tw15216631467057669913:=0
def tw12849979378382151794:=0
def tw5053545365759750370:=0
def tw1363653771342718712:=0
def tw941996278459730638:=0
def tw14689451317558893671:=0
def tw17047599299778337580:=0
def tw1847537683630106061:=0
def tw5928204330783322224:=0
def tw13941670857896451871:=0
def tw11095725537852979359:=0
def tw9278443709411551435:=0
def tw17390212994438766026:=0
def tw9955478723306754427:=0
def tw9861085083601717744:=0
def tw15264853450421553292:=0
def tw170363938480779918:=0
def tw12053828927894097335:=0
def tw6897575061131222391:=0
def tw11569729729204034381:=0
def tw10577022618664834094:=0
def tw10269686707718075124:=0
def tw2471783651886805152:=0
def tw9963552157440323186:=0
def tw4401020779965374407:=0
def tw5113295350908708135:=0
def tw5845568847742276973:=0
def tw11028885771563543686:=0
def tw6722875147844475015:=0
def tw15849370283560842873:=0
def tw13881418785945311803:=0
def tw2803786249934635618:=0
def tw15107210863385940773:=0
def tw7212195625811993443:=0
def tw11616015458705727309:=0
def tw6214405826491680331:=0
def tw16501488418993770532:=0
def tw11661208955044231910:=0
def tw7358666644452748260:=0
def tw16355591534792779111:=0
def tw7781770568975494449:=0
def tw7525598019538739444:=0
def tw12498465885217739366:=0
def tw9365606696842662331:=0
def tw6787459539853890963:=0
def tw8916735280919808346:=0
def tw6657988333990059572:=0
def tw3785711450037464875:=0
def tw3695210934039738683:=0
def tw17759806317619249564:=0
def tw10457201125866881454:=0
def tw13907423019571724044:=0
def tw16772985567353247060:=0
def tw16781823852907275270:=0
def tw16183622121664676207:=0
def tw15537677741823648555:=0
def tw482175509208263988:=0
def tw134058497559611903:=0
def tw1962966928433706599:=0
def tw6498377132816321096:=0
def tw15475278179480137310:=0
def tw10890746249699496878:=0
def tw7129385689069294366:=0
def tw6909824031393961164:=0
def tw13061157280154801299:=0
def tw10521876380688368702:=0
def tw1478973779934523512:=0
def tw1391358782452358444:=0
def tw3235083675270831111:=0
def tw17914173090497962798:=0
def tw4000165604142967792:=0
def tw14158227693778614965:=0
def tw11669895778883864551:=0
def tw7560737873104915654:=0
def tw5681210031395311263:=0
def tw12773398187497433468:=0
def tw12359336647970684527:=0
def tw3098092473423581164:=0
def tw7420075093996577763:=0
def tw8109629855482620966:=0
def tw821004051888128149:=0
def tw5750515715152622231:=0
def tw6558707014915932863:=0
def tw7562461791806384010:=0
def tw7920899175129409550:=0
def tw14505670818946873336:=0
def tw1695543376199654868:=0
def tw2136718629588755460:=0
def tw14813725789313589189:=0
def tw2563275896962918387:=0
def tw15362240957007226246:=0
def tw8084904020993779852:=0
def tw18019730816802414972:=0
def tw7302126876851615211:=0
def tw11344671839672416318:=0
def tw9632053294631078420:=0
def tw11080781221360714248:=0
def tw13988730180395623636:=0
def tw6011290892274928466:=0
def tw3303010560350353037:=0
def tw5579118266221584122:=0
def tw14470529437218945456:=0
def tw1620829486149354793:=0
def tw16915923874111353378:=0
def tw18280318278238378764:=0
def tw12198478397672753878:=0
def tw7863713344755734236:=0
def tw5181674974173673106:=0
def tw3612846359202098197:=0
def tw8401972032547542130:=0
def tw1497657054905291637:=0
def tw3556188566826326112:=0
def tw15975660263948976165:=0
def tw16104893001820332322:=0
def tw11069879407034446777:=0
def tw7890138281038897843:=0
def tw2837635065050204821:=0
def tw10540560445141533229:=0
def tw16765220902559675925:=0
def tw15390322780785805246:=0
def tw16653279039735987228:=0
def tw13894785123088774214:=0
def tw5635290597433899839:=0
def tw11086600859930215764:=0
def tw10815678058557425673:=0
def tw8999952499509944433:=0
def tw148807109946317695:=0
def tw13405840386483997336:=0
def tw16628701455119001355:=0
def tw17478877015695306592:=0
def tw4412958015442269043:=0
def tw4316843965772145873:=0
def tw12933380161131618300:=0
def tw17760910951761179084:=0
def tw13958303845160434039:=0
def tw10992726279561736074:=0
def tw5790746407857192644:=0
def tw6979389744692649752:=0
def tw5050108106189078651:=0
def tw16378483956513887184:=0
def tw3602437860182172761:=0
def tw12937494352664842518:=0
def tw10165703238266944973:=0
def tw1913103402402669282:=0
def tw14980590106070016045:=0
def tw14776966361235285221:=0
def tw7461098644270095701:=0
def tw1262820823453817334:=0
def tw1457364643535497116:=0
def tw10722484434099014930:=0
def tw11998085864592639953:=0
def tw2343467703235027295:=0
def tw11838301380054892034:=0
def tw435017332086400519:=0
def tw14567954059225016078:=0
def tw16217251085773922877:=0
def tw15573707021331088537:=0
def tw2080292306552504220:=0
def tw6694393146414507904:=0
def tw959923163684125655:=0
def tw17763404626234812234:=0
def tw16459840480123039064:=0
def tw7017969760508466305:=0
def tw2050417485757020463:=0
def tw8211278222005095690:=0
def tw12361950860620715407:=0
def tw7671024095747313546:=0
def tw415782605539777433:=0
def tw2195522464106904378:=0
def tw14973183838233652641:=0
def tw1746363806630735650:=0
def tw11202103859957784036:=0
def tw4722581520033989829:=0
def tw17856008804534604084:=0
def tw8766475699648066079:=0
def tw901433965739664208:=0
def tw10003398703161505123:=0
def tw13432101518617906806:=0
def tw892003750527690791:=0
def tw7676517047513745861:=0
def tw7276636553241958066:=0
def tw800017510917852894:=0
def tw1968168275730521461:=0
def tw6328864335082480938:=0
def tw17355693936239284360:=0
def tw5353566691561215970:=0
def tw497578530529491773:=0
def tw13680263005977476089:=0
def tw1438680649875681474:=0
def tw15353196932818409297:=0
def tw15149414414011339199:=0
def tw8904029870284710621:=0
def tw10831569589471128550:=0
def tw328563726149620792:=0
def tw18407997382897326328:=0
def tw6852614294155893958:=0
def tw2816021565180923737:=0
def tw12452262146278195688:=0
def tw137383500092858788:=0
def tw18230984097761183315:=0
def tw5780349330449895425:=0
def tw11762642002248750659:=0
def tw11943095484394669665:=0
def tw983820133270544594:=0
def tw13159987287762577225:=0
def tw10713352359451827374:=0
def tw1531567933615320929:=0
def tw12148122995291026277:=0
def tw15630948961518879292:=0
def tw16947464968766860317:=0
def tw13548984617287206038:=0
def tw4220449099074540822:=0
def tw8268595397929506277:=0
def tw8487483877349055050:=0
def tw6501287497515952823:=0
def tw12487408104863113821:=0
def tw796682715189686205:=0
def tw1463635700447375054:=0
def tw13487359778207777564:=0
def tw8979388565316875669:=0
def tw15109043454363044617:=0
def tw15300809642897104984:=0
def tw13469772009487374144:=0
def tw11977382410819176167:=0
def tw1413674719771189871:=0
def tw7274449748510704400:=0
def tw3994868695413169101:=0
def tw8225878150060317022:=0
def tw16059535319068680987:=0
def tw17357254104891175524:=0
def tw15791621948981712736:=0
def tw18337789010038239344:=0
def tw15691738740158701718:=0
def tw15965742914633874790:=0
def tw11489770869763198205:=0
def tw8136528321718734722:=0
def tw9940353555412032066:=0
def tw10020278051398505686:=0
def tw1274277390587458471:=0
def tw4084606328597946803:=0
def tw14754593136592379241:=0
def tw10254255378134172:=0
def tw10172373613919726830:=0
def tw2000394753950793948:=0
def tw12853177521518539544:=0
def tw1861272212482166217:=0
def tw17721416403355920062:=0
def tw1944183356329371831:=0
def tw1931337872390826771:=0
def tw1891361908123145722:=0
def tw3692830469527664042:=0
def tw3433268640761824728:=0
def tw9074724428520494547:=0
def tw3312878291801261191:=0
def tw1263457991455123936:=0
def tw8776400403355609507:=0
def tw8102570767593933046:=0
def tw8413286511000636953:=0
def tw5462327821333892823:=0
def tw8315018034348620945:=0
def tw7143544352506005938:=0
def tw3352073695277915898:=0
def tw8041794364856479543:=0
def tw3913006592306611412:=0
def tw14987576186832447427:=0
def tw6947636545787888776:=0
def tw6045428176650480173:=0
def tw15212133040416610169:=0
def tw5723391587918444904:=0
def tw390205584505260507:=0
def tw18388756664593773602:=0
def tw11820243805283782643:=0
def tw14927501392921280584:=0
def tw15501009453784409448:=0
def tw1285781604423662482:=0
def tw9358422014937128676:=0
def tw10496873227129170026:=0
def tw8414436012886751379:=0
def tw1050385921028744285:=0
def tw9941863150584103256:=0
def tw1345393790761488012:=0
def tw16813550885810865368:=0
def tw5552551464418753630:=0
def tw9405252472201444416:=0
def tw17891379881679407864:=0
def tw8554691581084250164:=0
def tw10991254762018425110:=0
def tw345199576373548550:=0
def tw8941365410469413212:=0
def tw1619254755262253236:=0
def tw11039803126322916986:=0
def tw4302879634841617719:=0
def tw490011925562682218:=0
def tw12778374833161346509:=0
def tw7447429880395308275:=0
def tw5350691593073654994:=0
def tw4788039650739818587:=0
def tw18274364175192775999:=0
def tw12863840125772233569:=0
def tw2150612189130808461:=0
def tw16003896509754150093:=0
def tw366673454026263746:=0
def tw16655103938175494682:=0
def tw9181177485230359050:=0
def tw13356159331178483997:=0
def tw5083467156352960908:=0
def tw15081074772355828547:=0
def tw12157373014790614061:=0
def tw15358088298540576605:=0
def tw18329481496393597068:=0
def tw16573501693903297228:=0
def tw6048776530899767161:=0
def tw3662989888652561187:=0
def tw637298239958937581:=0
def tw1256733297626434977:=0
def tw4598166296124328128:=0
def tw2444998722652920588:=0
def tw10178274298948397752:=0
def tw8308371501371523523:=0
def tw5354180415306827101:=0
def tw8756640527055669291:=0
def tw1866294027067220174:=0
def tw315126258919725073:=0
def tw1813144838549562937:=0
def tw8567769603381765941:=0
def tw3124220950266260586:=0
def tw4651894264291021605:=0
def tw6463030883257580898:=0
def tw8877105460420616639:=0
def tw6074999088813821823:=0
def tw12887699431889287008:=0
def tw6319753592896124863:=0
def tw11334945515174844803:=0
def tw12555684038726529933:=0
def tw3549618674998553549:=0
def tw8633528278016178306:=0
def tw8519434683072021330:=0
def tw711533331933439146:=0
def tw10255327305802135466:=0
def tw5345319171429530365:=0
def tw5817676536853579871:=0
def tw5832126544612730933:=0
def tw4747428896753564727:=0
def tw8119621905795492842:=0
def tw4661911889084918178:=0
def tw17902881482005416413:=0
def tw11287565228837309821:=0
def tw18339185271672978967:=0
def tw15220429926411661954:=0
def tw7834967845156755808:=0
def tw12902449957891066124:=0
def tw15140537677329858198:=0
def tw17442679868133567056:=0
def tw17992796447173678177:=0
def tw5842227935571481701:=0
def tw7807569217307837895:=0
def tw2893007905243665348:=0
def tw8157429244268889873:=0
def tw9794683920255086632:=0
def tw12876886816571577406:=0
def tw9014999128084609474:=0
def tw618601281282663955:=0
def tw14292154726114338554:=0
def tw11270325496965171514:=0
def tw6224584601569639129:=0
def tw4038798667684141858:=0
def tw6661911156657094835:=0
def tw18397994100753264312:=0
def tw15090170218663907147:=0
def tw3000848174957417896:=0
def tw2925918906347513907:=0
def tw59657394013430692:=0
def tw10669162186018557563:=0
def tw7597150021370755401:=0
def tw13428676209216515452:=0
def tw2956855933455454015:=0
def tw390018411247435144:=0
def tw15369946034725172945:=0
def tw3721247803213966326:=0
def tw4118331958456284294:=0
def tw9804420684913477993:=0
def tw16119499509495892666:=0
def tw16974804682186744876:=0
def tw200452306302062950:=0
def tw6531575665347398978:=0
def tw6409193482305416762:=0
def tw6362501507183223090:=0
def tw3150747665471976416:=0
def tw2264402174662651113:=0
def tw12689429030316762958:=0
def tw15926542899339094374:=0
def tw6906099106886867651:=0
def tw10285535734657314701:=0
def tw11283150269372258426:=0
def tw3698241382744151442:=0
def tw4525418904663631591:=0
def tw9700115262318467983:=0
def tw398741029095043117:=0
def tw8956823117197375010:=0
def tw10998830586064958684:=0
def tw8352278289570219113:=0
def tw7724939422063955258:=0
def tw14629777245229842118:=0
def tw12500999375188294491:=0
def tw17933009898111794475:=0
def tw16135523360291506895:=0
def tw6686375478917627697:=0
def tw15776574449291946695:=0
def tw6025358184895405754:=0
def tw10393148042999433973:=0
def tw14339961318258010482:=0
def tw4943359819560193507:=0
def tw11598491671349850687:=0
def tw10598172047359121118:=0
def tw15837916120625216887:=0
def tw7429006469070537730:=0
def tw11797567064542180832:=0
def tw5722653058463015328:=0
def tw14535554290682366083:=0
def tw16878944034579752358:=0
def tw1334027588802442793:=0
def tw13039746794467872097:=0
def tw9812166833238578605:=0
def tw17299141879536969351:=0
def tw4641459402592471545:=0
def tw18122881298725718346:=0
def tw3531290711938530859:=0
def tw11718609642157938988:=0
def tw15391707334944074521:=0
def tw7532193850054664060:=0
def tw7744410187037958422:=0
def tw10775840975097873788:=0
def tw4028354587055213885:=0
def tw11384193901683278157:=0
def tw10426867737639260018:=0
def tw6678873210718469557:=0
def tw9932052270310433171:=0
def tw162501716304338306:=0
def tw5620008878514561627:=0
def tw13617053600971497527:=0
def tw11941896215354843069:=0
def tw10274883252101541239:=0
def tw7442044314776886432:=0
def tw14058668157267274898:=0
def tw13792419433155881715:=0
def tw15368459044408385902:=0
def tw15667746127213194473:=0
def tw2786873684887875496:=0
def tw5576494723399481720:=0
def tw8072426372094348674:=0
def tw16910736357220764862:=0
def tw2064842506692290458:=0
def tw9595062640236988813:=0
def tw491640389244126483:=0
def tw2204735416322481210:=0
def tw5107594059021778724:=0
def tw2130952637779492250:=0
def tw8561041850548524483:=0
def tw2736251481379160962:=0
def tw11718326464181076094:=0
def tw3066192308660718368:=0
def tw12546373527555065040:=0
def tw15505522957795111137:=0
def tw10165318241022076371:=0
def tw8918875948247375554:=0
def tw7970195160851978004:=0
def tw17582550103081643289:=0
def tw7469896100304595473:=0
def tw17002777457760526489:=0
def tw10809718868676454303:=0
def tw15923202947694484504:=0
def tw13911537000541888325:=0
def tw17307849555210707519:=0
def tw9621242885709407012:=0
def tw3666163477918826118:=0
def tw8764625721952406743:=0
def tw11624439156690008064:=0
def tw9849299591403934407:=0
def tw12016817293003529457:=0
def tw9034196988886895402:=0
def tw8926516977650595399:=0
def tw15672376538217335339:=0
def tw9553213841054478110:=0
def tw5453576233240906717:=0
def tw11333799587010583505:=0
def tw10061140062873327388:=0
def tw7185927256728542156:=0
def tw12159008286804160715:=0
def tw16510265433561697761:=0
def tw9045269648209456980:=0
def tw15930790742342416687:=0
def tw781341146408148909:=0
def tw16807460152016783925:=0
def tw17085747542613115002:=0
def tw10502631956199000953:=0
def tw8151689781705081211:=0
def tw29871852314403973:=0
def tw1649362096258562236:=0
def tw12005245223545245227:=0
def tw17694469393973854956:=0
def tw6956806854739696040:=0
def tw10120510617227545108:=0
def tw13508634255583935167:=0
def tw7735257994440990340:=0
def tw2259965970805168965:=0
def tw16679263714120793021:=0
def tw14872799572940857854:=0
def tw18240998359795477291:=0
def tw597008046042608479:=0
def tw11678970870047145363:=0
def tw16906230994186626117:=0
def tw5744172353360671905:=0
def tw10251976051220123724:=0
def tw14892728222872684070:=0
def tw11953330829676139965:=0
def tw8934294582014777506:=0
def tw18022051877837127099:=0
def tw11153060272788671716:=0
def tw1055582927661620263:=0
def tw10373783911261617293:=0
def tw11025509577401492273:=0
def tw9459877637197553772:=0
def tw3546662948919925334:=0
def tw5019021365290886471:=0
def tw5577607875273404662:=0
def tw7775994037007619295:=0
def tw12127440018762362503:=0
def tw6220095787763555637:=0
def tw18222303025961234935:=0
def tw15946667426851302908:=0
def tw14918625223107292767:=0
def tw1595514232692231509:=0
def tw5226667577672299638:=0
def tw4531824828307421388:=0
def tw1135652021041176146:=0
def tw5954540635027244576:=0
def tw11782110838081480375:=0
def tw13947893611043130263:=0
def tw11818179785519669388:=0
def tw9309636874519160855:=0
def tw6501988057831891449:=0
def tw12634933837706634474:=0
def tw9970750123830673696:=0
def tw13964608667976099138:=0
def tw17593519015697072276:=0
def tw4590949107077708864:=0
def tw4958728855611750768:=0
def tw6610702102239562605:=0
def tw13434864766096495825:=0
def tw2121339482037232798:=0
def tw9510472553946328276:=0
def tw13596538150102501728:=0
def tw7659016339574392128:=0
def tw17174139321842780895:=0
def tw10967157874495249764:=0
def tw237495851770246370:=0
def tw4918862784918261156:=0
def tw12081904637468013270:=0
def tw13166462004186216101:=0
def tw7398339509288200543:=0
def tw4303899454938152910:=0
def tw9657566308119633686:=0
def tw1686945129656301428:=0
def tw13234260892155268532:=0
def tw5505928451274181806:=0
def tw13384172352690107619:=0
def tw10672669064434469895:=0
def tw1061172939325519491:=0
def tw580632679684003030:=0
def tw9609255684808665852:=0
def tw6416644968947002592:=0
def tw14435012260427091806:=0
def tw4115719084602933592:=0
def tw795838957828320703:=0
def tw1974646132995109449:=0
def tw1889880580175411530:=0
def tw6006872804195600049:=0
def tw6978574217652307431:=0
def tw1246283209331408212:=0
def tw11008368243999372862:=0
def tw11198638521979742110:=0
def tw1749740898429139939:=0
def tw4661845016963591366:=0
def tw14542524911518840153:=0
def tw8887456620189179218:=0
def tw2599070956212590367:=0
def tw4216299934422542253:=0
def tw6551953713902470973:=0
def tw1773357461047523790:=0
def tw9589237353551557316:=0
def tw3467740314330750170:=0
def tw762039751240317381:=0
def tw1458704052532761587:=0
def tw14794046667124830553:=0
def tw79101572298802430:=0
def tw18319855279702169972:=0
def tw5594504034678606348:=0
def tw1095285951640573400:=0
def tw10806396557058215413:=0
def tw11323385633609236312:=0
def tw4705284745013030451:=0
def tw2643141328417858453:=0
def tw776692351556388395:=0
def tw3330824342561353568:=0
def tw5678757310984985506:=0
def tw12210246183863529357:=0
def tw16787469757742121818:=0
def tw3504309721245466575:=0
def tw2876889556318479830:=0
def tw14067834211112269347:=0
def tw8026130548975960998:=0
def tw15607974493313897403:=0
def tw15916696926565747731:=0
def tw10985272778748943342:=0
def tw12580580744475685763:=0
def tw18145173177244765204:=0
def tw14426704749743214158:=0
def tw1907650219049068354:=0
def tw12150142448380787070:=0
def tw8032854943189922889:=0
def tw6539651144573210957:=0
def tw709192431074364484:=0
def tw9367832875653462357:=0
def tw2814369398689076184:=0
def tw1751161591288274554:=0
def tw131281184957179323:=0
def tw6187053529605113618:=0
def tw18138533635473282788:=0
def tw16496035006819101115:=0
def tw5192737264754105029:=0
def tw7107202302646711170:=0
def tw13170982916049786955:=0
def tw5206816894362813155:=0
def tw15144378164101710492:=0
def tw4964542277608678989:=0
def tw3569309382779750763:=0
def tw1396796581178964329:=0
def tw3487928589719117102:=0
def tw4163590158369734618:=0
def tw3506175086066100389:=0
def tw3735125609368136887:=0
def tw5166931426152490570:=0
def tw6163859352090437716:=0
def tw13507504316167327985:=0
def tw17157696460962211504:=0
def tw741578605475650626:=0
def tw2864764175962963026:=0
def tw8863115330399661236:=0
def tw4866405295466887850:=0
def tw16804998393164935834:=0
def tw12475951011662265426:=0
def tw17641598191788220394:=0
def tw3230008230268471654:=0
def tw6311758231399281138:=0
def tw11798755621628133479:=0
def tw5032136693829672968:=0
def tw67688639338936621:=0
def tw14527384902829588012:=0
def tw7905647836604402299:=0
def tw16031132954530657073:=0
def tw3230654621824103684:=0
def tw13979284395039175000:=0
def tw16580822266464045433:=0
def tw5170648396899632671:=0
def tw370089298132983799:=0
def tw16453415361042704952:=0
def tw739097195740280192:=0
def tw2965015684922819552:=0
def tw15734584425577759300:=0
def tw1872194610692672436:=0
def tw6313366067621142107:=0
def tw5420744084601711264:=0
def tw607139490266896450:=0
def tw4071946225402943366:=0
def tw13628419931120591774:=0
def tw10956793863117065462:=0
def tw18048582617388670960:=0
def tw8731760449827383841:=0
def tw17048253633119585478:=0
def tw2768060415335544913:=0
def tw9914496207070546640:=0
def tw2670051633225514218:=0
def tw3221716927583548089:=0
def tw14644678873871860602:=0
def tw18217728173633029723:=0
def tw3031192298114281089:=0
def tw1262122722837871333:=0
def tw11836700736783733705:=0
def tw5029267188237458326:=0
def tw13391994601377899959:=0
def tw18104803397593763338:=0
def tw365175381102109608:=0
def tw15389586501675204051:=0
def tw3971245881588731935:=0
def tw12257225565205136589:=0
def tw16895606419128994225:=0
def tw16244113686320989249:=0
def tw12256663053340324657:=0
def tw17706866107424357128:=0
def tw17329745431574798047:=0
def tw4787032049054965464:=0
def tw4867701116971738770:=0
def tw6369740989595002557:=0
def tw15061639734064432894:=0
def tw6288276781604112201:=0
def tw6727007699635630809:=0
def tw13005413250079847902:=0
def tw6806478766699171279:=0
def tw18430003623933097203:=0
def tw4342711826020743234:=0
def tw17639566078215149836:=0
def tw12485582748671987301:=0
def tw5963045763696764342:=0
def tw11037708128182106296:=0
def tw15405994556002604550:=0
def tw3044384172377650299:=0
def tw14881385650486056860:=0
def tw11860625994928131779:=0
def tw1911436518588746138:=0
def tw5075547441812407198:=0
def tw12557551193385543489:=0
def tw1976186546979419966:=0
def tw16274471747237005351:=0
def tw13353313496927556168:=0
def tw312951375475445230:=0
def tw4813906470851566840:=0
def tw6685492200779693087:=0
def tw15948706106911947500:=0
def tw7025750782393020828:=0
def tw7429000912905983910:=0
def tw17602082195836115887:=0
def tw17456490701774367499:=0
def tw12195758766136946710:=0
def tw4066533913914719345:=0
def tw6750789933005386506:=0
def tw5554764623203235045:=0
def tw18091932591574548353:=0
def tw1068206707862332656:=0
def tw12757617100271735540:=0
def tw17763995658763493832:=0
def tw15054460707017572769:=0
def tw8095172811469944914:=0
def tw15621406905024883208:=0
def tw16724262765948047733:=0
def tw10254789873373187181:=0
def tw17002831264910122266:=0
def tw9515119853972403652:=0
def tw13841645744056360776:=0
def tw10563798488981666317:=0
def tw8187573308911146363:=0
def tw6205978559556901483:=0
def tw17828040740421867077:=0
def tw14700919949246818196:=0
def tw16260751509886874548:=0
def tw8731555262166497391:=0
def tw11592621942506779105:=0
def tw11921435969167970728:=0
def tw12077264250306120632:=0
def tw10704985218701671666:=0
def tw17245381161470778674:=0
def tw10592305415788750827:=0
def tw1378492285988786170:=0
def tw499395655411131739:=0
def tw2811860295825413214:=0
def tw11367159514150857439:=0
def tw18021680475503742550:=0
def tw1269989774043649376:=0
def tw6236782200693254719:=0
def tw4262370804499833430:=0
def tw15408472176271961678:=0
def tw14119119302237818041:=0
def tw6287293110462991173:=0
def tw12494932158832286517:=0
def tw10981018853840717965:=0
def tw14376855052803798456:=0
def tw13822267841218794755:=0
def tw8374022141362891381:=0
def tw14014429586027312601:=0
def tw9368836957859395585:=0
def tw7032183168679792736:=0
def tw5109460104169250883:=0
def tw1689618149595032594:=0
def tw2690043285536980031:=0
def tw7018687475358643224:=0
def tw10692857368960099500:=0
def tw10759704697226728863:=0
def tw11788887319489712093:=0
def tw11002307678060675048:=0
def tw606922606004869766:=0
def tw9987661067255925603:=0
def tw15751233357427269883:=0
def tw11108630533418535725:=0
def tw13322059499062199447:=0
def tw11572136854651166690:=0
def tw7780432582671999365:=0
def tw4252099536714234033:=0
def tw285885869911248110:=0
def tw1262614009552449796:=0
def tw2047378011297494617:=0
def tw3283773588784767016:=0
def tw8995132086472002155:=0
def tw15261610882726393453:=0
def tw8908189498732706824:=0
def tw301101398619373804:=0
def tw10487562319457208932:=0
def tw7991353812290952958:=0
def tw3310107096734596173:=0
def tw12728825551473979970:=0
def tw5676938731168348291:=0
def tw9815973316872307936:=0
def tw17844189013263562487:=0
def tw15378474464000317499:=0
def tw18220768703269433920:=0
def tw3632949439757321193:=0
def tw7033659036372351884:=0
def tw1627446050046481577:=0
def tw9442280212666012644:=0
def tw8983050588764152004:=0
def tw17756453999602866016:=0
def tw15827669131329156215:=0
def tw10803541617059666018:=0
def tw5579220786792906209:=0
def tw5756985235024934245:=0
def tw4457771216613588689:=0
def tw14167167584221557953:=0
def tw2457868549711816460:=0
def tw7450393471353489018:=0
def tw3486378190160517442:=0
def tw17532147624862776453:=0
def tw14064935588398907130:=0
def tw7434115879556564638:=0
def tw2810178084333721992:=0
def tw8224538382454173896:=0
def tw4458417832050620808:=0
def tw791518319738694323:=0
def tw822666258011336436:=0
def tw17189583849809801774:=0
def tw1837408603831007545:=0
def tw14997905517123686464:=0
def tw14052015540489106558:=0
def tw5237319851774512747:=0
def tw10198700876118797134:=0
def tw14623963599590532438:=0
def tw10655503306242687186:=0
def tw16187904460159734021:=0
def tw12647022434568823446:=0
def tw312585467221522976:=0
def tw1048956193732048430:=0
def tw9065443993547994994:=0
def tw15994200695093815045:=0
def tw7842531913677510933:=0
def tw15416578159255121304:=0
def tw17978825872502178020:=0
def tw5691945148591197399:=0
def tw1298154367629981330:=0
def tw1096522884658285950:=0
def tw78971963253271114:=0
def tw5143494350871629509:=0
def tw13452189623016392951:=0
def tw4111338273977449381:=0
def tw7895589243851418941:=0
def tw9097124580889950634:=0
def tw5500834121008113581:=0
def tw8631269772573161490:=0
def tw15476064570443263441:=0
def tw17650580202944717491:=0
def tw4271344052143166881:=0
def tw15445239100560387328:=0
def tw2442054759068431919:=0
def tw12368807756745812526:=0
def tw4254589855252757020:=0
def tw8073558481855525640:=0
def tw17337318077640435532:=0
def tw13276552185522328078:=0
def tw6286179391804145200:=0
def tw3107999535455892494:=0
def tw8585472534386157714:=0
def tw13674628181861311215:=0
def tw7993150964470219266:=0
def tw17117078580093389331:=0
def tw7855232532012231609:=0
def tw9398672861663721152:=0
def tw10517125115460310234:=0
def tw516716811137114879:=0
def tw13638708940242092762:=0
def tw15697936473972697979:=0
def tw11473971356990681415:=0
def tw2113150359022282477:=0
def tw12263800327129614543:=0
def tw4735143514901585288:=0
def tw14157797333229131074:=0
def tw5926518762694266386:=0
def tw7063198783824520800:=0
def tw3249174216197791568:=0
def tw18082478788578317504:=0
def tw12148626458608683760:=0
def tw12016307682168736621:=0
def tw16886204155730237595:=0
def tw2224225244739894431:=0
def tw17729383765642405804:=0
def tw3967790715187702697:=0
def tw12876171806723447119:=0
def tw13307401283366346696:=0
def tw7731643144035048534:=0
def tw3946238073512114412:=0
def tw3095478188971098736:=0
def tw2921662778477782666:=0
def tw5800424671970890797:=0
def tw17357790930789891332:=0
def tw395737379233387211:=0
def tw12082794879380333479:=0
def tw14971247432648299636:=0
def tw14815417581635148260:=0
def tw2571681235684991643:=0
def tw7246997450306793741:=0
def tw13221800300031975517:=0
def tw7520134593767899529:=0
def tw16324975669854527193:=0
def tw16646530312161727628:=0
def tw7142580490410718505:=0
def tw8257961591925912524:=0
def tw5073902406430262472:=0
def tw6481614533107007483:=0
def tw10654284521470678346:=0
def tw9180133598905726530:=0
def tw15765541651309721987:=0
def tw17727814698750775290:=0
def tw17314728221446788861:=0
def tw6766877997734795036:=0
def tw16356150768675864560:=0
def tw2343983721363121502:=0
def tw9111669959868200262:=0
def tw17735715941593102989:=0
def tw4280498401096453481:=0
def tw2165790149610011027:=0
def tw2394987070985764050:=0
def tw232883856040024094:=0
def tw12453325217677334392:=0
def tw12982964315363801258:=0
def tw7591563429425369253:=0
def tw7951347412716487729:=0
def tw13845171364878709754:=0
def tw3703268580402672044:=0
def tw6813370184275449359:=0
def tw4319318628074730501:=0
def tw6142494692874065134:=0
def tw15177533694084397515:=0
def tw17605506037920502551:=0
def tw12350035867771988582:=0
def tw8620554381099869034:=0
def tw14450958476306277086:=0
def tw6069247458306377291:=0
def tw3369397201567377812:=0
def tw10998667576179376866:=0
def tw4149351651104936877:=0
def tw995818206928263671:=0
def tw14800831426820331234:=0
def tw898165949692942857:=0
def tw5209747485870557600:=0
def tw1382562221716055576:=0
def tw7868290074676095028:=0
def tw14761725815905848799:=0
def tw7029940370709704045:=0
def tw15697431299577208616:=0
def tw9648967162850540812:=0
def tw3912837590786247150:=0
def tw14417102152802429194:=0
def tw8014424809418488370:=0
def tw651048715491711976:=0
def tw678514498107883088:=0
def tw5413470218745393228:=0
def tw4066054415139708774:=0
def tw9979506920048695078:=0
def tw17128519430732480757:=0
def tw17920334232891808619:=0
def tw3573345787475275761:=0
def tw11700397381837740336:=0
def tw12084732920402522261:=0
def tw6287186252534972058:=0
def tw13535337203430871888:=0
def tw6003179531194568794:=0
def tw4450331193729577140:=0
def tw2775752120484117812:=0
def tw14602654648642840756:=0
def tw4929949027912584481:=0
def tw2245173644062982384:=0
def tw12519463187305863493:=0
def tw3984291640886582151:=0
def tw7111872902647798405:=0
def tw6493102906354475487:=0
def tw15312791918335459951:=0
def tw14249188447712933275:=0
def tw14615086642008330806:=0
def tw18076506863342692555:=0
def tw1289704272452645710:=0
def tw5623343258577574095:=0
def tw6462367062502012915:=0
def tw12299478058777285770:=0
def tw2593775391622262588:=0
def tw7979682677102404839:=0
def tw15160805108954506411:=0
def tw11181296039676937629:=0
def tw1391273165755783380:=0
def tw11210020706171656781:=0
def tw13097869078761216460:=0
def tw15039467801265664497:=0
def tw6399030165029852129:=0
def tw3921970311250795139:=0
def tw1648055082264474635:=0
def tw11257148856926371326:=0
def tw2679512519541444057:=0
def tw5358806001957672132:=0
def tw14350543506847804248:=0
def tw6401169446754940240:=0
def tw15504756748164961003:=0
def tw15502947267262708074:=0
def tw2887624427243605897:=0
def tw9859962757761627462:=0
def tw16552393993839037611:=0
def tw16102668424840567960:=0
def tw8257013526165935237:=0
def tw5537478634369397630:=0
def tw15034951890675503145:=0
def tw2207837371205274830:=0
def tw1234789727679325535:=0
def tw6407939499856601810:=0
def tw17990122998114390282:=0
def tw6349091500663366856:=0
def tw7521280824965987280:=0
def tw14256897397186448404:=0
def tw109401648120128876:=0
def tw6723431755196257463:=0
def tw9350330128297770948:=0
def tw18001036065440474269:=0
def tw4745844819285190604:=0
def tw12273734920540458215:=0
def tw6495153322705890649:=0
def tw12162042251849794652:=0
def tw16946937308474325657:=0
def tw5044585820561358826:=0
def tw15937397625411361719:=0
def tw3780957754950231902:=0
def tw234848923641558854:=0
def tw12554999536767935051:=0
def tw601720002861290947:=0
def tw13633715746682401680:=0
def tw5803918247945964720:=0
def tw5971937723085201467:=0
def tw13529307646307349394:=0
def tw17643176648483417892:=0
def tw1051476651507934048:=0
def tw816601263947315450:=0
def tw14754150415153036186:=0
def tw17348375988359321826:=0
def tw3161380109949566086:=0
def tw15237711334409351463:=0
def tw8843026103075304304:=0
def tw7422434158146256520:=0
def tw3223608618926447817:=0
def tw8974777345326717290:=0
def tw7006128116638425801:=0
def tw11030410610778520539:=0
def tw3909575750858339722:=0
def tw8112591333771541211:=0
def tw14017195152162863605:=0
def tw7172302107190272257:=0
def tw368778724948102998:=0
def tw3894904355468391222:=0
def tw14549572579522320176:=0
def tw11164450889641668188:=0
def tw5774283205451019745:=0
def tw12812043170689796097:=0
def tw11082739293293919359:=0
def tw409141757039377169:=0
def tw1756674495710607073:=0
def tw13216774797299168342:=0
def tw17525812163171324480:=0
def tw785484757025227097:=0
def tw11988816405156921783:=0
def tw11199595053397261115:=0
def tw4316710849165362140:=0
def tw10500498614493135381:=0
def tw6103567697711618071:=0
def tw14449278603440713709:=0
def tw15775324009688475606:=0
def tw950613402129830849:=0
def tw790955054757718132:=0
def tw11169805538940754197:=0
def tw9907710495898057931:=0
def tw2893526040811298771:=0
def tw10655699514038640716:=0
def tw16792530862008514417:=0
def tw10363478633226987926:=0
def tw17366988312853347194:=0
def tw15026716486852126673:=0
def tw8115711694878163002:=0
def tw17352610771918557847:=0
def tw324900815868789518:=0
def tw5118848900351928312:=0
def tw15844399468631813601:=0
def tw10447288681994739040:=0
def tw12973511273622182511:=0
def tw873713386404105618:=0
def tw17903832355726778960:=0
def tw9879273462210204935:=0
def tw5084484632499392823:=0
def tw8043725967991551184:=0
def tw714643324622260134:=0
def tw2782652532643029320:=0
def tw188186820111333187:=0
def tw10971778523259929595:=0
def tw12433263968844917612:=0
def tw14041986279523415358:=0
def tw7081947550438627812:=0
def tw11967298947467644154:=0
def tw4129547472213073470:=0
def tw12730039560875326908:=0
def tw4532657518277837669:=0
def tw9837102341033924792:=0
def tw9559723475915259683:=0
def tw10807678452358873746:=0
def tw10523440836016311420:=0
def tw17301619843320355514:=0
def tw10901196657813821605:=0
def tw14649829433264531593:=0
def tw10363937856910980057:=0
def tw5638678243130952998:=0
def tw14724855297670136938:=0
def tw1889142554973258291:=0
def tw6532670684279903989:=0
def tw4232637619292711624:=0
def tw2943427000963572359:=0
def tw15963093463724361523:=0
def tw2806092733208415322:=0
def tw12881346898625844086:=0
def tw1826197911407966410:=0
def tw16852026634921204648:=0
def tw17849096051577011957:=0
def tw1974901240079681777:=0
def tw7404652993418625628:=0
def tw117270302915581639:=0
def tw244715854306960077:=0
def tw17456008018299000709:=0
def tw297021608847047853:=0
def tw11985100568519605531:=0
def tw11738650917024988100:=0
def tw16702679482078888664:=0
def tw5929725882375398265:=0
def tw8556521960942350225:=0
def tw2241595668575232010:=0
def tw6980090160691197539:=0
def tw10306670442834236135:=0
def tw13364370040056806259:=0
def tw9713904333539962840:=0
def tw319513000180063588:=0
def tw14497501322973641501:=0
def tw12625228477712152558:=0
def tw7513316286552228975:=0
def tw5291458358202697096:=0
def tw9323191893542851639:=0
def tw14550834607227263546:=0
def tw12579825956340962442:=0
def tw12055553231285709082:=0
def tw6234086409610650117:=0
def tw12221211543633559988:=0
def tw15802348541445279143:=0
def tw9726443833109946069:=0
def tw12026396604940536372:=0
def tw4034196149025610659:=0
def tw6192990581715595526:=0
def tw7201344244216952677:=0
def tw1147796902245241327:=0
def tw14072563230224876167:=0
def tw14529040331065348607:=0
def tw1637051829242079477:=0
def tw15593739041023572708:=0
def tw4082795403105676558:=0
def tw5872628499270130872:=0
def tw12400050022144888626:=0
def tw13865033335926826119:=0
def tw15167323954571434050:=0
def tw9752915328017115911:=0
def tw5150267157572150595:=0
def tw12309459331263762313:=0
def tw3396865560171377366:=0
def tw2843545112435012461:=0
def tw14368525613827060306:=0
def tw2408850707811572265:=0
def tw14390718714369018438:=0
def tw227498675759541447:=0
def tw780292367474990844:=0
def tw2344226700519376261:=0
def tw14841043886149008097:=0
def tw4412312034765948420:=0
def tw4209076899510063143:=0
def tw13897244370800402974:=0
def tw11537229035442144613:=0
def tw4162379511413843174:=0
def tw17513734824387050342:=0
def tw8866954920806389113:=0
def tw2641490147754093117:=0
def tw4125015503080100672:=0
def tw2104149373778265690:=0
def tw11572827266742000572:=0
def tw17432970817533611933:=0
def tw2146783052200952033:=0
def tw31941501864498617:=0
def tw8597783403844497017:=0
def tw6035296670192863524:=0
def tw16299304833438585265:=0
def tw2872366248144975695:=0
def tw2393288048599933654:=0
def tw2862149688451082599:=0
def tw4794939851052050571:=0
def tw10148200769413733329:=0
def tw17061697759065962152:=0
def tw4686661273003186816:=0
def tw13961919722577157010:=0
def tw8390311402302604150:=0
def tw1918764766719630549:=0
def tw8177908812521012393:=0
def tw8366524522936921976:=0
def tw241044223367847700:=0
def tw3599937330429419395:=0
def tw9171573212833319754:=0
def tw16761846600714600155:=0
def tw16638109901980280041:=0
def tw14338310857388603252:=0
def tw3000507462155251389:=0
def tw13825446858515440839:=0
def tw11425151345875078288:=0
def tw12415221379093960252:=0
def tw5965981257200972763:=0
def tw13819374944355069022:=0
def tw10490716380590865172:=0
def tw11525683270662258593:=0
def tw2192782169839890410:=0
def tw14855365352482352836:=0
def tw3654651016264649577:=0
def tw2020532387881840787:=0
def tw16031472397299257085:=0
end PySem.W.Fast
open PySem PySem.W PyProof.Rows
set_option maxHeartbeats 0 in
theorem PySem.Challenge.cw_outweave_k62_plans_refused_holds : PySem.Challenge.rw_outweave_k62_plans_refused.Holds := by
  w_on; o_law; k_head; (case hw => w_witness2)
  k_fill
  refine L2.walk_ofB (l := PySem.Challenge.rw_outweave_k62_plans_refused) (n := 63) (k := 8) (x := "_law_script") (CX := fun _ => L2.CX0) (sp := fun w => LI.spLaw _) rfl (by decide) rfl ⟨rfl, by decide, by decide⟩ (fun w h Y => PySem.W.kIn_of Y) ?F (fun _ _ a ns hl hb _ hS => ⟨a, ns, rfl, hS, hl, hb, fun _ => rfl⟩) (fun _ _ _ _ _ h => h)
  case F =>
    intro w mg fa h KX G hmg
    refine' LW.all_mk LW.law_true KX G hmg ?gc_OutError ?gc_NoName ?gc_NoHand ?gc_Twice ?gc_NoSize ?gc_NoRoom ?gc_NoCell ?x1_NoRoom ?x2_NoRoom ?x3_NoRoom ?x4_NoRoom ?x5_NoRoom ?x6_NoRoom ?x7_NoRoom ?x8_NoRoom ?x9_NoRoom ?ik_v_NoRoom ?ik_NoRoom__NoCell ?ik_NoRoom__NoHand ?ik_NoRoom__NoName ?ik_NoRoom__NoRoom ?ik_NoRoom__OutError ?ik_NoRoom__Twice ?xs_NoRoom__NoSize ?xs_NoRoom__NoRoom ?x1_NoSize ?x2_NoSize ?x3_NoSize ?x4_NoSize ?x5_NoSize ?x6_NoSize ?x7_NoSize ?x8_NoSize ?x9_NoSize ?ik_v_NoSize ?ik_NoSize__NoCell ?ik_NoSize__NoHand ?ik_NoSize__NoName ?ik_NoSize__NoRoom ?ik_NoSize__OutError ?ik_NoSize__Twice ?xs_NoSize__NoSize ?xs_NoSize__NoRoom ?xf_at__NoRoom ?xf_at__NoSize ?a1_NoRoom_init ?a5_NoRoom_init ?a2_NoRoom_init ?a3_NoRoom_init ?a4_NoRoom_init ?xl_NoRoom ?xw_NoRoom ?xt_NoRoom ?xq_NoRoom ?xn_NoRoom ?rd_OutError ?ga_OutError ?bi_OutError ?xm1_NoSize ?xm2_NoSize ?xm3_NoSize ?xm1_NoRoom ?xm2_NoRoom ?xm3_NoRoom ?xp_NoSize ?xq_NoSize ?xt_NoSize ?gc_Plan ?a1_is_name__X1 ?a2_is_name__X1 ?a3_is_name__X1 ?a4_is_name__X1 ?a1_is_name ?a2_is_name ?a3_is_name ?a4_is_name ?a1_is_whole__X1 ?a2_is_whole__X1 ?a3_is_whole__X1 ?a4_is_whole__X1 ?a1_is_whole ?a2_is_whole ?a3_is_whole ?a4_is_whole ?a1_is_among__X1 ?a2_is_among__X1 ?a3_is_among__X1 ?a4_is_among__X1 ?a1_is_among ?a2_is_among ?a3_is_among ?a4_is_among ?a1_is_room__X1 ?a2_is_room__X1 ?a3_is_room__X1 ?a4_is_room__X1 ?a1_is_room ?a2_is_room ?a3_is_room ?a4_is_room ?a1_is_apart ?a2_is_apart ?a3_is_apart ?a4_is_apart ?a1_Plan_init__X1 ?a5_Plan_init__X1 ?a2_Plan_init__X1 ?a3_Plan_init__X1 ?a4_Plan_init__X1 ?a1_Plan_init ?a5_Plan_init ?a2_Plan_init ?a3_Plan_init ?a4_Plan_init ?a1_Plan_room_names ?a5_Plan_room_names ?a2_Plan_room_names ?a3_Plan_room_names ?a4_Plan_room_names ?a1_lw_cell_at ?a2_lw_cell_at ?a3_lw_cell_at ?a4_lw_cell_at ?a1_lw_mix ?a2_lw_mix ?a3_lw_mix ?a4_lw_mix ?a1_lw_names ?a2_lw_names ?a3_lw_names ?a4_lw_names ?a1_lw_good ?a2_lw_good ?a3_lw_good ?a4_lw_good ?a1_lw_number ?a2_lw_number ?a3_lw_number ?a4_lw_number ?a1_lw_over ?a2_lw_over ?a3_lw_over ?a4_lw_over ?a1_lw_bad ?a2_lw_bad ?a3_lw_bad ?a4_lw_bad ?a1_lw_refused ?a2_lw_refused ?a3_lw_refused ?a4_lw_refused ?a1_lw_taken ?a2_lw_taken ?a3_lw_taken ?a4_lw_taken ?a1_lw_edges ?a2_lw_edges ?a3_lw_edges ?a4_lw_edges ?a1_lw_sizes ?a2_lw_sizes ?a3_lw_sizes ?a4_lw_sizes ?a1_law ?a2_law ?a3_law ?a4_law ?z_ValueError ?z_all ?z_bool ?z_enumerate ?z_int ?z_isinstance ?z_len ?z_list ?z_max ?z_range ?z_str ?z_tuple ?k_HIGHEST ?k_LETTERS ?k_LONGEST ?k_MOST_ROOMS ?k_NARROWEST ?k1_WAYS ?k2_WAYS ?k5_WAYS ?k6_WAYS ?k_WIDEST ?pg_Plan ?hd_Plan ?po_Plan ?sa_Plan ?na_Plan_high ?na_Plan_wide ?na_Plan_rooms ?mi_Plan__X1 ?kc_Plan__X1 ?mi_Plan ?kc_Plan
    (case gc_OutError => k_is); (case gc_NoName => k_is); (case gc_NoHand => k_is); (case gc_Twice => k_is); (case gc_NoSize => k_is); (case gc_NoRoom => k_is); (case gc_NoCell => k_is); (case x1_NoRoom => k_is); (case x2_NoRoom => k_is); (case x3_NoRoom => k_is); (case x4_NoRoom => k_is); (case x5_NoRoom => k_is); (case x6_NoRoom => k_is); (case x7_NoRoom => k_is); (case x8_NoRoom => k_is); (case x9_NoRoom => k_is); (case ik_v_NoRoom => kit_is); (case ik_NoRoom__NoCell => kit_is); (case ik_NoRoom__NoHand => kit_is); (case ik_NoRoom__NoName => kit_is); (case ik_NoRoom__NoRoom => kit_is); (case ik_NoRoom__OutError => kit_is); (case ik_NoRoom__Twice => kit_is); (case xs_NoRoom__NoSize => k_is); (case xs_NoRoom__NoRoom => k_is); (case x1_NoSize => k_is); (case x2_NoSize => k_is); (case x3_NoSize => k_is); (case x4_NoSize => k_is); (case x5_NoSize => k_is); (case x6_NoSize => k_is); (case x7_NoSize => k_is); (case x8_NoSize => k_is); (case x9_NoSize => k_is); (case ik_v_NoSize => kit_is); (case ik_NoSize__NoCell => kit_is); (case ik_NoSize__NoHand => kit_is); (case ik_NoSize__NoName => kit_is); (case ik_NoSize__NoRoom => kit_is); (case ik_NoSize__OutError => kit_is); (case ik_NoSize__Twice => kit_is); (case xs_NoSize__NoSize => k_is); (case xs_NoSize__NoRoom => k_is); (case xf_at__NoRoom => k_is); (case xf_at__NoSize => k_is); (case a1_NoRoom_init => k_is); (case a5_NoRoom_init => k_is); (case a2_NoRoom_init => k_is); (case a3_NoRoom_init => k_is); (case a4_NoRoom_init => k_is); (case xl_NoRoom => k_is); (case xw_NoRoom => k_is); (case xt_NoRoom => k_is); (case xq_NoRoom => k_is); (case xn_NoRoom => k_is); (case rd_OutError => k_is); (case ga_OutError => k_is); (case bi_OutError => k_is); (case xm1_NoSize => k_is); (case xm2_NoSize => k_is); (case xm3_NoSize => k_is); (case xm1_NoRoom => k_is); (case xm2_NoRoom => k_is); (case xm3_NoRoom => k_is); (case xp_NoSize => k_exc); (case xq_NoSize => k_is); (case xt_NoSize => k_is); (case gc_Plan => k_is); (case a1_is_name__X1 => k_is); (case a2_is_name__X1 => k_is); (case a3_is_name__X1 => k_is); (case a4_is_name__X1 => k_is); (case a1_is_name => k_is); (case a2_is_name => k_is); (case a3_is_name => k_is); (case a4_is_name => k_is); (case a1_is_whole__X1 => k_is); (case a2_is_whole__X1 => k_is); (case a3_is_whole__X1 => k_is); (case a4_is_whole__X1 => k_is); (case a1_is_whole => k_is); (case a2_is_whole => k_is); (case a3_is_whole => k_is); (case a4_is_whole => k_is); (case a1_is_among__X1 => k_is); (case a2_is_among__X1 => k_is); (case a3_is_among__X1 => k_is); (case a4_is_among__X1 => k_is); (case a1_is_among => k_is); (case a2_is_among => k_is); (case a3_is_among => k_is); (case a4_is_among => k_is); (case a1_is_room__X1 => k_is); (case a2_is_room__X1 => k_is); (case a3_is_room__X1 => k_is); (case a4_is_room__X1 => k_is); (case a1_is_room => k_is); (case a2_is_room => k_is); (case a3_is_room => k_is); (case a4_is_room => k_is); (case a1_is_apart => k_is); (case a2_is_apart => k_is); (case a3_is_apart => k_is); (case a4_is_apart => k_is); (case a1_Plan_init__X1 => k_is); (case a5_Plan_init__X1 => k_is); (case a2_Plan_init__X1 => k_is); (case a3_Plan_init__X1 => k_is); (case a4_Plan_init__X1 => k_is); (case a1_Plan_init => k_is); (case a5_Plan_init => k_is); (case a2_Plan_init => k_is); (case a3_Plan_init => k_is); (case a4_Plan_init => k_is); (case a1_Plan_room_names => k_is); (case a5_Plan_room_names => k_is); (case a2_Plan_room_names => k_is); (case a3_Plan_room_names => k_is); (case a4_Plan_room_names => k_is); (case a1_lw_cell_at => k_is); (case a2_lw_cell_at => k_is); (case a3_lw_cell_at => k_is); (case a4_lw_cell_at => k_is); (case a1_lw_mix => k_is); (case a2_lw_mix => k_is); (case a3_lw_mix => k_is); (case a4_lw_mix => k_is); (case a1_lw_names => k_is); (case a2_lw_names => k_is); (case a3_lw_names => k_is); (case a4_lw_names => k_is); (case a1_lw_good => k_is); (case a2_lw_good => k_is); (case a3_lw_good => k_is); (case a4_lw_good => k_is); (case a1_lw_number => k_is); (case a2_lw_number => k_is); (case a3_lw_number => k_is); (case a4_lw_number => k_is); (case a1_lw_over => k_is); (case a2_lw_over => k_is); (case a3_lw_over => k_is); (case a4_lw_over => k_is); (case a1_lw_bad => k_is); (case a2_lw_bad => k_is); (case a3_lw_bad => k_is); (case a4_lw_bad => k_is); (case a1_lw_refused => k_is); (case a2_lw_refused => k_is); (case a3_lw_refused => k_is); (case a4_lw_refused => k_is); (case a1_lw_taken => k_is); (case a2_lw_taken => k_is); (case a3_lw_taken => k_is); (case a4_lw_taken => k_is); (case a1_lw_edges => k_is); (case a2_lw_edges => k_is); (case a3_lw_edges => k_is); (case a4_lw_edges => k_is); (case a1_lw_sizes => k_is); (case a2_lw_sizes => k_is); (case a3_lw_sizes => k_is); (case a4_lw_sizes => k_is); (case a1_law => k_is); (case a2_law => k_is); (case a3_law => k_is); (case a4_law => k_is); (case z_ValueError => k_is); (case z_all => k_is); (case z_bool => k_is); (case z_enumerate => k_is); (case z_int => k_is); (case z_isinstance => k_is); (case z_len => k_is); (case z_list => k_is); (case z_max => k_is); (case z_range => k_is); (case z_str => k_is); (case z_tuple => k_is); (case k_HIGHEST => k_is); (case k_LETTERS => k_is); (case k_LONGEST => k_is); (case k_MOST_ROOMS => k_is); (case k_NARROWEST => k_is); (case k1_WAYS => k_is); (case k2_WAYS => k_is); (case k5_WAYS => decide); (case k6_WAYS => repeat' (first | exact Paired.nil | exact ⟨_, rfl⟩ | exact rfl | apply Paired.cons)); (case k_WIDEST => k_is); (case pg_Plan => k_is); (case hd_Plan => k_is); (case po_Plan => k_is); (case sa_Plan => k_is); (case na_Plan_high => k_is); (case na_Plan_wide => k_is); (case na_Plan_rooms => k_is); (case mi_Plan__X1 => k_is); (case kc_Plan__X1 => k_is); (case mi_Plan => k_is); (case kc_Plan => k_is)


