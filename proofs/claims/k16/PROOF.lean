import PyProof.Rows.All
import Wide.All
import OpenK.AllK
import Wide.FinOn
import HandS.ForMost
import HandS.ForExc
import HandS.Wide
import HandS.EndBits
import HandS.Flow
import HandS.Style
import HandS.Zip
import HandS.Deep
import HandS.Codes
import HandS.IsInst
import HandS.FStr
import HandS.Conv
import KE.KeyNested
import HandS.TupAny
import HandS.Walk
import HandS.Dict
import PyProof.Draws
import HandS.More
import HandS.NoneIn
import KE.DatumOrd
import PyProof.Rows.RowBridgeK
import HandS.TupLen
import KE.SortData
import PyProof.Rows.StrLawsPart
import PyProof.StrLawsIn
import HandS.DictEq
import KE.KDictKeyed
import HandS.SetFor
import HandS.Iter
import KE.DataMinKey
import HandS.StrMore
import HandS.Replace
import HandS.ReplaceList
import PyProof.ToksMono
import HandS.Defaults
import HandS.Exc
import PyProof.StrLawsFirst
import KE.KEqDict
import HandS.Rev
import HandS.ExcOwn
import HandS.ExcIs
import HandS.WordsExc
import HandS.TryOnly
import HandS.ExcCtx
import HandS.HotCalls
import HandS.ExcField
import KE.KExcIs
import HandS.ExcInit
import HandS.ClsMeth
import HandS.TryElse
import HandS.ReplaceLit
import PyProof.MeetsStr3
import PyProof.NeKinds
import HandS.RaiseMore
import KE.GoesNew
import HandS.ExcValue
import PySem.Challenge.RW_outweave_k16_signs_refused
set_option Elab.async false
set_option synthInstance.maxSize 10000
set_option linter.all false
set_option maxRecDepth 100000
set_option exponentiation.threshold 20000
set_option maxHeartbeats 4000000
namespace LI
open PySem L2

inductive D where
  | gone
  | non
  | bl (b : Bool)
  | int (i : Int)
  | str (s : List Nat)
  | scr (ns : List Int)
  | kst (ss : List (List Nat))
  | key (ks : List Key)
  | tup (ds : List D)
  | lst (o : Bool) (ds : List D)
  | dK (o : Bool) (ks : List Key) (ds : List D)
  | dT (o : Bool) (ks : List (List Key)) (ds : List D)
  | dN (o : Bool) (ks : List NestedKey) (ds : List D)
  | obj (o : Bool) (c : Nat) (fs : List Str) (ds : List D)

abbrev FP := Addr → Nat
def one (a : Addr) : FP := fun b => if b = a then 1 else 0
def fz : FP := fun _ => 0
def fa (S T : FP) : FP := fun b => S b + T b
def Ex (H H' : Hp) : Prop := ∀ a o, H a = some o → H' a = some o
theorem Ex.refl (H : Hp) : Ex H H := fun _ _ h => h
theorem Ex.trans {H H1 H2 : Hp} (a : Ex H H1) (b : Ex H1 H2) : Ex H H2 := fun x o h => b x o (a x o h)

structure LC where
  K : PySem.W.Frag
  cl : Nat → Addr
  w : World

mutual
/-- the value is the key -/
def NkRep (K : PySem.W.Frag) (P : Hp) : NestedKey → V → Prop
  | .none, v => v = .non
  | .num i, v => v = .int i
  | .text x, v => v = .str x
  | .tup ks, v => ∃ a xs, v = .ref a ∧ SqT K P a xs ∧ NkAll K P ks xs
def NkAll (K : PySem.W.Frag) (P : Hp) : List NestedKey → List V → Prop
  | [], xs => xs = []
  | k :: ks, xs => ∃ y ys, xs = y :: ys ∧ NkRep K P k y ∧ NkAll K P ks ys
end
structure NkOk (K : PySem.W.Frag) (P : Hp) (a : Addr) (ks : List NestedKey) (bs : List Addr) : Prop where
  ne : (a == sysModules) = false
  len : ks.length = bs.length
  le : ks.length ≤ sizeLine
  nd : ks.Nodup
  at_ : ∀ p ∈ ks.zip bs, NkRep K P p.1 (.ref p.2) ∧ p.1.depth ≤ 8
abbrev DnE (w : World) : List (NestedKey × Addr × V) → List DictEntry → Prop := Paired fun p e => e.hash = p.1.hash w ∧ e.key = .ref p.2.1 ∧ RelV p.2.2 e.val
def DnObj (w : World) (l : List (NestedKey × Addr × V)) (o : Obj) : Prop := o.ExactDict ∧ ∃ es ep, o.data = .dict es ep ∧ DnE w l es.toList
def exO (a : Addr) (o : Obj) : HO := .ext fun h => h.get? a = some o
def DnAt (w : World) (H : Hp) (a : Addr) (l : List (NestedKey × Addr × V)) : Prop := ∃ o, H a = some (exO a o) ∧ DnObj w l o
theorem DnAt.of {w : World} {H H' : Hp} {a : Addr} {l : List (NestedKey × Addr × V)} (h : DnAt w H a l) (k : ∀ o, H a = some o → H' a = some o) : DnAt w H' a l := let ⟨o, h1, h2⟩ := h; ⟨o, k _ h1, h2⟩

mutual
def Rep (c : LC) (P H : Hp) : D → V → FP → Prop
  | .gone, _, S => S = fz
  | .non, v, S => v = .non ∧ S = fz
  | .bl b, v, S => v = .bl b ∧ S = fz
  | .int i, v, S => v = .int i ∧ S = fz
  | .str s, v, S => v = .str ⟨s.toArray⟩ ∧ S = fz
  | .scr ns, v, S => ∃ a, v = .ref a ∧ SqL c.K P a (ns.map V.int) ∧ S = fz
  | .kst ss, v, S => ∃ a, v = .ref a ∧ SqT c.K P a (ss.map fun s => V.str ⟨s.toArray⟩) ∧ S = fz
  | .key ks, v, S => ∃ a, v = .ref a ∧ P a = some (.tup (ks.map kV)) ∧ S = fz
  | .tup ds, v, S => ∃ a xs, v = .ref a ∧ SqT c.K P a xs ∧ RepL c P H ds xs S
  | .lst true ds, v, S => ∃ a xs T, v = .ref a ∧ H a = some (.lst xs) ∧ RepL c P H ds xs T ∧ S = fa (one a) T
  | .lst false ds, v, S => ∃ a xs, v = .ref a ∧ P a = some (.lst xs) ∧ RepL c P H ds xs S
  | .dK true ks ds, v, S => ∃ a xs T, v = .ref a ∧ H a = some (.dK (ks.zip xs)) ∧ ks.length = xs.length ∧ RepL c P H ds xs T ∧ S = fa (one a) T
  | .dK false ks ds, v, S => ∃ a xs, v = .ref a ∧ P a = some (.dK (ks.zip xs)) ∧ ks.length = xs.length ∧ RepL c P H ds xs S
  | .dT true ks ds, v, S => ∃ a xs T, v = .ref a ∧ H a = some (.dT (ks.zip xs)) ∧ ks.length = xs.length ∧ RepL c P H ds xs T ∧ S = fa (one a) T
  | .dT false ks ds, v, S => ∃ a xs, v = .ref a ∧ P a = some (.dT (ks.zip xs)) ∧ ks.length = xs.length ∧ RepL c P H ds xs S
  | .dN true ks ds, v, S => ∃ a bs xs T, v = .ref a ∧ DnAt c.w H a (ks.zip (bs.zip xs)) ∧ NkOk c.K P a ks bs ∧ ks.length = xs.length ∧ RepL c P H ds xs T ∧ S = fa (one a) T
  | .dN false ks ds, v, S => ∃ a bs xs, v = .ref a ∧ DnAt c.w P a (ks.zip (bs.zip xs)) ∧ NkOk c.K P a ks bs ∧ ks.length = xs.length ∧ RepL c P H ds xs S
  | .obj true k fs ds, v, S => ∃ a dx xs T, v = .ref a ∧ H a = some (.ins (c.cl k) dx (fs.zip xs)) ∧ fs.length = xs.length ∧ RepL c P H ds xs T ∧ S = fa (one a) T
  | .obj false k fs ds, v, S => ∃ a dx xs, v = .ref a ∧ P a = some (.ins (c.cl k) dx (fs.zip xs)) ∧ fs.length = xs.length ∧ RepL c P H ds xs S
def RepL (c : LC) (P H : Hp) : List D → List V → FP → Prop
  | [], xs, S => xs = [] ∧ S = fz
  | d :: ds, xs, S => ∃ y ys T U, xs = y :: ys ∧ Rep c P H d y T ∧ RepL c P H ds ys U ∧ S = fa T U
end
mutual
/-- nothing in it is owned -/
def frz : D → Bool
  | .tup ds => frzL ds
  | .lst o ds => !o && frzL ds
  | .dK o _ ds => !o && frzL ds
  | .dT o _ ds => !o && frzL ds
  | .dN o _ ds => !o && frzL ds
  | .obj o _ _ ds => !o && frzL ds
  | _ => true
def frzL : List D → Bool
  | [] => true
  | d :: ds => frz d && frzL ds
end
mutual
/-- the same, owned by none -/
def ice : D → D
  | .tup ds => .tup (iceL ds)
  | .lst _ ds => .lst false (iceL ds)
  | .dK _ ks ds => .dK false ks (iceL ds)
  | .dT _ ks ds => .dT false ks (iceL ds)
  | .dN _ ks ds => .dN false ks (iceL ds)
  | .obj _ k fs ds => .obj false k fs (iceL ds)
  | d => d
def iceL : List D → List D
  | [] => []
  | d :: ds => ice d :: iceL ds
end
mutual
/-- no list, dict or instance in it that is frozen -/
def noIce : D → Bool
  | .scr _ => false
  | .tup ds => noIceL ds
  | .lst o ds => o && noIceL ds
  | .dK o _ ds => o && noIceL ds
  | .dT o _ ds => o && noIceL ds
  | .dN o _ ds => o && noIceL ds
  | .obj o _ _ ds => o && noIceL ds
  | _ => true
def noIceL : List D → Bool
  | [] => true
  | d :: ds => noIce d && noIceL ds
end
theorem fa_fz (S : FP) : fa S fz = S := by funext b; simp [fa, fz]
theorem fz_fa (S : FP) : fa fz S = S := by funext b; simp [fa, fz]

theorem sqt_mono {K : PySem.W.Frag} {H H' : Hp} {a : Addr} {xs : List V} (e : Ex H H') (h : SqT K H a xs) : SqT K H' a xs := by
  rcases h with (h | ⟨o, h⟩) | h
  · exact .inl (.inl (e _ _ h))
  · exact .inl (.inr ⟨o, e _ _ h⟩)
  · exact .inr h
theorem sql_mono {K : PySem.W.Frag} {H H' : Hp} {a : Addr} {xs : List V} (e : Ex H H') (h : SqL K H a xs) : SqL K H' a xs := by
  rcases h with (h | ⟨o, h⟩) | h
  · exact .inl (.inl (e _ _ h))
  · exact .inl (.inr ⟨o, e _ _ h⟩)
  · exact .inr h

mutual
theorem NkRep.mono {K : PySem.W.Frag} {P P' : Hp} (e : ∀ (a : Addr) (xs : List V), SqT K P a xs → SqT K P' a xs) : ∀ (k : NestedKey) (v : V), NkRep K P k v → NkRep K P' k v
  | .none, v, h => h
  | .num _, v, h => h
  | .text _, v, h => h
  | .tup ks, v, ⟨a, xs, h1, h2, h3⟩ => ⟨a, xs, h1, e a xs h2, NkAll.mono e ks xs h3⟩
theorem NkAll.mono {K : PySem.W.Frag} {P P' : Hp} (e : ∀ (a : Addr) (xs : List V), SqT K P a xs → SqT K P' a xs) : ∀ (ks : List NestedKey) (vs : List V), NkAll K P ks vs → NkAll K P' ks vs
  | [], vs, h => h
  | k :: ks, vs, ⟨y, ys, h1, h2, h3⟩ => ⟨y, ys, h1, NkRep.mono e k y h2, NkAll.mono e ks ys h3⟩
end
theorem NkOk.mono {K : PySem.W.Frag} {P P' : Hp} {a : Addr} {ks : List NestedKey} {bs : List Addr} (h : NkOk K P a ks bs) (e : ∀ (a : Addr) (xs : List V), SqT K P a xs → SqT K P' a xs) : NkOk K P' a ks bs :=
  ⟨h.ne, h.len, h.le, h.nd, fun p hp => ⟨NkRep.mono e _ _ (h.at_ p hp).1, (h.at_ p hp).2⟩⟩
mutual
theorem Rep.mono {c : LC} {P H P' H' : Hp} (eP : Ex P P') : ∀ (d : D) (v : V) (S : FP), (∀ a o, 0 < S a → H a = some o → H' a = some o) → Rep c P H d v S → Rep c P' H' d v S
  | .gone, v, S, _, h => h
  | .non, v, S, _, h => h
  | .bl _, v, S, _, h => h
  | .int _, v, S, _, h => h
  | .str _, v, S, _, h => h
  | .scr ns, v, S, k, ⟨a, e, q, z⟩ => ⟨a, e, sql_mono eP q, z⟩
  | .kst ss, v, S, k, ⟨a, e, q, z⟩ => ⟨a, e, sqt_mono eP q, z⟩
  | .key ks, v, S, k, ⟨a, e, q, z⟩ => ⟨a, e, eP _ _ q, z⟩
  | .tup ds, v, S, k, ⟨a, xs, e, q, r⟩ => ⟨a, xs, e, sqt_mono eP q, RepL.mono eP ds xs S k r⟩
  | .lst true ds, v, S, k, ⟨a, xs, T, e, q, r, f⟩ => ⟨a, xs, T, e, k _ _ (by rw [f]; simp [fa, one]; omega) q, RepL.mono eP ds xs T (fun b o hb => k b o (by rw [f]; simp only [fa]; omega)) r, f⟩
  | .lst false ds, v, S, k, ⟨a, xs, e, q, r⟩ => ⟨a, xs, e, eP _ _ q, RepL.mono eP ds xs S k r⟩
  | .dK true ks ds, v, S, k, ⟨a, xs, T, e, q, n, r, f⟩ => ⟨a, xs, T, e, k _ _ (by rw [f]; simp [fa, one]; omega) q, n, RepL.mono eP ds xs T (fun b o hb => k b o (by rw [f]; simp only [fa]; omega)) r, f⟩
  | .dK false ks ds, v, S, k, ⟨a, xs, e, q, n, r⟩ => ⟨a, xs, e, eP _ _ q, n, RepL.mono eP ds xs S k r⟩
  | .dT true ks ds, v, S, k, ⟨a, xs, T, e, q, n, r, f⟩ => ⟨a, xs, T, e, k _ _ (by rw [f]; simp [fa, one]; omega) q, n, RepL.mono eP ds xs T (fun b o hb => k b o (by rw [f]; simp only [fa]; omega)) r, f⟩
  | .dT false ks ds, v, S, k, ⟨a, xs, e, q, n, r⟩ => ⟨a, xs, e, eP _ _ q, n, RepL.mono eP ds xs S k r⟩
  | .dN true ks ds, v, S, k, ⟨a, bs, xs, T, e, q, z, n, r, f⟩ => ⟨a, bs, xs, T, e, q.of fun o h => k a o (by rw [f]; simp [fa, one]; omega) h, z.mono fun _ _ => sqt_mono eP, n, RepL.mono eP ds xs T (fun b o hb => k b o (by rw [f]; simp only [fa]; omega)) r, f⟩
  | .dN false ks ds, v, S, k, ⟨a, bs, xs, e, q, z, n, r⟩ => ⟨a, bs, xs, e, q.of fun o h => eP a o h, z.mono fun _ _ => sqt_mono eP, n, RepL.mono eP ds xs S k r⟩
  | .obj true _ fs ds, v, S, k, ⟨a, dx, xs, T, e, q, n, r, f⟩ => ⟨a, dx, xs, T, e, k _ _ (by rw [f]; simp [fa, one]; omega) q, n, RepL.mono eP ds xs T (fun b o hb => k b o (by rw [f]; simp only [fa]; omega)) r, f⟩
  | .obj false _ fs ds, v, S, k, ⟨a, dx, xs, e, q, n, r⟩ => ⟨a, dx, xs, e, eP _ _ q, n, RepL.mono eP ds xs S k r⟩
theorem RepL.mono {c : LC} {P H P' H' : Hp} (eP : Ex P P') : ∀ (ds : List D) (xs : List V) (S : FP), (∀ a o, 0 < S a → H a = some o → H' a = some o) → RepL c P H ds xs S → RepL c P' H' ds xs S
  | [], xs, S, _, h => h
  | d :: ds, xs, S, k, ⟨y, ys, T, U, e, r, rs, f⟩ => ⟨y, ys, T, U, e, Rep.mono eP d y T (fun b o hb => k b o (by rw [f]; simp only [fa]; omega)) r, RepL.mono eP ds ys U (fun b o hb => k b o (by rw [f]; simp only [fa]; omega)) rs, f⟩
end
mutual
theorem Rep.frz0 {c : LC} {P H : Hp} : ∀ (d : D) (v : V) (S : FP), frz d = true → Rep c P H d v S → S = fz
  | .gone, v, S, _, h => h
  | .non, v, S, _, h => h.2
  | .bl _, v, S, _, h => h.2
  | .int _, v, S, _, h => h.2
  | .str _, v, S, _, h => h.2
  | .scr ns, v, S, k, ⟨a, e, q, z⟩ => z
  | .kst ss, v, S, k, ⟨a, e, q, z⟩ => z
  | .key ks, v, S, k, ⟨a, e, q, z⟩ => z
  | .tup ds, v, S, k, ⟨a, xs, e, q, r⟩ => RepL.frz0 ds xs S k r
  | .lst true ds, v, S, k, _ => by simp [frz] at k
  | .lst false ds, v, S, k, ⟨a, xs, e, q, r⟩ => RepL.frz0 ds xs S (by simpa [frz] using k) r
  | .dK true ks ds, v, S, k, _ => by simp [frz] at k
  | .dK false ks ds, v, S, k, ⟨a, xs, e, q, n, r⟩ => RepL.frz0 ds xs S (by simpa [frz] using k) r
  | .dT true ks ds, v, S, k, _ => by simp [frz] at k
  | .dT false ks ds, v, S, k, ⟨a, xs, e, q, n, r⟩ => RepL.frz0 ds xs S (by simpa [frz] using k) r
  | .dN true ks ds, v, S, k, _ => by simp [frz] at k
  | .dN false ks ds, v, S, k, ⟨a, bs, xs, e, q, z, n, r⟩ => RepL.frz0 ds xs S (by simpa [frz] using k) r
  | .obj true _ fs ds, v, S, k, _ => by simp [frz] at k
  | .obj false _ fs ds, v, S, k, ⟨a, dx, xs, e, q, n, r⟩ => RepL.frz0 ds xs S (by simpa [frz] using k) r
theorem RepL.frz0 {c : LC} {P H : Hp} : ∀ (ds : List D) (xs : List V) (S : FP), frzL ds = true → RepL c P H ds xs S → S = fz
  | [], xs, S, _, h => h.2
  | d :: ds, xs, S, k, ⟨y, ys, T, U, e, r, rs, f⟩ => by
    simp only [frzL, Bool.and_eq_true] at k
    rw [f, Rep.frz0 d y T k.1 r, RepL.frz0 ds ys U k.2 rs, fa_fz]
end
mutual
theorem Rep.ice {c : LC} {P H P' H' : Hp} (eP : Ex P P') : ∀ (d : D) (v : V) (S : FP), (∀ a o, 0 < S a → H a = some o → P' a = some o) → Rep c P H d v S → Rep c P' H' (ice d) v fz
  | .gone, v, S, _, h => rfl
  | .non, v, S, _, h => ⟨h.1, rfl⟩
  | .bl _, v, S, _, h => ⟨h.1, rfl⟩
  | .int _, v, S, _, h => ⟨h.1, rfl⟩
  | .str _, v, S, _, h => ⟨h.1, rfl⟩
  | .scr ns, v, S, k, ⟨a, e, q, z⟩ => ⟨a, e, sql_mono eP q, rfl⟩
  | .kst ss, v, S, k, ⟨a, e, q, z⟩ => ⟨a, e, sqt_mono eP q, rfl⟩
  | .key ks, v, S, k, ⟨a, e, q, z⟩ => ⟨a, e, eP _ _ q, rfl⟩
  | .tup ds, v, S, k, ⟨a, xs, e, q, r⟩ => ⟨a, xs, e, sqt_mono eP q, RepL.ice eP ds xs S k r⟩
  | .lst true ds, v, S, k, ⟨a, xs, T, e, q, r, f⟩ => ⟨a, xs, e, k _ _ (by rw [f]; simp [fa, one]; omega) q, RepL.ice eP ds xs T (fun b o hb => k b o (by rw [f]; simp only [fa]; omega)) r⟩
  | .lst false ds, v, S, k, ⟨a, xs, e, q, r⟩ => ⟨a, xs, e, eP _ _ q, RepL.ice eP ds xs S k r⟩
  | .dK true ks ds, v, S, k, ⟨a, xs, T, e, q, n, r, f⟩ => ⟨a, xs, e, k _ _ (by rw [f]; simp [fa, one]; omega) q, n, RepL.ice eP ds xs T (fun b o hb => k b o (by rw [f]; simp only [fa]; omega)) r⟩
  | .dK false ks ds, v, S, k, ⟨a, xs, e, q, n, r⟩ => ⟨a, xs, e, eP _ _ q, n, RepL.ice eP ds xs S k r⟩
  | .dT true ks ds, v, S, k, ⟨a, xs, T, e, q, n, r, f⟩ => ⟨a, xs, e, k _ _ (by rw [f]; simp [fa, one]; omega) q, n, RepL.ice eP ds xs T (fun b o hb => k b o (by rw [f]; simp only [fa]; omega)) r⟩
  | .dT false ks ds, v, S, k, ⟨a, xs, e, q, n, r⟩ => ⟨a, xs, e, eP _ _ q, n, RepL.ice eP ds xs S k r⟩
  | .dN true ks ds, v, S, k, ⟨a, bs, xs, T, e, q, z, n, r, f⟩ => ⟨a, bs, xs, e, q.of fun o h => k a o (by rw [f]; simp [fa, one]; omega) h, z.mono fun _ _ => sqt_mono eP, n, RepL.ice eP ds xs T (fun b o hb => k b o (by rw [f]; simp only [fa]; omega)) r⟩
  | .dN false ks ds, v, S, k, ⟨a, bs, xs, e, q, z, n, r⟩ => ⟨a, bs, xs, e, q.of fun o h => eP a o h, z.mono fun _ _ => sqt_mono eP, n, RepL.ice eP ds xs S k r⟩
  | .obj true _ fs ds, v, S, k, ⟨a, dx, xs, T, e, q, n, r, f⟩ => ⟨a, dx, xs, e, k _ _ (by rw [f]; simp [fa, one]; omega) q, n, RepL.ice eP ds xs T (fun b o hb => k b o (by rw [f]; simp only [fa]; omega)) r⟩
  | .obj false _ fs ds, v, S, k, ⟨a, dx, xs, e, q, n, r⟩ => ⟨a, dx, xs, e, eP _ _ q, n, RepL.ice eP ds xs S k r⟩
theorem RepL.ice {c : LC} {P H P' H' : Hp} (eP : Ex P P') : ∀ (ds : List D) (xs : List V) (S : FP), (∀ a o, 0 < S a → H a = some o → P' a = some o) → RepL c P H ds xs S → RepL c P' H' (iceL ds) xs fz
  | [], xs, S, _, h => ⟨h.1, rfl⟩
  | d :: ds, xs, S, k, ⟨y, ys, T, U, e, r, rs, f⟩ => ⟨y, ys, fz, fz, e, Rep.ice eP d y T (fun b o hb => k b o (by rw [f]; simp only [fa]; omega)) r, RepL.ice eP ds ys U (fun b o hb => k b o (by rw [f]; simp only [fa]; omega)) rs, (fa_fz fz).symm⟩
end
mutual
/-- what is owned stands in the heap -/
theorem Rep.there {c : LC} {P H : Hp} : ∀ (d : D) (v : V) (S : FP), Rep c P H d v S → ∀ a, 0 < S a → H a ≠ none
  | .gone, v, S, h => fun a p => by rw [show S = fz from h] at p; simp [fz] at p
  | .non, v, S, h => fun a p => by rw [h.2] at p; simp [fz] at p
  | .bl _, v, S, h => fun a p => by rw [h.2] at p; simp [fz] at p
  | .int _, v, S, h => fun a p => by rw [h.2] at p; simp [fz] at p
  | .str _, v, S, h => fun a p => by rw [h.2] at p; simp [fz] at p
  | .scr ns, v, S, ⟨a, e, q, z⟩ => fun b p => by rw [z] at p; simp [fz] at p
  | .kst ss, v, S, ⟨a, e, q, z⟩ => fun b p => by rw [z] at p; simp [fz] at p
  | .key ks, v, S, ⟨a, e, q, z⟩ => fun b p => by rw [z] at p; simp [fz] at p
  | .tup ds, v, S, ⟨a, xs, e, q, r⟩ => RepL.there ds xs S r
  | .lst true ds, v, S, ⟨a, xs, T, e, q, r, f⟩ => fun b p => by
    by_cases z : b = a
    · rw [z, q]; simp
    · exact RepL.there ds xs T r b (by rw [f] at p; simpa [fa, one, z] using p)
  | .lst false ds, v, S, ⟨a, xs, e, q, r⟩ => RepL.there ds xs S r
  | .dK true ks ds, v, S, ⟨a, xs, T, e, q, n, r, f⟩ => fun b p => by
    by_cases z : b = a
    · rw [z, q]; simp
    · exact RepL.there ds xs T r b (by rw [f] at p; simpa [fa, one, z] using p)
  | .dK false ks ds, v, S, ⟨a, xs, e, q, n, r⟩ => RepL.there ds xs S r
  | .dT true ks ds, v, S, ⟨a, xs, T, e, q, n, r, f⟩ => fun b p => by
    by_cases z : b = a
    · rw [z, q]; simp
    · exact RepL.there ds xs T r b (by rw [f] at p; simpa [fa, one, z] using p)
  | .dT false ks ds, v, S, ⟨a, xs, e, q, n, r⟩ => RepL.there ds xs S r
  | .dN true ks ds, v, S, ⟨a, bs, xs, T, e, q, _, n, r, f⟩ => fun b p => by
    by_cases z : b = a
    · obtain ⟨_, q, _⟩ := q; rw [z, q]; simp
    · exact RepL.there ds xs T r b (by rw [f] at p; simpa [fa, one, z] using p)
  | .dN false ks ds, v, S, ⟨a, bs, xs, e, q, _, n, r⟩ => RepL.there ds xs S r
  | .obj true _ fs ds, v, S, ⟨a, dx, xs, T, e, q, n, r, f⟩ => fun b p => by
    by_cases z : b = a
    · rw [z, q]; simp
    · exact RepL.there ds xs T r b (by rw [f] at p; simpa [fa, one, z] using p)
  | .obj false _ fs ds, v, S, ⟨a, dx, xs, e, q, n, r⟩ => RepL.there ds xs S r
theorem RepL.there {c : LC} {P H : Hp} : ∀ (ds : List D) (xs : List V) (S : FP), RepL c P H ds xs S → ∀ a, 0 < S a → H a ≠ none
  | [], xs, S, h => fun a p => by rw [h.2] at p; simp [fz] at p
  | d :: ds, xs, S, ⟨y, ys, T, U, e, r, rs, f⟩ => fun a p => by
    rw [f] at p
    by_cases z : 0 < T a
    · exact Rep.there d y T r a z
    · exact RepL.there ds ys U rs a (by simp only [fa] at p; omega)
end
def notTup : HO → Bool
  | .lst _ => true
  | .dK _ => true
  | .dT _ => true
  | .ins .. => true
  | .ext _ => true
  | _ => false
mutual
/-- what is owned is no tuple -/
theorem Rep.nt {c : LC} {P H : Hp} : ∀ (d : D) (v : V) (S : FP), Rep c P H d v S → ∀ a, 0 < S a → ∃ o, H a = some o ∧ notTup o = true
  | .gone, v, S, h => fun a p => by rw [show S = fz from h] at p; simp [fz] at p
  | .non, v, S, h => fun a p => by rw [h.2] at p; simp [fz] at p
  | .bl _, v, S, h => fun a p => by rw [h.2] at p; simp [fz] at p
  | .int _, v, S, h => fun a p => by rw [h.2] at p; simp [fz] at p
  | .str _, v, S, h => fun a p => by rw [h.2] at p; simp [fz] at p
  | .scr ns, v, S, ⟨a, e, q, z⟩ => fun b p => by rw [z] at p; simp [fz] at p
  | .kst ss, v, S, ⟨a, e, q, z⟩ => fun b p => by rw [z] at p; simp [fz] at p
  | .key ks, v, S, ⟨a, e, q, z⟩ => fun b p => by rw [z] at p; simp [fz] at p
  | .tup ds, v, S, ⟨a, xs, e, q, r⟩ => RepL.nt ds xs S r
  | .lst true ds, v, S, ⟨a, xs, T, e, q, r, f⟩ => fun b p => by
    by_cases z : b = a
    · rw [z]; exact ⟨_, q, rfl⟩
    · exact RepL.nt ds xs T r b (by rw [f] at p; simpa [fa, one, z] using p)
  | .lst false ds, v, S, ⟨a, xs, e, q, r⟩ => RepL.nt ds xs S r
  | .dK true ks ds, v, S, ⟨a, xs, T, e, q, n, r, f⟩ => fun b p => by
    by_cases z : b = a
    · rw [z]; exact ⟨_, q, rfl⟩
    · exact RepL.nt ds xs T r b (by rw [f] at p; simpa [fa, one, z] using p)
  | .dK false ks ds, v, S, ⟨a, xs, e, q, n, r⟩ => RepL.nt ds xs S r
  | .dT true ks ds, v, S, ⟨a, xs, T, e, q, n, r, f⟩ => fun b p => by
    by_cases z : b = a
    · rw [z]; exact ⟨_, q, rfl⟩
    · exact RepL.nt ds xs T r b (by rw [f] at p; simpa [fa, one, z] using p)
  | .dT false ks ds, v, S, ⟨a, xs, e, q, n, r⟩ => RepL.nt ds xs S r
  | .dN true ks ds, v, S, ⟨a, bs, xs, T, e, q, _, n, r, f⟩ => fun b p => by
    by_cases z : b = a
    · obtain ⟨_, q, _⟩ := q; rw [z]; exact ⟨_, q, rfl⟩
    · exact RepL.nt ds xs T r b (by rw [f] at p; simpa [fa, one, z] using p)
  | .dN false ks ds, v, S, ⟨a, bs, xs, e, q, _, n, r⟩ => RepL.nt ds xs S r
  | .obj true _ fs ds, v, S, ⟨a, dx, xs, T, e, q, n, r, f⟩ => fun b p => by
    by_cases z : b = a
    · rw [z]; exact ⟨_, q, rfl⟩
    · exact RepL.nt ds xs T r b (by rw [f] at p; simpa [fa, one, z] using p)
  | .obj false _ fs ds, v, S, ⟨a, dx, xs, e, q, n, r⟩ => RepL.nt ds xs S r
theorem RepL.nt {c : LC} {P H : Hp} : ∀ (ds : List D) (xs : List V) (S : FP), RepL c P H ds xs S → ∀ a, 0 < S a → ∃ o, H a = some o ∧ notTup o = true
  | [], xs, S, h => fun a p => by rw [h.2] at p; simp [fz] at p
  | d :: ds, xs, S, ⟨y, ys, T, U, e, r, rs, f⟩ => fun a p => by
    rw [f] at p
    by_cases z : 0 < T a
    · exact Rep.nt d y T r a z
    · exact RepL.nt ds ys U rs a (by simp only [fa] at p; omega)
end
theorem sqt_thaw {K : PySem.W.Frag} {H H' : Hp} {a : Addr} {xs : List V} (e : ∀ b o, H b = some o → notTup o = false → H' b = some o) (h : SqT K H a xs) : SqT K H' a xs := by
  rcases h with (h | ⟨o, h⟩) | h
  · exact .inl (.inl (e _ _ h rfl))
  · exact .inl (.inr ⟨o, e _ _ h rfl⟩)
  · exact .inr h
mutual
/-- what holds no frozen list asks of the frozen things for the tuples alone -/
theorem Rep.thaw {c : LC} {P P' H : Hp} (e : ∀ b o, P b = some o → notTup o = false → P' b = some o) : ∀ (d : D) (v : V) (S : FP), noIce d = true → Rep c P H d v S → Rep c P' H d v S
  | .gone, v, S, _, h => h
  | .non, v, S, _, h => h
  | .bl _, v, S, _, h => h
  | .int _, v, S, _, h => h
  | .str _, v, S, _, h => h
  | .scr ns, v, S, n, _ => by simp [noIce] at n
  | .kst ss, v, S, _, ⟨a, e1, q, z⟩ => ⟨a, e1, sqt_thaw e q, z⟩
  | .key ks, v, S, _, ⟨a, e1, q, z⟩ => ⟨a, e1, e _ _ q rfl, z⟩
  | .tup ds, v, S, n, ⟨a, xs, e1, q, r⟩ => ⟨a, xs, e1, sqt_thaw e q, RepL.thaw e ds xs S (by simpa [noIce] using n) r⟩
  | .lst true ds, v, S, n, ⟨a, xs, T, e1, q, r, f⟩ => ⟨a, xs, T, e1, q, RepL.thaw e ds xs T (by simpa [noIce] using n) r, f⟩
  | .lst false ds, v, S, n, _ => by simp [noIce] at n
  | .dK true ks ds, v, S, n, ⟨a, xs, T, e1, q, l, r, f⟩ => ⟨a, xs, T, e1, q, l, RepL.thaw e ds xs T (by simpa [noIce] using n) r, f⟩
  | .dK false ks ds, v, S, n, _ => by simp [noIce] at n
  | .dT true ks ds, v, S, n, ⟨a, xs, T, e1, q, l, r, f⟩ => ⟨a, xs, T, e1, q, l, RepL.thaw e ds xs T (by simpa [noIce] using n) r, f⟩
  | .dT false ks ds, v, S, n, _ => by simp [noIce] at n
  | .dN true ks ds, v, S, n, ⟨a, bs, xs, T, e1, q, z, l, r, f⟩ => ⟨a, bs, xs, T, e1, q, z.mono fun _ _ => sqt_thaw e, l, RepL.thaw e ds xs T (by simpa [noIce] using n) r, f⟩
  | .dN false ks ds, v, S, n, _ => by simp [noIce] at n
  | .obj true _ fs ds, v, S, n, ⟨a, dx, xs, T, e1, q, l, r, f⟩ => ⟨a, dx, xs, T, e1, q, l, RepL.thaw e ds xs T (by simpa [noIce] using n) r, f⟩
  | .obj false _ fs ds, v, S, n, _ => by simp [noIce] at n
theorem RepL.thaw {c : LC} {P P' H : Hp} (e : ∀ b o, P b = some o → notTup o = false → P' b = some o) : ∀ (ds : List D) (xs : List V) (S : FP), noIceL ds = true → RepL c P H ds xs S → RepL c P' H ds xs S
  | [], xs, S, _, h => h
  | d :: ds, xs, S, n, ⟨y, ys, T, U, e1, r, rs, f⟩ => by
    rw [noIceL, Bool.and_eq_true] at n
    exact ⟨y, ys, T, U, e1, Rep.thaw e d y T n.1 r, RepL.thaw e ds ys U n.2 rs, f⟩
end
end LI

namespace LI
open PySem L2

structure En where
  P0 : Hp
  H0 : Hp
  S0 : FP
  kp : List Bool
  vs : List V
  hv : ∀ i : Nat, kp[i]? = some true → ∃ v, vs[i]? = some v
  xw : WX

def RepO (c : LC) (P H : Hp) (d : D) : Option V → FP → Prop
  | some v, T => Rep c P H d v T
  | none, T => d = .gone ∧ T = fz
def RepE (c : LC) (P H : Hp) : List D → St → FP → Prop
  | [], [], S => S = fz
  | d :: ds, ov :: σ, S => ∃ T U, RepO c P H d ov T ∧ RepE c P H ds σ U ∧ S = fa T U
  | _, _, _ => False

structure Wd (c : LC) (E : En) (P : Hp) (S T : FP) (σ : St) (H : Hp) (ρ : List D) : Prop where
  env : RepE c P H ρ σ S
  le : ∀ a, S a + T a ≤ 1
  out : ∀ a, 0 < S a + T a → P a = none
  th : ∀ a, 0 < T a → H a ≠ none
  ph : Ex P H
  p0 : Ex E.P0 P
  fr : ∀ a o, E.S0 a = 0 → E.H0 a = some o → H a = some o
  np : ∀ a, P a ≠ none → E.P0 a ≠ none ∨ 0 < E.S0 a ∨ E.H0 a = none
  ns : ∀ a, 0 < S a + T a → 0 < E.S0 a ∨ E.H0 a = none
  kp : ∀ (i : Nat) (v : V), E.kp[i]? = some true → E.vs[i]? = some v → σ[i]? = some (some v)

structure Gr (P H P' H' : Hp) : Prop where
  p : Ex P P'
  h : Ex H H'
  ph : Ex P' H'
  new : ∀ a, P' a ≠ none → P a ≠ none ∨ H a = none
theorem Gr.refl {P H : Hp} (e : Ex P H) : Gr P H P H := ⟨.refl _, .refl _, e, fun _ h => .inl h⟩
theorem Gr.trans {P H P1 H1 P2 H2 : Hp} (a : Gr P H P1 H1) (b : Gr P1 H1 P2 H2) : Gr P H P2 H2 :=
  ⟨a.p.trans b.p, a.h.trans b.h, b.ph, fun x h => by
    rcases b.new x h with q | q
    · exact a.new x q
    · cases z : H x with
      | none => exact .inr rfl
      | some o => rw [a.h x o z] at q; cases q⟩

theorem RepO.mono {c : LC} {P H P' H' : Hp} (eP : Ex P P') {d : D} {v : Option V} {S : FP} (k : ∀ a o, 0 < S a → H a = some o → H' a = some o) (h : RepO c P H d v S) : RepO c P' H' d v S := by
  cases v with
  | none => exact h
  | some v => exact Rep.mono eP d v S k h
theorem RepE.mono {c : LC} {P H P' H' : Hp} (eP : Ex P P') : ∀ (ρ : List D) (σ : St) (S : FP), (∀ a o, 0 < S a → H a = some o → H' a = some o) → RepE c P H ρ σ S → RepE c P' H' ρ σ S
  | [], [], S, _, h => h
  | d :: ds, v :: σ, S, k, ⟨T, U, r, rs, f⟩ => ⟨T, U, RepO.mono eP (fun b o hb => k b o (by rw [f]; simp only [fa]; omega)) r, RepE.mono eP ds σ U (fun b o hb => k b o (by rw [f]; simp only [fa]; omega)) rs, f⟩
  | [], _ :: _, _, _, h => h.elim
  | _ :: _, [], _, _, h => h.elim
theorem RepO.there {c : LC} {P H : Hp} {d : D} {v : Option V} {S : FP} (h : RepO c P H d v S) : ∀ a, 0 < S a → H a ≠ none := by
  cases v with
  | none => intro a p; rw [h.2] at p; simp [fz] at p
  | some v => exact Rep.there d v S h
theorem RepE.there {c : LC} {P H : Hp} : ∀ (ρ : List D) (σ : St) (S : FP), RepE c P H ρ σ S → ∀ a, 0 < S a → H a ≠ none
  | [], [], S, h => fun a p => by rw [show S = fz from h] at p; simp [fz] at p
  | d :: ds, v :: σ, S, ⟨T, U, r, rs, f⟩ => fun a p => by
    rw [f] at p
    by_cases z : 0 < T a
    · exact r.there a z
    · exact RepE.there ds σ U rs a (by simp only [fa] at p; omega)
  | [], _ :: _, _, h => h.elim
  | _ :: _, [], _, h => h.elim
theorem RepE.len {c : LC} {P H : Hp} : ∀ (ρ : List D) (σ : St) (S : FP), RepE c P H ρ σ S → ρ.length = σ.length
  | [], [], _, _ => rfl
  | _ :: ds, _ :: σ, _, ⟨_, U, _, rs, _⟩ => by simp [RepE.len ds σ U rs]
  | [], _ :: _, _, h => h.elim
  | _ :: _, [], _, h => h.elim

section
variable {c : LC} {E : En} {P P' : Hp} {S T : FP} {σ : St} {H H' : Hp} {ρ : List D}
theorem Wd.grow (w : Wd c E P S T σ H ρ) (g : Gr P H P' H') : Wd c E P' S T σ H' ρ where
  env := w.env.mono g.p ρ σ S (fun a o _ h => g.h a o h)
  le := w.le
  out := fun a h => by
    cases z : P' a with
    | none => rfl
    | some o =>
      rcases g.new a (by rw [z]; simp) with q | q
      · exact absurd (w.out a h) q
      · by_cases hT : 0 < T a
        · exact absurd q (w.th a hT)
        · exact absurd q (RepE.there ρ σ S w.env a (by omega))
  th := fun a h z => by
    cases q : H a with
    | none => exact w.th a h q
    | some o => rw [g.h a o q] at z; cases z
  ph := g.ph
  p0 := w.p0.trans g.p
  fr := fun a o h1 h2 => g.h a o (w.fr a o h1 h2)
  np := fun a h => by
    rcases g.new a h with q | q
    · exact w.np a q
    · cases z : E.H0 a with
      | none => exact .inr (.inr rfl)
      | some o =>
        by_cases hs : E.S0 a = 0
        · rw [w.fr a o hs z] at q; cases q
        · exact .inr (.inl (by omega))
  ns := w.ns
  kp := w.kp
theorem Wd.aside (w : Wd c E P S T σ H ρ) (g : Gr P H P' H') {U : FP} (h1 : ∀ a, U a ≤ 1) (h2 : ∀ a, 0 < U a → H a = none ∧ P' a = none) (h3 : ∀ a, 0 < U a → H' a ≠ none) : Wd c E P' S (fa T U) σ H' ρ := by
  have w' := w.grow g
  have hS : ∀ a, 0 < U a → S a = 0 ∧ T a = 0 := fun a h => by
    have n := (h2 a h).1
    refine ⟨?_, ?_⟩
    · rcases Nat.eq_zero_or_pos (S a) with z | z
      · exact z
      · exact absurd n (RepE.there ρ σ S w.env a z)
    · rcases Nat.eq_zero_or_pos (T a) with z | z
      · exact z
      · exact absurd n (w.th a z)
  refine ⟨w'.env, fun a => ?_, fun a h => ?_, fun a h => ?_, w'.ph, w'.p0, w'.fr, w'.np, fun a h => ?_, w'.kp⟩
  · by_cases z : 0 < U a
    · have := hS a z; have := h1 a; simp only [fa]; omega
    · have := w.le a; simp only [fa]; omega
  · by_cases z : 0 < U a
    · exact (h2 a z).2
    · exact w'.out a (by simp only [fa] at h; omega)
  · by_cases z : 0 < U a
    · exact h3 a z
    · exact w'.th a (by simp only [fa] at h; omega)
  · by_cases z : 0 < U a
    · have n := (h2 a z).1
      cases q : E.H0 a with
      | none => exact .inr rfl
      | some o =>
        by_cases hs : E.S0 a = 0
        · rw [w.fr a o hs q] at n; cases n
        · exact .inl (by omega)
    · exact w'.ns a (by simp only [fa] at h; omega)
end

abbrev RM := List D → Option D
abbrev GM := List D → Option (D × List D)
abbrev BM := List D → Option Bool
abbrev BGM := List D → Option (Bool × List D)
def RQ (c : LC) (P H : Hp) (d : D) (Q : VK) : Prop := ∀ v H' P' U, Gr P H P' H' → Rep c P' H' d v U → Q v H'
def FQ (c : LC) (P H : Hp) (d : D) (Q : VK) : Prop := ∀ v H' P' U, Gr P H P' H' → Rep c P' H' d v U → (∀ a, U a ≤ 1) → (∀ a, 0 < U a → H a = none ∧ P' a = none) → Q v H'
def tR (c : LC) (E : En) (m : RM) : TE := fun σ H Q => ∃ P S T ρ d, Wd c E P S T σ H ρ ∧ m ρ = some d ∧ RQ c P H d Q
def tF (c : LC) (E : En) (m : RM) : TE := fun σ H Q => ∃ P S T ρ d, Wd c E P S T σ H ρ ∧ m ρ = some d ∧ FQ c P H d Q
def tG (c : LC) (E : En) (m : GM) : TE := fun σ H Q => ∃ P S T ρ d ρ', Wd c E P S T σ H ρ ∧ m ρ = some (d, ρ') ∧
  ∀ v H' P' S' U, Wd c E P' S' (fa T U) σ H' ρ' → Ex P P' → Rep c P' H' d v U → (∀ a o, 0 < T a → H a = some o → H' a = some o) → Q v H'
def tT (c : LC) (E : En) (m : BM) : TT := fun σ H Q => ∃ P S T ρ b, Wd c E P S T σ H ρ ∧ m ρ = some b ∧ ∀ H' P', Gr P H P' H' → Q b H'
def tTG (c : LC) (E : En) (m : BGM) : TT := fun σ H Q => ∃ P S T ρ b ρ', Wd c E P S T σ H ρ ∧ m ρ = some (b, ρ') ∧
  ∀ H' P' S', Wd c E P' S' T σ H' ρ' → Ex P P' → (∀ a o, 0 < T a → H a = some o → H' a = some o) → Q b H'

theorem PE_imp {X : Cx} {e : Expr} {t t' : TE} (h : PE X e t) (k : ∀ σ H Q, t' σ H Q → t σ H Q) : PE X e t' := ⟨fun pins s σ H Q I q => h.run pins s σ H Q I (k σ H Q q)⟩
theorem PT_imp {X : Cx} {e : Expr} {t t' : TT} (h : PT X e t) (k : ∀ σ H Q, t' σ H Q → t σ H Q) : PT X e t' := ⟨fun pins s σ H Q I q => h.run pins s σ H Q I (k σ H Q q)⟩
theorem PW_imp {X : Cx} {e : Expr} {t t' : TT} (h : PW X e t) (k : ∀ σ H Q, t' σ H Q → t σ H Q) : PW X e t' := ⟨fun whole pins s σ H Q I q => h.run whole pins s σ H Q I (k σ H Q q)⟩
theorem PA_imp {X : Cx} {e : List Expr} {t t' : TA} (h : PA X e t) (k : ∀ σ H Q, t' σ H Q → t σ H Q) : PA X e t' := ⟨fun pos pins s σ H Q I q => h.run pos pins s σ H Q I (k σ H Q q)⟩
theorem PS_imp {X : Cx} {e : Stmt} {t t' : TS} (h : PS X e t) (k : ∀ D σ H, t' D σ H → t D σ H) : PS X e t' := ⟨fun pins s σ H D I q => h.run pins s σ H D I (k D σ H q)⟩
theorem PSs_imp {X : Cx} {e : List Stmt} {t t' : TS} (h : PSs X e t) (k : ∀ D σ H, t' D σ H → t D σ H) : PSs X e t' := ⟨fun pins s σ H D I q => h.run pins s σ H D I (k D σ H q)⟩

section
variable {c : LC} {E : En} {P P' : Hp} {S T : FP} {σ : St} {H H' : Hp} {ρ : List D} {X : Cx} {e : Expr} {m : RM}
theorem FQ.of_R {d : D} {Q : VK} (h : RQ c P H d Q) : FQ c P H d Q := fun v H' P' U g r _ _ => h v H' P' U g r
theorem FQ.flat {d : D} {v : V} {Q : VK} (h : FQ c P H d Q) (e : Ex P H) (r : Rep c P H d v fz) : Q v H :=
  h v H P fz (.refl e) r (fun _ => Nat.zero_le _) fun a p => by simp [fz] at p
theorem r_f (h : PE X e (tF c E m)) : PE X e (tR c E m) := PE_imp h fun σ H Q ⟨P, S, T, ρ, d, w, hm, q⟩ => ⟨P, S, T, ρ, d, w, hm, .of_R q⟩
def upF (m : RM) : GM := fun ρ => (m ρ).map fun d => (d, ρ)
def upR (m : RM) : GM := fun ρ => (m ρ).bind fun d => if frz d = true then some (d, ρ) else none
theorem g_f (h : PE X e (tF c E m)) : PE X e (tG c E (upF m)) := PE_imp h fun σ H Q ⟨P, S, T, ρ, d, ρ', w, hm, q⟩ => by
  unfold upF at hm
  cases hd : m ρ with
  | none => rw [hd] at hm; cases hm
  | some d1 =>
    rw [hd] at hm
    cases hm
    exact ⟨P, S, T, ρ, d, w, hd, fun v H' P' U g r u1 u2 => q v H' P' S U (w.aside g u1 u2 (Rep.there d v U r)) g.p r fun a o _ h => g.h a o h⟩
theorem g_r (h : PE X e (tR c E m)) : PE X e (tG c E (upR m)) := PE_imp h fun σ H Q ⟨P, S, T, ρ, d, ρ', w, hm, q⟩ => by
  unfold upR at hm
  cases hd : m ρ with
  | none => rw [hd] at hm; cases hm
  | some d1 =>
    rw [hd] at hm
    simp only [Option.bind_some] at hm
    split at hm
    · rename_i hf
      cases hm
      refine ⟨P, S, T, ρ, d, w, hd, fun v H' P' U g r => ?_⟩
      have e := Rep.frz0 d v U hf r
      subst e
      exact q v H' P' S fz (w.aside g (fun _ => Nat.zero_le _) (fun a p => by simp [fz] at p) (fun a p => by simp [fz] at p)) g.p r fun a o _ h => g.h a o h
    · cases hm
def coldM (m : RM) : RM := fun ρ => (m ρ).map ice
theorem f_cold (h : PE X e (tF c E m)) : PE X e (tF c E (coldM m)) := PE_imp h fun σ H Q ⟨P, S, T, ρ, d, w, hm, q⟩ => by
  unfold coldM at hm
  cases hd : m ρ with
  | none => rw [hd] at hm; cases hm
  | some d1 =>
    rw [hd] at hm
    cases hm
    refine ⟨P, S, T, ρ, d1, w, hd, fun v H' P' U g r u1 u2 => ?_⟩
    have r2 : Rep c (fun a => if 0 < U a then H' a else P' a) H' (ice d1) v fz := Rep.ice (fun a o z => by
        by_cases hu : 0 < U a
        · rw [(u2 a hu).2] at z; cases z
        · simp [hu, z]) d1 v U (fun a o hu hh => by simp [hu, hh]) r
    refine q v H' _ fz ⟨fun a o z => ?_, g.h, fun a o z => ?_, fun a z => ?_⟩ r2 (fun _ => Nat.zero_le _) (fun a p => by simp [fz] at p)
    · by_cases hu : 0 < U a
      · have := (u2 a hu).2; rw [g.p a o z] at this; cases this
      · simp [hu, g.p a o z]
    · by_cases hu : 0 < U a
      · simpa [hu] using z
      · exact g.ph a o (by simpa [hu] using z)
    · by_cases hu : 0 < U a
      · exact .inr (u2 a hu).1
      · exact g.new a (by simpa [hu] using z)
end
end LI

namespace LI
open PySem L2

def LIM : Nat := 4000000
theorem lim_le {n : Nat} (h : n ≤ LIM) : n ≤ sizeLine := Nat.le_trans h (by decide)
theorem lim_lt {n : Nat} (h : n < LIM) : n < sizeLine := Nat.lt_of_lt_of_le h (by decide)

theorem RepL.length {c : LC} {P H : Hp} : ∀ {ds : List D} {xs : List V} {S : FP}, RepL c P H ds xs S → ds.length = xs.length
  | [], xs, S, h => by rw [h.1]; rfl
  | d :: ds, xs, S, ⟨y, ys, T, U, e, _, rs, _⟩ => by rw [e]; simp [RepL.length rs]
theorem RepL.append {c : LC} {P H : Hp} : ∀ {ds es : List D} {xs ys : List V} {S T : FP}, RepL c P H ds xs S → RepL c P H es ys T → RepL c P H (ds ++ es) (xs ++ ys) (fa S T)
  | [], es, xs, ys, S, T, h, k => by rw [h.1, h.2, fz_fa]; exact k
  | d :: ds, es, xs, ys, S, T, ⟨y, zs, A, B, e, r, rs, f⟩, k => by
    rw [e, f]
    exact ⟨y, zs ++ ys, A, fa B T, rfl, r, RepL.append rs k, by funext a; simp only [fa]; omega⟩
theorem RepL.get {c : LC} {P H : Hp} : ∀ {ds : List D} {xs : List V} {S : FP} {i : Nat} {d : D}, RepL c P H ds xs S → ds[i]? = some d → ∃ x T, xs[i]? = some x ∧ Rep c P H d x T ∧ ∀ a, T a ≤ S a
  | [], xs, S, i, d, h, e => by simp at e
  | d0 :: ds, xs, S, 0, d, ⟨y, zs, A, B, e, r, rs, f⟩, q => by
    simp at q; subst q
    exact ⟨y, A, by rw [e]; rfl, r, fun a => by rw [f]; simp only [fa]; omega⟩
  | d0 :: ds, xs, S, i + 1, d, ⟨y, zs, A, B, e, r, rs, f⟩, q => by
    obtain ⟨x, T, h1, h2, h3⟩ := RepL.get (i := i) (d := d) rs (by simpa using q)
    exact ⟨x, T, by rw [e]; simpa using h1, h2, fun a => by have := h3 a; rw [f]; simp only [fa]; omega⟩
theorem frzL_iff : ∀ {ds : List D}, frzL ds = true ↔ ∀ d ∈ ds, frz d = true
  | [] => by simp [frzL]
  | d :: ds => by simp [frzL, frzL_iff (ds := ds)]
theorem RepL.drop {c : LC} {P H : Hp} : ∀ {ds : List D} {xs : List V} (n : Nat), RepL c P H ds xs fz → RepL c P H (ds.drop n) (xs.drop n) fz
  | ds, xs, 0, h => h
  | [], xs, n + 1, h => by rw [h.1]; exact ⟨rfl, rfl⟩
  | d :: ds, xs, n + 1, ⟨y, zs, A, B, e, r, rs, f⟩ => by
    have hB : B = fz := by
      funext a
      have := congrFun f a
      simp only [fa, fz] at this ⊢
      omega
    subst hB
    rw [e]
    exact RepL.drop n rs
theorem RepL.take {c : LC} {P H : Hp} : ∀ {ds : List D} {xs : List V} (n : Nat), RepL c P H ds xs fz → RepL c P H (ds.take n) (xs.take n) fz
  | ds, xs, 0, h => ⟨rfl, rfl⟩
  | [], xs, n + 1, h => by rw [h.1]; exact ⟨rfl, rfl⟩
  | d :: ds, xs, n + 1, ⟨y, zs, A, B, e, r, rs, f⟩ => by
    have hB : A = fz ∧ B = fz := by
      refine ⟨?_, ?_⟩ <;> funext a <;> (have := congrFun f a; simp only [fa, fz] at this ⊢; omega)
    obtain ⟨rfl, rfl⟩ := hB
    rw [e]
    exact ⟨y, zs.take n, fz, fz, rfl, r, RepL.take n rs, (fa_fz fz).symm⟩
theorem RepL.rep {c : LC} {P H : Hp} {ds : List D} {xs : List V} (h : RepL c P H ds xs fz) : ∀ n : Nat, RepL c P H (List.replicate n ds).flatten (List.replicate n xs).flatten fz
  | 0 => ⟨rfl, rfl⟩
  | n + 1 => by
    have := RepL.append h (RepL.rep h n)
    rw [fa_fz] at this
    simpa [List.replicate_succ] using this

section
variable {c : LC} {P H : Hp} {Q : VK}
theorem none_of {a : Addr} (e : Ex P H) (h : H a = none) : P a = none := by
  cases z : P a with
  | none => rfl
  | some o => rw [e a o z] at h; cases h
theorem ex_new {p : Addr} {o : HO} (h : H p = none) : Ex H (upd H p o) := fun a u e => by
  rw [upd_ne (ne_of_none e h)]; exact e
theorem one_le {p : Addr} : ∀ a, one p a ≤ 1 := fun a => by unfold one; split <;> omega
theorem one_pos {p a : Addr} (h : 0 < one p a) : a = p := by unfold one at h; split at h <;> first | assumption | omega
theorem FQ.lst {ds : List D} {xs : List V} (h : FQ c P H (.lst true ds) Q) (e : Ex P H) (r : RepL c P H ds xs fz) : ∀ p, H p = none → Q (.ref p) (upd H p (.lst xs)) := fun p hp => by
  refine h _ _ P (one p) ⟨.refl _, ex_new hp, e.trans (ex_new hp), fun _ z => .inl z⟩ ⟨p, xs, fz, rfl, upd_same, RepL.mono (.refl _) ds xs fz (fun a o z _ => by simp [fz] at z) r, (fa_fz _).symm⟩ one_le fun a z => ?_
  rw [one_pos z]
  exact ⟨hp, none_of e hp⟩
theorem FQ.tup {ds : List D} {xs : List V} (h : FQ c P H (.tup ds) Q) (e : Ex P H) (r : RepL c P H ds xs fz) : ∀ p, H p = none → Q (.ref p) (upd H p (.tup xs)) := fun p hp => by
  have hP := none_of e hp
  refine h _ _ (upd P p (.tup xs)) fz ⟨ex_new hP, ex_new hp, fun a o z => ?_, fun a z => ?_⟩ ⟨p, xs, rfl, .inl (.inl upd_same), RepL.mono (ex_new hP) ds xs fz (fun a o z _ => by simp [fz] at z) r⟩ (fun _ => Nat.zero_le _) (fun a z => by simp [fz] at z)
  · by_cases q : a = p
    · subst q; rw [upd_same] at z ⊢; exact z
    · rw [upd_ne q] at z ⊢; exact e a o z
  · by_cases q : a = p
    · subst q; exact .inr hp
    · rw [upd_ne q] at z; exact .inl z
theorem FQ.grow {P2 H2 : Hp} {d : D} (h : FQ c P H d Q) (g : Gr P H P2 H2) : FQ c P2 H2 d Q := fun v H' P' U g2 r u1 u2 => h v H' P' U (g.trans g2) r u1 fun a z => by
  obtain ⟨n1, n2⟩ := u2 a z
  refine ⟨?_, n2⟩
  cases q : H a with
  | none => rfl
  | some o => rw [g.h a o q] at n1; cases n1
theorem Rep.gr {P2 H2 : Hp} {d : D} {v : V} {S : FP} (r : Rep c P H d v S) (g : Gr P H P2 H2) : Rep c P2 H2 d v S := Rep.mono g.p d v S (fun a o _ h => g.h a o h) r
theorem RepL.gr {P2 H2 : Hp} {d : List D} {v : List V} {S : FP} (r : RepL c P H d v S) (g : Gr P H P2 H2) : RepL c P2 H2 d v S := RepL.mono g.p d v S (fun a o _ h => g.h a o h) r
end

def m2 (f : D → D → Option D) (ma mb : RM) : RM := fun ρ => (ma ρ).bind fun x => (mb ρ).bind fun y => f x y
def m1 (f : D → Option D) (ma : RM) : RM := fun ρ => (ma ρ).bind f
def Op2 (c : LC) (r : R2) (f : D → D → Option D) : Prop := ∀ (P H : Hp), Ex P H → ∀ da db d x y U1 U2, f da db = some d → Rep c P H da x U1 → Rep c P H db y U2 → ∀ Q, FQ c P H d Q → r x y H Q
section
variable {X : Cx} {cl : Nat → Addr} {E : En} {a b : Expr} {pos : Pos} {ma mb : RM} {r : R2} {f : D → D → Option D}
theorem op2_run (hf : Op2 ⟨X.K, cl, X.w⟩ r f) {σ : L2.St} {H : Hp} {Q : VK} (h : tF ⟨X.K, cl, X.w⟩ E (m2 f ma mb) σ H Q) : tOp r (tR ⟨X.K, cl, X.w⟩ E ma) (tR ⟨X.K, cl, X.w⟩ E mb) σ H Q := by
  obtain ⟨P, S, T, ρ, d, w, hm, q⟩ := h
  unfold m2 at hm
  cases ea : ma ρ with
  | none => rw [ea] at hm; cases hm
  | some da =>
    cases eb : mb ρ with
    | none => rw [ea, eb] at hm; cases hm
    | some db =>
      rw [ea, eb] at hm
      refine ⟨P, S, T, ρ, da, w, ea, fun x H1 P1 U1 g1 r1 => ⟨P1, S, T, ρ, db, w.grow g1, eb, fun y H2 P2 U2 g2 r2 => ?_⟩⟩
      exact hf P2 H2 g2.ph _ _ _ _ _ _ _ hm (r1.gr g2) r2 Q (q.grow (g1.trans g2))
theorem f_bin {op : Operator} (ho : OpR X (binaryOp op) r) (hf : Op2 ⟨X.K, cl, X.w⟩ r f) (ha : PE X a (tR ⟨X.K, cl, X.w⟩ E ma)) (hb : PE X b (tR ⟨X.K, cl, X.w⟩ E mb)) : PE X (.BinOp a op b pos) (tF ⟨X.K, cl, X.w⟩ E (m2 f ma mb)) :=
  PE_imp (pe_op ho ha hb) fun _ _ _ h => op2_run hf h
def bM (m : RM) : BM := fun ρ => (m ρ).bind fun d => match d with | .bl b => some b | _ => none
theorem bM_some {m : RM} {ρ : List D} {b : Bool} (h : bM m ρ = some b) : m ρ = some (.bl b) := by
  unfold bM at h
  cases e : m ρ with
  | none => rw [e] at h; cases h
  | some d =>
    rw [e] at h
    cases d with
    | bl k => simp at h; rw [h]
    | _ => simp at h
theorem t_test {e : Expr} {m : RM} {t : TE} (h : PT X e (tTest t)) (k : ∀ σ H Q, tF ⟨X.K, cl, X.w⟩ E m σ H Q → t σ H Q) : PT X e (tT ⟨X.K, cl, X.w⟩ E (bM m)) :=
  PT_imp h fun σ H Q ⟨P, S, T, ρ, b, w, hm, q⟩ => k σ H _ ⟨P, S, T, ρ, .bl b, w, bM_some hm, fun v H' P' U g r _ _ => ⟨b, r.1, q H' P' g⟩⟩
theorem t_cmp {op : CmpOp} (ho : OpR X (compareOp op) r) (hf : Op2 ⟨X.K, cl, X.w⟩ r f) (ha : PE X a (tR ⟨X.K, cl, X.w⟩ E ma)) (hb : PE X b (tR ⟨X.K, cl, X.w⟩ E mb)) (hm : behindInMarks op b = false) : PT X (.Compare a [op] [b] pos) (tT ⟨X.K, cl, X.w⟩ E (bM (m2 f ma mb))) :=
  t_test (pt_cmpR ho ha hb hm) fun _ _ _ h => op2_run hf h
end
theorem OpR_or {X : Cx} {g : Value → Value → Sem Value} {r r' : R2} (h : OpR X g r) (h' : OpR X g r') : OpR X g (fun x y H Q => r x y H Q ∨ r' x y H Q) := fun pins s σ H x y v u Q I rx ry q => q.elim (h pins s σ H x y v u Q I rx ry) (h' pins s σ H x y v u Q I rx ry)

def addD : D → D → Option D
  | .int a, .int b => some (.int (a + b))
  | .str a, .str b => if a.length + b.length ≤ LIM then some (.str (a ++ b)) else none
  | .lst _ a, .lst _ b => if (frzL a && frzL b) = true ∧ a.length + b.length ≤ LIM then some (.lst true (a ++ b)) else none
  | .tup a, .tup b => if (frzL a && frzL b) = true ∧ a.length + b.length ≤ LIM then some (.tup (a ++ b)) else none
  | _, _ => none
def rAddA (K : PySem.W.Frag) : R2 := fun x y H Q => (rI0 (fun i j => .int (i + j))) x y H Q ∨ (∃ i j, x = .str i ∧ y = .str j ∧ i.length + j.length ≤ sizeLine ∧ Q (.str (i ++ j)) H) ∨ rCat x y H Q ∨ rCatA K x y H Q
section
variable {X : Cx} {c : LC}
theorem opr_add : OpR X (binaryOp .Add) (rAddA X.K) := OpR_or op_add (OpR_or op_add_str (OpR_or op_cat op_catA))
theorem lst_heap {P H : Hp} (e : Ex P H) {o : Bool} {ds : List D} {v : V} {U : FP} (r : Rep c P H (.lst o ds) v U) : ∃ a xs T, v = .ref a ∧ H a = some (.lst xs) ∧ RepL c P H ds xs T ∧ ∀ a, T a ≤ U a := by
  cases o with
  | true =>
    obtain ⟨a, xs, T, e1, h, rl, f⟩ := r
    exact ⟨a, xs, T, e1, h, rl, fun b => by rw [f]; simp only [fa]; omega⟩
  | false =>
    obtain ⟨a, xs, e1, h, rl⟩ := r
    exact ⟨a, xs, U, e1, e _ _ h, rl, fun _ => Nat.le_refl _⟩
theorem lst_heap0 {P H : Hp} (e : Ex P H) {o : Bool} {ds : List D} {v : V} {U : FP} (r : Rep c P H (.lst o ds) v U) (hf : frzL ds = true) : ∃ a xs, v = .ref a ∧ H a = some (.lst xs) ∧ RepL c P H ds xs fz := by
  obtain ⟨a, xs, T, e1, h, rl, _⟩ := lst_heap e r
  have z := RepL.frz0 ds xs T hf rl
  subst z
  exact ⟨a, xs, e1, h, rl⟩
theorem tup_heap0 {P H : Hp} (e : Ex P H) {ds : List D} {v : V} {U : FP} (r : Rep c P H (.tup ds) v U) (hf : frzL ds = true) : ∃ a xs, v = .ref a ∧ SqT c.K H a xs ∧ SqT c.K P a xs ∧ RepL c P H ds xs fz := by
  obtain ⟨a, xs, e1, h, rl⟩ := r
  have z := RepL.frz0 ds xs U hf rl
  subst z
  exact ⟨a, xs, e1, sqt_mono e h, h, rl⟩
theorem str_app (a b : List Nat) : (⟨a.toArray⟩ : Str) ++ (⟨b.toArray⟩ : Str) = ⟨(a ++ b).toArray⟩ := by
  show (Str.mk (a.toArray ++ b.toArray)) = _
  simp
theorem str_len (a : List Nat) : (⟨a.toArray⟩ : Str).length = a.length := by
  show a.toArray.size = _
  simp
theorem op_addD : Op2 c (rAddA c.K) addD := by
  intro P H e da db d x y U1 U2 hf r1 r2 Q q
  unfold addD at hf
  split at hf
  · rename_i a b
    cases hf
    exact .inl ⟨a, b, r1.1, r2.1, q.flat e ⟨rfl, rfl⟩⟩
  · rename_i a b
    split at hf
    · rename_i hl
      cases hf
      refine .inr (.inl ⟨_, _, r1.1, r2.1, ?_, ?_⟩)
      · rw [str_len, str_len]; exact lim_le hl
      · rw [str_app]; exact q.flat e ⟨rfl, rfl⟩
    · cases hf
  · rename_i o1 a o2 b
    split at hf
    · rename_i hl
      obtain ⟨hz, hl⟩ := hl
      simp only [Bool.and_eq_true] at hz
      cases hf
      obtain ⟨p1, xs, rfl, h1, l1⟩ := lst_heap0 e r1 hz.1
      obtain ⟨p2, ys, rfl, h2, l2⟩ := lst_heap0 e r2 hz.2
      refine .inr (.inr (.inl ⟨p1, p2, xs, ys, rfl, rfl, h1, h2, ?_, q.lst e ?_⟩))
      · rw [← l1.length, ← l2.length]; exact lim_le hl
      · have := l1.append l2; rwa [fa_fz] at this
    · cases hf
  · rename_i a b
    split at hf
    · rename_i hl
      obtain ⟨hz, hl⟩ := hl
      simp only [Bool.and_eq_true] at hz
      cases hf
      obtain ⟨p1, xs, rfl, h1, h1', l1⟩ := tup_heap0 e r1 hz.1
      obtain ⟨p2, ys, rfl, h2, h2', l2⟩ := tup_heap0 e r2 hz.2
      have ll := l1.append l2
      rw [fa_fz] at ll
      refine .inr (.inr (.inr ⟨p1, p2, xs, ys, rfl, rfl, h1, h2, ?_, ?_⟩))
      · rw [← l1.length, ← l2.length]; exact lim_le hl
      · refine ⟨fun z => ?_, fun _ z => ?_, fun _ _ => q.tup e ll⟩
        · subst z
          have h0 : a = [] := by have := l1.length; simpa using this
          subst h0
          exact q.flat e ⟨p2, ys, rfl, h2', l2⟩
        · subst z
          have h0 : b = [] := by have := l2.length; simpa using this
          subst h0
          exact q.flat e ⟨p1, xs, rfl, h1', by simpa using l1⟩
    · cases hf
  · cases hf

theorem op_i {C : Int → Int → Prop} {g : Int → Int → V} {gd : Int → Int → D} {f : D → D → Option D} (hf : ∀ a b d, f a b = some d → ∃ i j, a = .int i ∧ b = .int j ∧ d = gd i j ∧ C i j) (hg : ∀ (P H : Hp) i j, Rep c P H (gd i j) (g i j) fz) : Op2 c (rI C g) f := by
  intro P H e da db d x y U1 U2 h r1 r2 Q q
  obtain ⟨i, j, rfl, rfl, rfl, hc⟩ := hf _ _ _ h
  exact ⟨i, j, r1.1, r2.1, hc, q.flat e (hg P H i j)⟩
def subD : D → D → Option D
  | .int a, .int b => some (.int (a - b))
  | _, _ => none
def fdivD : D → D → Option D
  | .int a, .int b => if 0 < b ∧ b.natAbs.log2 < 9000 then some (.int (a / b)) else none
  | _, _ => none
theorem op_fdivD : Op2 c (rI CDivW fun i j => .int (i / j)) fdivD := op_i (gd := fun i j => .int (i / j)) (fun a b d h => by
  unfold fdivD at h; split at h
  · split at h
    · cases h; exact ⟨_, _, rfl, rfl, rfl, by assumption⟩
    · cases h
  · cases h) fun _ _ _ _ => ⟨rfl, rfl⟩
def modD : D → D → Option D
  | .int a, .int b => if 0 < b then some (.int (a % b)) else none
  | _, _ => none
theorem op_modD : Op2 c (rI (fun _ j => 0 < j) fun i j => .int (i % j)) modD := op_i (gd := fun i j => .int (i % j)) (fun a b d h => by
  unfold modD at h; split at h
  · split at h
    · cases h; exact ⟨_, _, rfl, rfl, rfl, by assumption⟩
    · cases h
  · cases h) fun _ _ _ _ => ⟨rfl, rfl⟩
def powD : D → D → Option D
  | .int a, .int b => if 0 ≤ b ∧ b ≤ 1000000 ∧ a.natAbs < 2 ^ 64 then some (.int (a ^ b.toNat)) else none
  | _, _ => none
theorem op_powD : Op2 c (rI CPow fun i j => .int (i ^ j.toNat)) powD := op_i (gd := fun i j => .int (i ^ j.toNat)) (fun a b d h => by
  unfold powD at h; split at h
  · split at h
    · cases h; exact ⟨_, _, rfl, rfl, rfl, by assumption⟩
    · cases h
  · cases h) fun _ _ _ _ => ⟨rfl, rfl⟩

def mulD : D → D → Option D
  | .int a, .int b => if (-(2 ^ 64) < a ∧ a < 2 ^ 64) ∨ (-(2 ^ 64) < b ∧ b < 2 ^ 64) then some (.int (a * b)) else none
  | .lst _ a, .int k => if frzL a = true ∧ k ≤ 1000000 ∧ -1000000 ≤ k ∧ a.length * k.toNat ≤ LIM then some (.lst true (List.replicate k.toNat a).flatten) else none
  | .str a, .int k => if k ≤ 1000000 ∧ -1000000 ≤ k ∧ a.length * k.toNat ≤ LIM then some (.str (List.replicate k.toNat a).flatten) else none
  | _, _ => none
def rRepS : R2 := fun x y H Q => ∃ z k, x = .str z ∧ y = .int k ∧ MulOk z k ∧ Q (.str (Txt.mul z k)) H
theorem op_repS : OpR X (binaryOp .Mult) rRepS := by
  intro pins s σ H x y v u Q I rx ry h
  obtain ⟨z, k, rfl, rfl, hk, q⟩ := h
  obtain ⟨t, rfl⟩ := rx
  obtain ⟨t', rfl⟩ := ry
  exact PySem.SB.mul hk fun t' k => ⟨.str _, H, I.tok _, ⟨_, rfl⟩, q⟩
def rMulA : R2 := fun x y H Q => rI CMul (fun i j => .int (i * j)) x y H Q ∨ rRep x y H Q ∨ rRepS x y H Q
theorem opr_mul : OpR X (binaryOp .Mult) rMulA := OpR_or op_mul (OpR_or op_rep op_repS)
theorem foldl_app (a : Array Nat) : ∀ (n : Nat) (b : Array Nat), (List.replicate n a).foldl (· ++ ·) b = (b.toList ++ (List.replicate n a.toList).flatten).toArray
  | 0, b => by simp
  | n + 1, b => by
    rw [List.replicate_succ, List.foldl_cons, foldl_app a n]
    simp [List.replicate_succ]
theorem str_mul {a : List Nat} {k : Int} (h1 : k ≤ 1000000) (h2 : -1000000 ≤ k) (h3 : a.length * k.toNat ≤ LIM) : MulOk ⟨a.toArray⟩ k ∧ Txt.mul ⟨a.toArray⟩ k = ⟨(List.replicate k.toNat a).flatten.toArray⟩ := by
  refine ⟨⟨?_, fun n1 n2 => ?_, fun n1 n2 => ?_⟩, ?_⟩
  · rw [Bool.or_eq_false_iff, decide_eq_false_iff_not, decide_eq_false_iff_not]; omega
  · rw [str_len]
    have h4 : (a.length : Int) * k ≤ 2 ^ 63 - 1 := by
      have e1 : (k.toNat : Int) = k := by omega
      have e2 : ((a.length * k.toNat : Nat) : Int) = (a.length : Int) * k := by rw [Int.natCast_mul, e1]
      unfold LIM at h3
      omega
    have := Int.le_ediv_of_mul_le (by omega) h4
    omega
  · rw [str_len]
    have := lim_le h3
    unfold Builtin.Str.tooLong
    simp; omega
  · unfold Txt.mul
    by_cases n1 : k < 1
    · rw [if_pos n1, show k.toNat = 0 by omega]; rfl
    · rw [if_neg n1]
      by_cases n2 : (k == 1 || (⟨a.toArray⟩ : Str).length == 0) = true
      · rw [if_pos n2]
        rw [str_len] at n2
        simp only [Bool.or_eq_true, beq_iff_eq] at n2
        rcases n2 with n2 | n2
        · subst n2; simp
        · have : a = [] := List.length_eq_zero_iff.mp n2
          subst this; simp
      · rw [if_neg n2, foldl_app]; simp
theorem op_mulD : Op2 c rMulA mulD := by
  intro P H e da db d x y U1 U2 hf r1 r2 Q q
  unfold mulD at hf
  split at hf
  · rename_i a b
    split at hf
    · rename_i hc
      cases hf
      exact .inl ⟨a, b, r1.1, r2.1, hc, q.flat e ⟨rfl, rfl⟩⟩
    · cases hf
  · rename_i o a k
    split at hf
    · rename_i hl
      obtain ⟨hz, h1, h2, h3⟩ := hl
      cases hf
      obtain ⟨p1, xs, rfl, hh, l1⟩ := lst_heap0 e r1 hz
      refine .inr (.inl ⟨p1, k, xs, rfl, r2.1, hh, by omega, by omega, ?_, q.lst e (l1.rep _)⟩)
      rw [← l1.length]; exact lim_le h3
    · cases hf
  · rename_i a k
    split at hf
    · rename_i hl
      obtain ⟨h1, h2, h3⟩ := hl
      cases hf
      obtain ⟨m1, m2⟩ := str_mul h1 h2 h3
      exact .inr (.inr ⟨_, k, r1.1, r2.1, m1, by rw [m2]; exact q.flat e ⟨rfl, rfl⟩⟩)
    · cases hf
  · cases hf

def cmpD (fi : Int → Int → Bool) (fs : List Nat → List Nat → Bool) : D → D → Option D
  | .int a, .int b => some (.bl (fi a b))
  | .str a, .str b => some (.bl (fs a b))
  | _, _ => none
theorem op_cmpD {fi : Int → Int → Bool} {fs : List Nat → List Nat → Bool} : Op2 c (fun x y H Q => rI0 (fun i j => .bl (fi i j)) x y H Q ∨ ∃ i j, x = .str i ∧ y = .str j ∧ Q (.bl (fs i.cps.toList j.cps.toList)) H) (cmpD fi fs) := by
  intro P H e da db d x y U1 U2 hf r1 r2 Q q
  unfold cmpD at hf
  split at hf
  · cases hf
    exact .inl ⟨_, _, r1.1, r2.1, q.flat e ⟨rfl, rfl⟩⟩
  · rename_i a b
    cases hf
    exact .inr ⟨_, _, r1.1, r2.1, q.flat e ⟨by simp, rfl⟩⟩
  · cases hf
def ltD : D → D → Option D := cmpD (fun i j => decide (i < j)) fun i j => decide (i < j)
def leD : D → D → Option D := cmpD (fun i j => decide (i ≤ j)) fun i j => !decide (j < i)
def gtD : D → D → Option D := cmpD (fun i j => decide (j < i)) fun i j => decide (j < i)
def geD : D → D → Option D := cmpD (fun i j => decide (j ≤ i)) fun i j => !decide (i < j)
theorem opr_lt : OpR X (compareOp .Lt) (fun x y H Q => rI0 (fun i j => .bl (decide (i < j))) x y H Q ∨ ∃ i j, x = .str i ∧ y = .str j ∧ Q (.bl (decide (i.cps.toList < j.cps.toList))) H) := OpR_or op_lt op_lt_str
theorem opr_le : OpR X (compareOp .LtE) (fun x y H Q => rI0 (fun i j => .bl (decide (i ≤ j))) x y H Q ∨ ∃ i j, x = .str i ∧ y = .str j ∧ Q (.bl (!decide (j.cps.toList < i.cps.toList))) H) := OpR_or op_le op_le_str
theorem opr_gt : OpR X (compareOp .Gt) (fun x y H Q => rI0 (fun i j => .bl (decide (j < i))) x y H Q ∨ ∃ i j, x = .str i ∧ y = .str j ∧ Q (.bl (decide (j.cps.toList < i.cps.toList))) H) := OpR_or op_gt op_gt_str
def keyP : Key → PyData
  | .inl i => .int i
  | .inr s => .str s
mutual
def toP : D → Option PyData
  | .non => some .none
  | .bl b => some (.bool b)
  | .int i => some (.int i)
  | .str s => some (.str ⟨s.toArray⟩)
  | .scr ns => some (.list (ns.map .int))
  | .kst ss => some (.tuple (ss.map fun s => .str ⟨s.toArray⟩))
  | .key ks => some (.tuple (ks.map keyP))
  | .tup ds => (toPL ds).map .tuple
  | .lst _ ds => (toPL ds).map .list
  | _ => none
def toPL : List D → Option (List PyData)
  | [] => some []
  | d :: ds => (toP d).bind fun p => (toPL ds).map fun ps => p :: ps
end
theorem dp_scr {K : PySem.W.Frag} {H : Hp} : ∀ ns : List Int, DpAll K H (ns.map V.int) (ns.map PyData.int)
  | [] => .nil
  | n :: ns => .cons (.int n) (dp_scr ns)
theorem dp_kst {K : PySem.W.Frag} {H : Hp} : ∀ ss : List (List Nat), DpAll K H (ss.map fun s => V.str ⟨s.toArray⟩) (ss.map fun s => PyData.str ⟨s.toArray⟩)
  | [] => .nil
  | s :: ss => .cons (.str _) (dp_kst ss)
theorem dp_key {K : PySem.W.Frag} {H : Hp} : ∀ ks : List Key, DpAll K H (ks.map kV) (ks.map keyP)
  | [] => .nil
  | .inl i :: ks => .cons (.int i) (dp_key ks)
  | .inr s :: ks => .cons (.str s) (dp_key ks)
mutual
theorem dp_of {P H : Hp} (e : Ex P H) : ∀ (d : D) (v : V) (U : FP) (p : PyData), toP d = some p → Rep c P H d v U → Dp c.K H v p
  | .non, v, U, p, h, r => by cases h; rw [r.1]; exact .non
  | .bl b, v, U, p, h, r => by cases h; rw [r.1]; exact .bl b
  | .int b, v, U, p, h, r => by cases h; rw [r.1]; exact .int b
  | .str b, v, U, p, h, r => by cases h; rw [r.1]; exact .str _
  | .scr ns, v, U, p, h, ⟨a, e1, q, _⟩ => by cases h; rw [e1]; exact .lst (sql_mono e q) (dp_scr ns)
  | .kst ss, v, U, p, h, ⟨a, e1, q, _⟩ => by cases h; rw [e1]; exact .tup (sqt_mono e q) (dp_kst ss)
  | .key ks, v, U, p, h, ⟨a, e1, q, _⟩ => by cases h; rw [e1]; exact .tup (.inl (.inl (e _ _ q))) (dp_key ks)
  | .tup ds, v, U, p, h, ⟨a, xs, e1, q, r⟩ => by
    unfold toP at h
    cases z : toPL ds with
    | none => rw [z] at h; cases h
    | some ps => rw [z] at h; cases h; rw [e1]; exact .tup (sqt_mono e q) (dp_all e ds xs U ps z r)
  | .lst true ds, v, U, p, h, ⟨a, xs, T, e1, q, r, _⟩ => by
    unfold toP at h
    cases z : toPL ds with
    | none => rw [z] at h; cases h
    | some ps => rw [z] at h; cases h; rw [e1]; exact .lst (.inl (.inl q)) (dp_all e ds xs T ps z r)
  | .lst false ds, v, U, p, h, ⟨a, xs, e1, q, r⟩ => by
    unfold toP at h
    cases z : toPL ds with
    | none => rw [z] at h; cases h
    | some ps => rw [z] at h; cases h; rw [e1]; exact .lst (.inl (.inl (e _ _ q))) (dp_all e ds xs U ps z r)
  | .gone, _, _, _, h, _ => by cases h
  | .dK .., _, _, _, h, _ => by cases h
  | .dT .., _, _, _, h, _ => by cases h
  | .dN .., _, _, _, h, _ => by cases h
  | .obj .., _, _, _, h, _ => by cases h
theorem dp_all {P H : Hp} (e : Ex P H) : ∀ (ds : List D) (vs : List V) (U : FP) (ps : List PyData), toPL ds = some ps → RepL c P H ds vs U → DpAll c.K H vs ps
  | [], vs, U, ps, h, r => by cases h; rw [r.1]; exact .nil
  | d :: ds, vs, U, ps, h, ⟨y, ys, T, T2, e1, r, rs, _⟩ => by
    unfold toPL at h
    cases z : toP d with
    | none => rw [z] at h; cases h
    | some q =>
      cases z2 : toPL ds with
      | none => rw [z, z2] at h; cases h
      | some qs => rw [z, z2] at h; cases h; rw [e1]; exact .cons (dp_of e d y T q z r) (dp_all e ds ys T2 qs z2 rs)
end
def eqB (a b : D) : Option Bool := (toP a).bind fun p => (toP b).bind fun q => if SeqAt.shaped p = true ∧ SeqAt.shaped q = true then some (PyData.eqv p q) else none
def eqD (a b : D) : Option D := (eqB a b).map .bl
def neD (a b : D) : Option D := (eqB a b).map fun k => .bl (!k)
theorem eqB_dp {P H : Hp} (e : Ex P H) {a b : D} {x y : V} {U1 U2 : FP} {k : Bool} (h : eqB a b = some k) (r1 : Rep c P H a x U1) (r2 : Rep c P H b y U2) :
    ∃ p q, Dp c.K H x p ∧ Dp c.K H y q ∧ SeqAt.shaped p = true ∧ SeqAt.shaped q = true ∧ PyData.eqv p q = k := by
  unfold eqB at h
  cases z1 : toP a with
  | none => rw [z1] at h; cases h
  | some p =>
    cases z2 : toP b with
    | none => rw [z1, z2] at h; cases h
    | some q =>
      rw [z1, z2] at h
      simp only [Option.bind_some] at h
      split at h
      · rename_i hs
        cases h
        exact ⟨p, q, dp_of e _ _ _ _ z1 r1, dp_of e _ _ _ _ z2 r2, hs.1, hs.2, rfl⟩
      · cases h
theorem op_eqqD : Op2 c (rEqD c.K) eqD := by
  intro P H e da db d x y U1 U2 hf r1 r2 Q q
  unfold eqD at hf
  cases z : eqB da db with
  | none => rw [z] at hf; cases hf
  | some k =>
    rw [z] at hf; cases hf
    obtain ⟨p, p2, d1, d2, s1, s2, rfl⟩ := eqB_dp e z r1 r2
    exact ⟨p, p2, d1, d2, s1, s2, q.flat e ⟨rfl, rfl⟩⟩
theorem op_neqD : Op2 c (rNeD c.K) neD := by
  intro P H e da db d x y U1 U2 hf r1 r2 Q q
  unfold neD at hf
  cases z : eqB da db with
  | none => rw [z] at hf; cases hf
  | some k =>
    rw [z] at hf; cases hf
    obtain ⟨p, p2, d1, d2, s1, s2, rfl⟩ := eqB_dp e z r1 r2
    exact ⟨p, p2, d1, d2, s1, s2, q.flat e ⟨rfl, rfl⟩⟩

def isNo : D → Option Bool
  | .non => some true
  | .gone => none
  | _ => some false
def nisD : D → D → Option D
  | a, .non => (isNo a).map fun k => .bl (!k)
  | .bl a, .bl b => some (.bl (!(a == b)))
  | _, _ => none
theorem isNo_v {P H : Hp} : ∀ {a : D} {x : V} {U : FP} {k : Bool}, isNo a = some k → Rep c P H a x U → decide (x = .non) = k
  | .non, x, U, k, h, r => by cases h; rw [r.1]; rfl
  | .bl _, x, U, k, h, r => by cases h; rw [r.1]; rfl
  | .int _, x, U, k, h, r => by cases h; rw [r.1]; rfl
  | .str _, x, U, k, h, r => by cases h; rw [r.1]; rfl
  | .scr _, x, U, k, h, ⟨_, e, _⟩ => by cases h; rw [e]; rfl
  | .kst _, x, U, k, h, ⟨_, e, _⟩ => by cases h; rw [e]; rfl
  | .key _, x, U, k, h, ⟨_, e, _⟩ => by cases h; rw [e]; rfl
  | .tup _, x, U, k, h, ⟨_, _, e, _⟩ => by cases h; rw [e]; rfl
  | .lst true _, x, U, k, h, ⟨_, _, _, e, _⟩ => by cases h; rw [e]; rfl
  | .lst false _, x, U, k, h, ⟨_, _, e, _⟩ => by cases h; rw [e]; rfl
  | .dK true _ _, x, U, k, h, ⟨_, _, _, e, _⟩ => by cases h; rw [e]; rfl
  | .dK false _ _, x, U, k, h, ⟨_, _, e, _⟩ => by cases h; rw [e]; rfl
  | .dT true _ _, x, U, k, h, ⟨_, _, _, e, _⟩ => by cases h; rw [e]; rfl
  | .dT false _ _, x, U, k, h, ⟨_, _, e, _⟩ => by cases h; rw [e]; rfl
  | .dN true _ _, x, U, k, h, ⟨_, _, _, _, e, _⟩ => by cases h; rw [e]; rfl
  | .dN false _ _, x, U, k, h, ⟨_, _, _, e, _⟩ => by cases h; rw [e]; rfl
  | .obj true _ _ _, x, U, k, h, ⟨_, _, _, _, e, _⟩ => by cases h; rw [e]; rfl
  | .obj false _ _ _, x, U, k, h, ⟨_, _, _, e, _⟩ => by cases h; rw [e]; rfl
theorem opr_nis : OpR X (compareOp .IsNot) (fun x y H Q => (y = .non ∧ Q (.bl (!decide (x = .non))) H) ∨ rNotB x y H Q) := OpR_or op_notN op_notBl
theorem op_nisD : Op2 c (fun x y H Q => (y = .non ∧ Q (.bl (!decide (x = .non))) H) ∨ rNotB x y H Q) nisD := by
  intro P H e da db d x y U1 U2 hf r1 r2 Q q
  unfold nisD at hf
  split at hf
  · cases z : isNo da with
    | none => rw [z] at hf; cases hf
    | some k =>
      rw [z] at hf; cases hf
      exact .inl ⟨r2.1, by rw [isNo_v z r1]; exact q.flat e ⟨rfl, rfl⟩⟩
  · cases hf
    exact .inr ⟨_, _, r1.1, r2.1, q.flat e ⟨by congr 1, rfl⟩⟩
  · cases hf
end
end LI

namespace LI
open PySem L2

theorem RepE.get {c : LC} {P H : Hp} : ∀ {ρ : List D} {σ : St} {S : FP} {i : Nat} {d : D}, RepE c P H ρ σ S → ρ[i]? = some d → ∃ ov T, σ[i]? = some ov ∧ RepO c P H d ov T ∧ ∀ a, T a ≤ S a
  | [], [], _, i, d, _, e => by simp at e
  | d0 :: ds, v0 :: σ, S, 0, d, ⟨T, U, r, rs, f⟩, e => by
    simp at e; subst e
    exact ⟨v0, T, rfl, r, fun a => by rw [f]; simp only [fa]; omega⟩
  | d0 :: ds, v0 :: σ, S, i + 1, d, ⟨T, U, r, rs, f⟩, e => by
    obtain ⟨ov, T2, h1, h2, h3⟩ := RepE.get (i := i) (d := d) rs (by simpa using e)
    exact ⟨ov, T2, by simpa using h1, h2, fun a => by have := h3 a; rw [f]; simp only [fa]; omega⟩
  | [], _ :: _, _, _, _, h, _ => h.elim
  | _ :: _, [], _, _, _, h, _ => h.elim
def notGone : D → Bool
  | .gone => false
  | _ => true
def vM (i : Nat) : RM := fun ρ => (ρ[i]?).bind fun d => if notGone d = true then some d else none
section
variable {X : Cx} {cl : Nat → Addr} {E : En} {e a b : Expr} {pos : Pos} {m ma mb : RM}
theorem tvar_run {c : LC} {i : Nat} {σ : St} {H : Hp} {Q : VK} (h : tR c E (vM i) σ H Q) : tVar i σ H Q := by
  obtain ⟨P, S, T, ρ, d, w, hm, q⟩ := h
  unfold vM at hm
  cases e : ρ[i]? with
  | none => rw [e] at hm; cases hm
  | some d1 =>
    rw [e] at hm
    simp only [Option.bind_some] at hm
    split at hm
    · rename_i hn
      cases hm
      obtain ⟨ov, T2, h1, h2, _⟩ := w.env.get e
      cases ov with
      | none => rw [h2.1] at hn; cases hn
      | some v => exact ⟨v, h1, q v H P T2 (.refl w.ph) h2⟩
    · cases hm
theorem r_v (i : Nat) {x : Str} (hN : X.N[i]? = some x := by rfl) (hv : Vis X.env.scope x := by first | exact Or.inl rfl | exact Or.inr (Or.inl rfl) | exact Or.inr (Or.inr rfl)) (hd : (x == ("__debug__" : Str)) = false := by decide)
    (hcd : (x == ("__classdict__" : Str)) = false := by decide) : PE X (.Name x pos) (tR ⟨X.K, cl, X.w⟩ E (vM i)) := PE_imp (pe_var hN hv hd hcd) fun _ _ _ h => tvar_run h

def kM (d : D) : RM := fun _ => some d
theorem tc_run {c : LC} {d : D} {v : V} (hr : ∀ P H, Ex P H → Rep c P H d v fz) {σ : St} {H : Hp} {Q : VK} (h : tF c E (kM d) σ H Q) : tC v σ H Q := by
  obtain ⟨P, S, T, ρ, d1, w, hm, q⟩ := h
  cases hm
  exact q.flat w.ph (hr P H w.ph)
theorem f_int {i : Int} {j} : PE X (.Constant (.int i) j pos) (tF ⟨X.K, cl, X.w⟩ E (kM (.int i))) := PE_imp pe_int fun _ _ _ h => tc_run (c := ⟨X.K, cl, X.w⟩) (d := .int i) (v := .int i) (fun _ _ _ => ⟨rfl, rfl⟩) h
theorem f_bl {k : Bool} {j} : PE X (.Constant (.bool k) j pos) (tF ⟨X.K, cl, X.w⟩ E (kM (.bl k))) := PE_imp pe_bl fun _ _ _ h => tc_run (c := ⟨X.K, cl, X.w⟩) (d := .bl k) (v := .bl k) (fun _ _ _ => ⟨rfl, rfl⟩) h
theorem f_non {j} : PE X (.Constant .none j pos) (tF ⟨X.K, cl, X.w⟩ E (kM .non)) := PE_imp pe_non fun _ _ _ h => tc_run (c := ⟨X.K, cl, X.w⟩) (d := .non) (v := .non) (fun _ _ _ => ⟨rfl, rfl⟩) h
theorem f_str {x : Str} {j} (s : List Nat) (hs : x = ⟨s.toArray⟩ := by rfl) : PE X (.Constant (.str x) j pos) (tF ⟨X.K, cl, X.w⟩ E (kM (.str s))) := PE_imp pe_str fun _ _ _ h => tc_run (c := ⟨X.K, cl, X.w⟩) (d := .str s) (v := .str x) (fun _ _ _ => ⟨by rw [hs], rfl⟩) h
theorem f_glob {x : Str} {v : V} {u : Value} (d : D) (hg : Gl X x) (hm : X.mg x = some u) (r : RelV v u) (hr : ∀ P H, Ex P H → Rep ⟨X.K, cl, X.w⟩ P H d v fz) (hd : (x == ("__debug__" : Str)) = false := by decide) : PE X (.Name x pos) (tF ⟨X.K, cl, X.w⟩ E (kM d)) :=
  PE_imp (pe_glob hg hm r hd) fun _ _ _ h => tc_run hr h

def negD : D → Option D
  | .int a => some (.int (-a))
  | _ => none
abbrev AM := List D → Option (List D)
def tAR (c : LC) (E : En) (m : AM) : TA := fun σ H Q => ∃ P S T ρ ds, Wd c E P S T σ H ρ ∧ m ρ = some ds ∧ ∀ vs H' P' U, Gr P H P' H' → RepL c P' H' ds vs U → Q vs H'
def nilM : AM := fun _ => some []
def consM (m : RM) (ms : AM) : AM := fun ρ => (m ρ).bind fun d => (ms ρ).map fun ds => d :: ds
theorem a_nil : PA X [] (tAR ⟨X.K, cl, X.w⟩ E nilM) := PA_imp pa_nil fun σ H Q ⟨P, S, T, ρ, ds, w, hm, q⟩ => by
  cases hm
  exact q [] H P fz (.refl w.ph) ⟨rfl, rfl⟩
theorem a_cons {es : List Expr} {ms : AM} (h : PE X e (tR ⟨X.K, cl, X.w⟩ E m)) (hr : PA X es (tAR ⟨X.K, cl, X.w⟩ E ms)) (hs : starEach (e :: es) X.env = (false, eval e X.env) :: starEach es X.env := by rfl) : PA X (e :: es) (tAR ⟨X.K, cl, X.w⟩ E (consM m ms)) :=
  PA_imp (pa_cons h hr hs) fun σ H Q ⟨P, S, T, ρ, ds, w, hm, q⟩ => by
    unfold consM at hm
    cases e1 : m ρ with
    | none => rw [e1] at hm; cases hm
    | some d =>
      cases e2 : ms ρ with
      | none => rw [e1, e2] at hm; cases hm
      | some ds' =>
        rw [e1, e2] at hm
        cases hm
        exact ⟨P, S, T, ρ, d, w, e1, fun v H1 P1 U1 g1 r1 => ⟨P1, S, T, ρ, ds', w.grow g1, e2, fun vs H2 P2 U2 g2 r2 => q (v :: vs) H2 P2 (fa U1 U2) (g1.trans g2) ⟨v, vs, U1, U2, rfl, r1.gr g2, r2, rfl⟩⟩⟩
def tupM (ms : AM) : RM := fun ρ => (ms ρ).bind fun ds => if frzL ds = true ∧ ds.length ≤ LIM then some (.tup ds) else none
def lstM (ms : AM) : RM := fun ρ => (ms ρ).bind fun ds => if frzL ds = true ∧ ds.length ≤ LIM then some (.lst true ds) else none
theorem f_tup {es : List Expr} {ms : AM} {x1} (h : PA X es (tAR ⟨X.K, cl, X.w⟩ E ms)) : PE X (.Tuple es x1 pos) (tF ⟨X.K, cl, X.w⟩ E (tupM ms)) := PE_imp (pe_tup h) fun σ H Q ⟨P, S, T, ρ, d, w, hm, q⟩ => by
  unfold tupM at hm
  cases e1 : ms ρ with
  | none => rw [e1] at hm; cases hm
  | some ds =>
    rw [e1] at hm
    simp only [Option.bind_some] at hm
    split at hm
    · rename_i hf
      cases hm
      refine ⟨P, S, T, ρ, ds, w, e1, fun vs H' P' U g r => ⟨by rw [← r.length]; exact lim_le hf.2, ?_⟩⟩
      have z := RepL.frz0 ds vs U hf.1 r
      subst z
      exact (q.grow g).tup g.ph r
    · cases hm
theorem f_lst {es : List Expr} {ms : AM} (h : PA X es (tAR ⟨X.K, cl, X.w⟩ E ms)) : PE X (.List es pos) (tF ⟨X.K, cl, X.w⟩ E (lstM ms)) := PE_imp (pe_lst h) fun σ H Q ⟨P, S, T, ρ, d, w, hm, q⟩ => by
  unfold lstM at hm
  cases e1 : ms ρ with
  | none => rw [e1] at hm; cases hm
  | some ds =>
    rw [e1] at hm
    simp only [Option.bind_some] at hm
    split at hm
    · rename_i hf
      cases hm
      refine ⟨P, S, T, ρ, ds, w, e1, fun vs H' P' U g r => ⟨by rw [← r.length]; exact lim_le hf.2, ?_⟩⟩
      have z := RepL.frz0 ds vs U hf.1 r
      subst z
      exact (q.grow g).lst g.ph r
    · cases hm

def keyD : D → Option Key
  | .int i => some (.inl i)
  | .str s => some (.inr ⟨s.toArray⟩)
  | _ => none
def keyDs : List D → Option (List Key)
  | [] => some []
  | d :: ds => (keyD d).bind fun k => (keyDs ds).map fun ks => k :: ks
theorem keyD_v {c : LC} {P H : Hp} {d : D} {v : V} {U : FP} {k : Key} (h : keyD d = some k) (r : Rep c P H d v U) : v = kV k := by
  unfold keyD at h
  split at h
  · cases h; exact r.1
  · cases h; exact r.1
  · cases h
def under {κ : Type} [DecidableEq κ] : List κ → List D → κ → Option D
  | k :: ks, d :: ds, x => if k = x then some d else under ks ds x
  | _, _, _ => none
def ixD : D → D → Option D
  | .lst _ ds, .int i => atI ds i
  | .tup ds, .int i => atI ds i
  | .scr ns, .int i => (atI ns i).map .int
  | .str s, .int i => if s.length ≤ LIM then (atI s i).map fun k => .str [k] else none
  | .dK _ ks ds, k => (keyD k).bind fun k => under ks ds k
  | _, _ => none
theorem atI_rep {c : LC} {P H : Hp} {ds : List D} {xs : List V} {S : FP} {i : Int} {d : D} (r : RepL c P H ds xs S) (h : atI ds i = some d) : ∃ x T, atI xs i = some x ∧ Rep c P H d x T ∧ ∀ a, T a ≤ S a := by
  unfold atI at h ⊢
  rw [← r.length]
  cases e : ixN ds.length i with
  | none => rw [e] at h; cases h
  | some j => rw [e] at h; exact r.get h
theorem atI_map {α β : Type} (f : α → β) (xs : List α) (i : Int) : atI (xs.map f) i = (atI xs i).map f := by
  unfold atI
  rw [List.length_map]
  cases ixN xs.length i with
  | none => rfl
  | some j => simp
end
theorem under_rep {c : LC} {P H : Hp} {κ : Type} [DecidableEq κ] : ∀ {ks : List κ} {ds : List D} {xs : List V} {S : FP} {k : κ} {d : D}, RepL c P H ds xs S → ks.length = xs.length → under ks ds k = some d → ∃ x T, (ks.zip xs).find? (fun p => decide (p.1 = k)) = some (k, x) ∧ Rep c P H d x T ∧ ∀ a, T a ≤ S a
  | [], ds, xs, S, k, d, r, n, h => by simp [under] at h
  | k0 :: ks, [], xs, S, k, d, r, n, h => by simp [under] at h
  | k0 :: ks, d0 :: ds, xs, S, k, d, ⟨y, ys, T, T2, e1, r, rs, f⟩, n, h => by
    subst e1
    unfold under at h
    by_cases q : k0 = k
    · rw [if_pos q] at h
      cases h
      exact ⟨y, T, by simp [q], r, fun a => by rw [f]; simp only [fa]; omega⟩
    · rw [if_neg q] at h
      obtain ⟨x, T3, h1, h2, h3⟩ := under_rep rs (by simpa using n) h
      exact ⟨x, T3, by simp [q, h1], h2, fun a => by have := h3 a; rw [f]; simp only [fa]; omega⟩
end LI

namespace LI
open PySem L2

theorem PE_or {X : Cx} {e : Expr} {t u : TE} (h : PE X e t) (k : PE X e u) : PE X e (fun σ H Q => t σ H Q ∨ u σ H Q) := ⟨fun pins s σ H Q I q => q.elim (h.run pins s σ H Q I) (k.run pins s σ H Q I)⟩
theorem PT_or {X : Cx} {e : Expr} {t u : TT} (h : PT X e t) (k : PT X e u) : PT X e (fun σ H Q => t σ H Q ∨ u σ H Q) := ⟨fun pins s σ H Q I q => q.elim (h.run pins s σ H Q I) (k.run pins s σ H Q I)⟩

theorem dict_under {c : LC} {P H : Hp} (e : Ex P H) {dt : D} {x y : V} {U1 U2 : FP} {dk : D} :
    (∀ o ks ds, dt = .dK o ks ds → ∀ k, keyD dk = some k → Rep c P H dt x U1 → Rep c P H dk y U2 → ∃ a xs, x = .ref a ∧ H a = some (.dK (ks.zip xs)) ∧ ks.length = xs.length ∧ y = kV k ∧ ∃ T, RepL c P H ds xs T) := by
  refine fun o ks ds hd k hk r1 r2 => ?_
  · subst hd
    cases o with
    | true => obtain ⟨a, xs, T, e1, h, n, rl, _⟩ := r1; exact ⟨a, xs, e1, h, n, keyD_v hk r2, T, rl⟩
    | false => obtain ⟨a, xs, e1, h, n, rl⟩ := r1; exact ⟨a, xs, e1, e _ _ h, n, keyD_v hk r2, U1, rl⟩
theorem under_val {c : LC} {P H : Hp} {κ : Type} [DecidableEq κ] {ks : List κ} {ds : List D} {xs : List V} {S : FP} {k : κ} {d : D} (r : RepL c P H ds xs S) (n : ks.length = xs.length) (h : under ks ds k = some d) : ∃ x T, valV (ks.zip xs) k = some x ∧ Rep c P H d x T := by
  obtain ⟨x, T, h1, h2, _⟩ := under_rep r n h
  exact ⟨x, T, by unfold valV; rw [h1]; rfl, h2⟩
theorem under_none {c : LC} {P H : Hp} {κ : Type} [DecidableEq κ] : ∀ {ks : List κ} {ds : List D} {xs : List V} {S : FP} {k : κ}, RepL c P H ds xs S → ks.length = xs.length → under ks ds k = none → valV (ks.zip xs) k = none
  | [], ds, xs, S, k, r, n, h => by simp [valV]
  | k0 :: ks, [], xs, S, k, r, n, h => by rw [r.1] at n; simp at n
  | k0 :: ks, d0 :: ds, xs, S, k, ⟨y, ys, T, T2, e1, r, rs, f⟩, n, h => by
    subst e1
    unfold under at h
    by_cases q : k0 = k
    · rw [if_pos q] at h; cases h
    · rw [if_neg q] at h
      have := under_none rs (by simpa using n) h
      rw [List.zip_cons_cons, valV_neg (by simpa using q)]
      exact this
section
variable {X : Cx} {cl : Nat → Addr} {E : En} {e a b : Expr} {pos : Pos} {m ma mb : RM}
theorem r_ix (hu : X.A.units + 64 < cLine) (ha : PE X a (tR ⟨X.K, cl, X.w⟩ E ma)) (hb : PE X b (tR ⟨X.K, cl, X.w⟩ E mb)) (hs : PlainIx b := by exact fun _ _ => rfl) : PE X (.Subscript a b pos) (tR ⟨X.K, cl, X.w⟩ E (m2 ixD ma mb)) := by
  refine PE_imp (PE_or (pe_ix ix_seq ha hb hs) (pe_dget (Nat.lt_of_le_of_lt (by omega) hu) ha hb hs)) fun σ H Q ⟨P, S, T, ρ, d, w, hm, q⟩ => ?_
  unfold m2 at hm
  cases ea : ma ρ with
  | none => rw [ea] at hm; cases hm
  | some da =>
    cases eb : mb ρ with
    | none => rw [ea, eb] at hm; cases hm
    | some db =>
      rw [ea, eb] at hm
      replace hm : ixD da db = some d := hm
      unfold ixD at hm
      split at hm
      · rename_i o ds i
        left
        refine ⟨P, S, T, ρ, .lst o ds, w, ea, fun x H1 P1 U1 g1 r1 => ⟨P1, S, T, ρ, .int i, w.grow g1, eb, fun y H2 P2 U2 g2 r2 => ?_⟩⟩
        obtain ⟨p, xs, T', e1, hh, rl, _⟩ := lst_heap g2.ph (r1.gr g2)
        obtain ⟨z, T2, h1, h2, _⟩ := atI_rep rl hm
        exact .inl ⟨p, xs, i, z, e1, r2.1, .inl (.inl hh), h1, q z H2 P2 T2 (g1.trans g2) h2⟩
      · rename_i ds i
        left
        refine ⟨P, S, T, ρ, .tup ds, w, ea, fun x H1 P1 U1 g1 r1 => ⟨P1, S, T, ρ, .int i, w.grow g1, eb, fun y H2 P2 U2 g2 r2 => ?_⟩⟩
        obtain ⟨p, xs, e1, hh, rl⟩ := r1.gr g2
        obtain ⟨z, T2, h1, h2, _⟩ := atI_rep rl hm
        exact .inr (.inl ⟨p, xs, i, z, e1, r2.1, sqt_mono g2.ph hh, h1, q z H2 P2 T2 (g1.trans g2) h2⟩)
      · rename_i ns i
        left
        refine ⟨P, S, T, ρ, .scr ns, w, ea, fun x H1 P1 U1 g1 r1 => ⟨P1, S, T, ρ, .int i, w.grow g1, eb, fun y H2 P2 U2 g2 r2 => ?_⟩⟩
        obtain ⟨p, e1, hh, _⟩ := r1.gr g2
        cases z : atI ns i with
        | none => rw [z] at hm; cases hm
        | some k =>
          rw [z] at hm; cases hm
          exact .inl ⟨p, _, i, .int k, e1, r2.1, sql_mono g2.ph hh, by rw [atI_map, z]; rfl, q _ H2 P2 fz (g1.trans g2) ⟨rfl, rfl⟩⟩
      · rename_i s i
        split at hm
        · rename_i hl
          left
          refine ⟨P, S, T, ρ, .str s, w, ea, fun x H1 P1 U1 g1 r1 => ⟨P1, S, T, ρ, .int i, w.grow g1, eb, fun y H2 P2 U2 g2 r2 => ?_⟩⟩
          cases z : atI s i with
          | none => rw [z] at hm; cases hm
          | some k =>
            rw [z] at hm; cases hm
            exact .inr (.inr ⟨⟨s.toArray⟩, i, k, r1.1, r2.1, by rw [str_len]; exact lim_le hl, by simpa using z, q _ H2 P2 fz (g1.trans g2) ⟨rfl, rfl⟩⟩)
        · cases hm
      · rename_i o ks ds
        right
        cases z : keyD db with
        | none => rw [z] at hm; cases hm
        | some k =>
          rw [z] at hm
          refine ⟨P, S, T, ρ, .dK o ks ds, w, ea, fun x H1 P1 U1 g1 r1 => ⟨P1, S, T, ρ, _, w.grow g1, eb, fun y H2 P2 U2 g2 r2 => ?_⟩⟩
          obtain ⟨p, xs, e1, hh, n, ey, T', rl⟩ := (dict_under g2.ph) o ks ds rfl k z (r1.gr g2) r2
          obtain ⟨v, T2, h1, h2⟩ := under_val rl n hm
          exact ⟨p, v, e1, .inl ⟨_, k, .inl hh, ey, h1.symm⟩, q v H2 P2 T2 (g1.trans g2) h2⟩
      · cases hm

def cutL {α : Type} (xs : List α) (lo hi : Option Int) : List α := (xs.drop (HT.sIx xs.length 0 lo)).take (HT.sIx xs.length xs.length hi - HT.sIx xs.length 0 lo)
def slD (lo hi : Option Int) : D → Option D
  | .lst _ ds => if frzL ds = true then some (.lst true (cutL ds lo hi)) else none
  | .tup ds => if frzL ds = true then some (.tup (cutL ds lo hi)) else none
  | .scr ns => some (.lst true ((cutL ns lo hi).map .int))
  | .str s => if s.length ≤ LIM then some (.str (cutL s lo hi)) else none
  | _ => none
abbrev OM := List D → Option (Option Int)
def noM : OM := fun _ => some none
def soM (m : RM) : OM := fun ρ => (m ρ).bind fun d => match d with | .int i => some (some i) | _ => none
def slM (m : RM) (lo hi : OM) : RM := fun ρ => (m ρ).bind fun d => (lo ρ).bind fun l => (hi ρ).bind fun h => slD l h d
def tOM (c : LC) (E : En) (m : OM) : TO := fun σ H Q => ∃ P S T ρ o, Wd c E P S T σ H ρ ∧ m ρ = some o ∧ ∀ H' P', Gr P H P' H' → Q o H'
theorem o_none : PO X none (tOM ⟨X.K, cl, X.w⟩ E noM) := ⟨fun pins s σ H Q I ⟨P, S, T, ρ, o, w, hm, q⟩ => by
  cases hm
  exact po_none.run pins s σ H Q I (q H P (.refl w.ph))⟩
theorem o_some (h : PE X e (tR ⟨X.K, cl, X.w⟩ E m)) : PO X (some e) (tOM ⟨X.K, cl, X.w⟩ E (soM m)) := ⟨fun pins s σ H Q I ⟨P, S, T, ρ, o, w, hm, q⟩ => by
  refine (po_some h).run pins s σ H Q I ?_
  unfold soM at hm
  cases ea : m ρ with
  | none => rw [ea] at hm; cases hm
  | some da =>
    rw [ea] at hm
    cases da with
    | int i =>
      cases hm
      exact ⟨P, S, T, ρ, .int i, w, ea, fun v H' P' U g r => ⟨i, r.1, q H' P' g⟩⟩
    | _ => cases hm⟩
theorem RepL.cut {c : LC} {P H : Hp} {ds : List D} {xs : List V} (r : RepL c P H ds xs fz) (lo hi : Option Int) : RepL c P H (cutL ds lo hi) (cutV xs lo hi) fz := by
  unfold cutL cutV
  rw [r.length]
  exact (r.drop _).take _
theorem cutL_map {α β : Type} (f : α → β) (xs : List α) (lo hi : Option Int) : cutL (xs.map f) lo hi = (cutL xs lo hi).map f := by
  unfold cutL
  rw [List.length_map, ← List.map_drop, ← List.map_take]
theorem repL_ints {c : LC} {P H : Hp} : ∀ ns : List Int, RepL c P H (ns.map .int) (ns.map .int) fz
  | [] => ⟨rfl, rfl⟩
  | n :: ns => ⟨.int n, _, fz, fz, rfl, ⟨rfl, rfl⟩, repL_ints ns, (fa_fz fz).symm⟩
theorem f_sl {lo hi : Option Expr} {ml mh : OM} {p2 : Pos} (ha : PE X a (tR ⟨X.K, cl, X.w⟩ E ma)) (hl : PO X lo (tOM ⟨X.K, cl, X.w⟩ E ml)) (hh : PO X hi (tOM ⟨X.K, cl, X.w⟩ E mh)) : PE X (.Subscript a (.Slice lo hi none p2) pos) (tF ⟨X.K, cl, X.w⟩ E (slM ma ml mh)) := by
  refine PE_imp (pe_slice (SlR.or sl_list (SlR.or sl_tupA sl_str)) ha hl hh) fun σ H Q ⟨P, S, T, ρ, d, w, hm, q⟩ => ?_
  unfold slM at hm
  cases ea : ma ρ with
  | none => rw [ea] at hm; cases hm
  | some da =>
    cases el : ml ρ with
    | none => rw [ea, el] at hm; cases hm
    | some l =>
      cases eh : mh ρ with
      | none => rw [ea, el, eh] at hm; cases hm
      | some h =>
        rw [ea, el, eh] at hm
        replace hm : slD l h da = some d := hm
        refine ⟨P, S, T, ρ, da, w, ea, fun x H1 P1 U1 g1 r1 => ⟨P1, S, T, ρ, l, w.grow g1, el, fun H2 P2 g2 => ⟨P2, S, T, ρ, h, (w.grow g1).grow g2, eh, fun H3 P3 g3 => ?_⟩⟩⟩
        have r3 := (r1.gr g2).gr g3
        have gg := (g1.trans g2).trans g3
        unfold slD at hm
        split at hm
        · rename_i o ds
          split at hm
          · rename_i hf
            cases hm
            obtain ⟨p, xs, e1, hh, rl⟩ := lst_heap0 g3.ph r3 hf
            exact .inl ⟨p, xs, e1, .inl (.inl hh), (q.grow gg).lst g3.ph (rl.cut l h)⟩
          · cases hm
        · rename_i ds
          split at hm
          · rename_i hf
            cases hm
            obtain ⟨p, xs, e1, hh, hp, rl⟩ := tup_heap0 g3.ph r3 hf
            refine .inr (.inl ⟨p, xs, e1, hh, fun z => ?_, fun _ => (q.grow gg).tup g3.ph (rl.cut l h)⟩)
            have e2 : cutL ds l h = ds := by
              unfold cutL
              rw [rl.length, z.1, z.2, List.drop_zero, Nat.sub_zero, ← rl.length, List.take_length]
            rw [e2] at q
            exact (q.grow gg).flat g3.ph ⟨p, xs, e1 ▸ rfl, hp, rl⟩
          · cases hm
        · rename_i ns
          cases hm
          obtain ⟨p, e1, hh, _⟩ := r3
          refine .inl ⟨p, _, e1, sql_mono g3.ph hh, ?_⟩
          have := (q.grow gg).lst (xs := (cutL ns l h).map .int) g3.ph (repL_ints _)
          have e2 : cutV (ns.map V.int) l h = (cutL ns l h).map .int := cutL_map V.int ns l h
          rw [e2]
          exact this
        · rename_i s
          split at hm
          · rename_i hl
            cases hm
            refine .inr (.inr ⟨⟨s.toArray⟩, r3.1, by rw [str_len]; exact lim_le hl, (q.grow gg).flat g3.ph ⟨?_, rfl⟩⟩)
            unfold cutS cutL
            rw [str_len]
          · cases hm
        · cases hm

def flatD : D → Bool
  | .non => true | .bl _ => true | .int _ => true | .str _ => true | _ => false
def eqF : D → D → Bool
  | .non, .non => true
  | .bl a, .bl b => a == b
  | .bl a, .int b => (if a then 1 else 0) == b
  | .int a, .bl b => a == (if b then 1 else 0)
  | .int a, .int b => a == b
  | .str a, .str b => a == b
  | _, _ => false
theorem flat_v {c : LC} {P H : Hp} : ∀ {d : D} {v : V} {U : FP}, flatD d = true → Rep c P H d v U → flatV v = true
  | .non, v, U, _, r => by rw [r.1]; rfl
  | .bl _, v, U, _, r => by rw [r.1]; rfl
  | .int _, v, U, _, r => by rw [r.1]; rfl
  | .str _, v, U, _, r => by rw [r.1]; rfl
theorem str_beq (a b : List Nat) : ((⟨a.toArray⟩ : Str) == ⟨b.toArray⟩) = (a == b) := by
  rw [Bool.eq_iff_iff, beq_iff_eq, beq_iff_eq]
  exact ⟨fun h => by have := congrArg (fun z : Str => z.cps.toList) h; simpa using this, fun h => by rw [h]⟩
theorem eqF_v {c : LC} {P H : Hp} {d e : D} {v u : V} {U1 U2 : FP} (h1 : flatD d = true) (h2 : flatD e = true) (r1 : Rep c P H d v U1) (r2 : Rep c P H e u U2) : eqV v u = eqF d e := by
  cases d <;> first | cases h1 | skip
  all_goals (cases e <;> first | cases h2 | skip)
  all_goals (rw [r1.1, r2.1])
  all_goals first
    | rfl
    | exact str_beq _ _
theorem any_v {c : LC} {P H : Hp} {d : D} {v : V} {U1 : FP} (h1 : flatD d = true) (r1 : Rep c P H d v U1) : ∀ {ds : List D} {xs : List V} {U2 : FP}, ds.all flatD = true → RepL c P H ds xs U2 → xs.all flatV = true ∧ inV v xs = ds.any (fun y => eqF y d)
  | [], xs, U2, _, r => by rw [r.1]; exact ⟨rfl, rfl⟩
  | e :: ds, xs, U2, h, ⟨y, ys, T, T2, e1, r, rs, _⟩ => by
    simp only [List.all_cons, Bool.and_eq_true] at h
    obtain ⟨k1, k2⟩ := any_v h1 r1 h.2 rs
    subst e1
    refine ⟨by rw [List.all_cons, flat_v h.1 r, k1]; rfl, ?_⟩
    unfold inV at k2 ⊢
    rw [List.any_cons, List.any_cons, k2, eqF_v h.1 h1 r r1]
def inB : D → D → Option Bool
  | .str [k], .str z => some (decide (k ∈ z))
  | x, .lst _ ds => if flatD x = true ∧ ds.all flatD = true then some (ds.any fun y => eqF y x) else none
  | x, .tup ds => if flatD x = true ∧ ds.all flatD = true then some (ds.any fun y => eqF y x) else none
  | .str x, .kst ss => some (ss.any fun y => y == x)
  | x, .dK _ ks ds => (keyD x).map fun k => (under ks ds k).isSome
  | _, _ => none
def inD (x y : D) : Option D := (inB x y).map .bl
def ninD (x y : D) : Option D := (inB x y).map fun k => .bl (!k)
theorem kst_any {x : List Nat} : ∀ ss : List (List Nat), (ss.map fun s => V.str ⟨s.toArray⟩).all flatV = true ∧ inV (.str ⟨x.toArray⟩) (ss.map fun s => V.str ⟨s.toArray⟩) = ss.any fun y => y == x
  | [] => ⟨rfl, rfl⟩
  | s :: ss => by
    obtain ⟨h1, h2⟩ := kst_any (x := x) ss
    refine ⟨by rw [List.map_cons, List.all_cons, h1]; rfl, ?_⟩
    unfold inV at h2 ⊢
    rw [List.map_cons, List.any_cons, List.any_cons, h2]
    show ((⟨s.toArray⟩ : Str) == ⟨x.toArray⟩ || _) = _
    rw [str_beq]
theorem isSome_under {c : LC} {P H : Hp} {κ : Type} [DecidableEq κ] {ks : List κ} {ds : List D} {xs : List V} {S : FP} {k : κ} (r : RepL c P H ds xs S) (n : ks.length = xs.length) : (valV (ks.zip xs) k).isSome = (under ks ds k).isSome := by
  cases h : under ks ds k with
  | none => rw [under_none r n h]; rfl
  | some d => obtain ⟨x, T, h1, _⟩ := under_val r n h; rw [h1]; rfl
def tIn (K : PySem.W.Frag) (neg : Bool) (ta tb : TE) : TE := fun σ H Q =>
  tOp (fun x y H Q => (∃ (c : Nat) (z : Str), x = .str ⟨#[c]⟩ ∧ y = .str z ∧ Q (.bl (if neg then !decide (c ∈ z.cps.toList) else decide (c ∈ z.cps.toList))) H) ∨ rIn K neg x y H Q) ta tb σ H Q ∨ (if neg then tDNotIn ta tb else tDIn ta tb) σ H Q
theorem tIn_run {c : LC} {neg : Bool} {σ : St} {H : Hp} {Q : VK} {P : Hp} {S T : FP} {ρ : List D} {da db : D} {k : Bool} (w : Wd c E P S T σ H ρ) (ea : ma ρ = some da) (eb : mb ρ = some db) (hm : inB da db = some k)
    (q : ∀ H' P', Gr P H P' H' → Q (.bl (if neg then !k else k)) H') : tIn c.K neg (tR c E ma) (tR c E mb) σ H Q := by
  have seq : ∀ (hf : flatD da = true) (ds : List D), ds.all flatD = true → (k = ds.any fun y => eqF y da) → ∀ H2 P2 x y U1, Gr P H P2 H2 → Rep c P2 H2 da x U1 → (∃ p xs U2, y = V.ref p ∧ (SqL c.K H2 p xs ∨ SqT c.K H2 p xs) ∧ RepL c P2 H2 ds xs U2) → rIn c.K neg x y H2 Q := by
    intro hf ds hds hk H2 P2 x y U1 g r1 ⟨p, xs, U2, e1, hs, rl⟩
    obtain ⟨k1, k2⟩ := any_v hf r1 hds rl
    refine ⟨p, xs, e1, hs, flat_v hf r1, k1, ?_⟩
    rw [k2, ← hk]
    exact q H2 P2 g
  unfold inB at hm
  split at hm
  · rename_i j z
    cases hm
    refine .inl ⟨P, S, T, ρ, _, w, ea, fun x H1 P1 U1 g1 r1 => ⟨P1, S, T, ρ, _, w.grow g1, eb, fun y H2 P2 U2 g2 r2 => .inl ⟨j, _, r1.1, r2.1, by simpa using q H2 P2 (g1.trans g2)⟩⟩⟩
  · rename_i o ds
    split at hm
    · rename_i hf
      cases hm
      refine .inl ⟨P, S, T, ρ, _, w, ea, fun x H1 P1 U1 g1 r1 => ⟨P1, S, T, ρ, _, w.grow g1, eb, fun y H2 P2 U2 g2 r2 => .inr ?_⟩⟩
      obtain ⟨p, xs, T', e1, hh, rl, _⟩ := lst_heap g2.ph r2
      exact seq hf.1 ds hf.2 rfl H2 P2 x y U1 (g1.trans g2) (r1.gr g2) ⟨p, xs, T', e1, .inl (.inl (.inl hh)), rl⟩
    · cases hm
  · rename_i ds
    split at hm
    · rename_i hf
      cases hm
      refine .inl ⟨P, S, T, ρ, _, w, ea, fun x H1 P1 U1 g1 r1 => ⟨P1, S, T, ρ, _, w.grow g1, eb, fun y H2 P2 U2 g2 r2 => .inr ?_⟩⟩
      obtain ⟨p, xs, e1, hh, rl⟩ := r2
      exact seq hf.1 ds hf.2 rfl H2 P2 x y U1 (g1.trans g2) (r1.gr g2) ⟨p, xs, U2, e1, .inr (sqt_mono g2.ph hh), rl⟩
    · cases hm
  · rename_i x0 ss
    cases hm
    refine .inl ⟨P, S, T, ρ, _, w, ea, fun x H1 P1 U1 g1 r1 => ⟨P1, S, T, ρ, _, w.grow g1, eb, fun y H2 P2 U2 g2 r2 => .inr ?_⟩⟩
    obtain ⟨p, e1, hh, _⟩ := r2
    obtain ⟨k1, k2⟩ := kst_any (x := x0) ss
    refine ⟨p, _, e1, .inr (sqt_mono g2.ph hh), by rw [r1.1]; rfl, k1, ?_⟩
    rw [r1.1, k2]
    exact q H2 P2 (g1.trans g2)
  · rename_i o ks ds
    cases z : keyD da with
    | none => rw [z] at hm; cases hm
    | some kk =>
      rw [z] at hm
      cases hm
      right
      have run : ∀ H2 P2 x y U1 U2, Gr P H P2 H2 → Rep c P2 H2 da x U1 → Rep c P2 H2 (.dK o ks ds) y U2 → ∃ a o', y = V.ref a ∧ DGet H2 a x o' ∧ o'.isSome = (under ks ds kk).isSome := by
        intro H2 P2 x y U1 U2 g r1 r2
        obtain ⟨p, xs, e1, hh, n, ey, T', rl⟩ := (dict_under g.ph) o ks ds rfl kk z r2 r1
        exact ⟨p, _, e1, .inl ⟨_, kk, .inl hh, ey, rfl⟩, isSome_under rl n⟩
      cases neg with
      | true =>
        refine ⟨P, S, T, ρ, _, w, ea, fun x H1 P1 U1 g1 r1 => ⟨P1, S, T, ρ, _, w.grow g1, eb, fun y H2 P2 U2 g2 r2 => ?_⟩⟩
        obtain ⟨a, o', e1, dg, es⟩ := run H2 P2 x y U1 U2 (g1.trans g2) (r1.gr g2) r2
        exact ⟨a, o', e1, dg, by rw [es]; exact q H2 P2 (g1.trans g2)⟩
      | false =>
        refine ⟨P, S, T, ρ, _, w, ea, fun x H1 P1 U1 g1 r1 => ⟨P1, S, T, ρ, _, w.grow g1, eb, fun y H2 P2 U2 g2 r2 => ?_⟩⟩
        obtain ⟨a, o', e1, dg, es⟩ := run H2 P2 x y U1 U2 (g1.trans g2) (r1.gr g2) r2
        exact ⟨a, o', e1, dg, by rw [es]; exact q H2 P2 (g1.trans g2)⟩
  · cases hm
theorem opr_inS : OpR X (compareOp .In) (fun x y H Q => (∃ (c : Nat) (z : Str), x = .str ⟨#[c]⟩ ∧ y = .str z ∧ Q (.bl (if false = true then !decide (c ∈ z.cps.toList) else decide (c ∈ z.cps.toList))) H) ∨ rIn X.K false x y H Q) := OpR_or op_in_sign op_in_seq
theorem opr_ninS : OpR X (compareOp .NotIn) (fun x y H Q => (∃ (c : Nat) (z : Str), x = .str ⟨#[c]⟩ ∧ y = .str z ∧ Q (.bl (if true = true then !decide (c ∈ z.cps.toList) else decide (c ∈ z.cps.toList))) H) ∨ rIn X.K true x y H Q) := OpR_or op_notIn_sign op_notIn_seq
theorem m2_split {f : D → D → Option D} {ρ : List D} {d : D} (h : m2 f ma mb ρ = some d) : ∃ da db, ma ρ = some da ∧ mb ρ = some db ∧ f da db = some d := by
  unfold m2 at h
  cases ea : ma ρ with
  | none => rw [ea] at h; cases h
  | some da =>
    cases eb : mb ρ with
    | none => rw [ea, eb] at h; cases h
    | some db => rw [ea, eb] at h; exact ⟨da, db, rfl, rfl, h⟩
theorem inD_split {x y d : D} (h : inD x y = some d) : ∃ k, inB x y = some k ∧ d = .bl k := by
  unfold inD at h
  cases z : inB x y with
  | none => rw [z] at h; cases h
  | some k => rw [z] at h; cases h; exact ⟨k, rfl, rfl⟩
theorem ninD_split {x y d : D} (h : ninD x y = some d) : ∃ k, inB x y = some k ∧ d = .bl (!k) := by
  unfold ninD at h
  cases z : inB x y with
  | none => rw [z] at h; cases h
  | some k => rw [z] at h; cases h; exact ⟨k, rfl, rfl⟩
theorem f_in (hu : X.A.units + 64 < cLine) (ha : PE X a (tR ⟨X.K, cl, X.w⟩ E ma)) (hb : PE X b (tR ⟨X.K, cl, X.w⟩ E mb)) (hm : behindInMarks .In b = false := by rfl) : PE X (.Compare a [.In] [b] pos) (tF ⟨X.K, cl, X.w⟩ E (m2 inD ma mb)) :=
  PE_imp (PE_or (pe_cmpR opr_inS ha hb hm) (pe_cmp (pc_din (Nat.lt_of_le_of_lt (by omega) hu) ha hb) hm)) fun σ H Q ⟨P, S, T, ρ, d, w, h, q⟩ => by
    obtain ⟨da, db, ea, eb, h⟩ := m2_split h
    obtain ⟨k, h2, rfl⟩ := inD_split h
    exact tIn_run (neg := false) w ea eb h2 fun H' P' g => q _ H' P' fz g ⟨rfl, rfl⟩ (fun _ => Nat.zero_le _) fun a z => by simp [fz] at z
theorem t_in (hu : X.A.units + 64 < cLine) (ha : PE X a (tR ⟨X.K, cl, X.w⟩ E ma)) (hb : PE X b (tR ⟨X.K, cl, X.w⟩ E mb)) (hm : behindInMarks .In b = false := by rfl) : PT X (.Compare a [.In] [b] pos) (tT ⟨X.K, cl, X.w⟩ E (bM (m2 inD ma mb))) :=
  PT_imp (PT_or (pt_cmpR opr_inS ha hb hm) (pt_cmp (pc_din (Nat.lt_of_le_of_lt (by omega) hu) ha hb) hm)) fun σ H Q ⟨P, S, T, ρ, d, w, h, q⟩ => by
    obtain ⟨da, db, ea, eb, h⟩ := m2_split (bM_some h)
    obtain ⟨k, h2, e⟩ := inD_split h
    cases e
    exact tIn_run (neg := false) (Q := fun x H' => ∃ k, x = .bl k ∧ Q k H') w ea eb h2 fun H' P' g => ⟨_, rfl, q H' P' g⟩
theorem t_nin (hu : X.A.units + 64 < cLine) (ha : PE X a (tR ⟨X.K, cl, X.w⟩ E ma)) (hb : PE X b (tR ⟨X.K, cl, X.w⟩ E mb)) (hm : behindInMarks .NotIn b = false := by rfl) : PT X (.Compare a [.NotIn] [b] pos) (tT ⟨X.K, cl, X.w⟩ E (bM (m2 ninD ma mb))) :=
  PT_imp (PT_or (pt_cmpR opr_ninS ha hb hm) (pt_cmp (pc_dnotin (Nat.lt_of_le_of_lt (by omega) hu) ha hb) hm)) fun σ H Q ⟨P, S, T, ρ, d, w, h, q⟩ => by
    obtain ⟨da, db, ea, eb, h⟩ := m2_split (bM_some h)
    obtain ⟨k, h2, e⟩ := ninD_split h
    cases e
    exact tIn_run (neg := true) (Q := fun x H' => ∃ k, x = .bl k ∧ Q k H') w ea eb h2 fun H' P' g => ⟨_, rfl, q H' P' g⟩
end
end LI

namespace LI
open PySem L2

section
variable {X : Cx} {cl : Nat → Addr} {E : En} {e a b : Expr} {pos : Pos} {m ma mb : RM}
def truD : D → Option Bool
  | .non => some false
  | .bl b => some b
  | .int i => some (i != 0)
  | .str s => if s.length ≤ LIM then some (!s.isEmpty) else none
  | .tup ds => some (!ds.isEmpty)
  | .lst _ ds => some (!ds.isEmpty)
  | .scr ns => some (!ns.isEmpty)
  | _ => none
def truM (m : RM) : BM := fun ρ => (m ρ).bind truD
theorem emp_eq {α β : Type} {xs : List α} {ys : List β} (h : xs.length = ys.length) : xs.isEmpty = ys.isEmpty := by
  cases xs <;> cases ys <;> first | rfl | (simp at h)
theorem truD_v {c : LC} {P H : Hp} (e : Ex P H) : ∀ {d : D} {v : V} {U : FP} {k : Bool}, truD d = some k → Rep c P H d v U → TruV c.K v H k
  | .non, v, U, k, h, r => by cases h; rw [r.1]; rfl
  | .bl b, v, U, k, h, r => by cases h; rw [r.1]; rfl
  | .int b, v, U, k, h, r => by cases h; rw [r.1]; rfl
  | .str s, v, U, k, h, r => by
    replace h : (if s.length ≤ LIM then some (!s.isEmpty) else none) = some k := h
    by_cases hl : s.length ≤ LIM
    · rw [if_pos hl] at h
      cases h
      rw [r.1]
      refine ⟨by rw [str_len]; exact lim_le hl, ?_⟩
      rw [str_len]
      cases s with
      | nil => rfl
      | cons x s =>
        have : ((x :: s).length : Int) ≠ 0 := by rw [List.length_cons]; omega
        simp [bne, this]
        omega
    · rw [if_neg hl] at h; cases h
  | .tup ds, v, U, k, h, ⟨a, xs, e1, hp, rl⟩ => by cases h; rw [e1]; exact .inr (.inl ⟨xs, sqt_mono e hp, by rw [emp_eq rl.length]⟩)
  | .lst o ds, v, U, k, h, r => by
    cases h
    obtain ⟨p, xs, T, e1, hh, rl, _⟩ := lst_heap e r
    rw [e1]
    exact .inl ⟨xs, .inl (.inl hh), by rw [emp_eq rl.length]⟩
  | .scr ns, v, U, k, h, ⟨a, e1, hp, _⟩ => by cases h; rw [e1]; exact .inl ⟨_, sql_mono e hp, by rw [emp_eq (List.length_map (f := V.int))]⟩
  | .gone, _, _, _, h, _ => by cases h
  | .kst _, _, _, _, h, _ => by cases h
  | .dK .., _, _, _, h, _ => by cases h
  | .dT .., _, _, _, h, _ => by cases h
  | .dN .., _, _, _, h, _ => by cases h
  | .obj .., _, _, _, h, _ => by cases h
theorem t_val (ha : PE X a (tR ⟨X.K, cl, X.w⟩ E m)) (he : ∀ whole, isTrue a X.env whole = (do let v ← whole; standAt a.pos; holding [v] (truthy v)) := by intro _; rfl) : PT X a (tT ⟨X.K, cl, X.w⟩ E (truM m)) :=
  PT_imp (pt_truth ha he) fun σ H Q ⟨P, S, T, ρ, b, w, hm, q⟩ => by
    unfold truM at hm
    cases ea : m ρ with
    | none => rw [ea] at hm; cases hm
    | some d =>
      rw [ea] at hm
      exact ⟨P, S, T, ρ, d, w, ea, fun v H' P' U g r => ⟨b, truD_v g.ph hm r, q H' P' g⟩⟩
def notB (m : BM) : BM := fun ρ => (m ρ).map not
def andB (ma mb : BM) : BM := fun ρ => (ma ρ).bind fun k => if k = true then mb ρ else some false
def orB (ma mb : BM) : BM := fun ρ => (ma ρ).bind fun k => if k = true then some true else mb ρ
theorem t_not {m : BM} (h : PT X a (tT ⟨X.K, cl, X.w⟩ E m)) : PT X (.UnaryOp .Not a pos) (tT ⟨X.K, cl, X.w⟩ E (notB m)) := PT_imp (pt_not h) fun σ H Q ⟨P, S, T, ρ, b, w, hm, q⟩ => by
  unfold notB at hm
  cases ea : m ρ with
  | none => rw [ea] at hm; cases hm
  | some k =>
    rw [ea] at hm
    cases hm
    exact ⟨P, S, T, ρ, k, w, ea, q⟩
theorem w_and1 {m : BM} (h : PT X a (tT ⟨X.K, cl, X.w⟩ E m)) : PW X (.BoolOp .And [a] pos) (tT ⟨X.K, cl, X.w⟩ E m) := pw_and1 h
theorem w_or1 {m : BM} (h : PT X a (tT ⟨X.K, cl, X.w⟩ E m)) : PW X (.BoolOp .Or [a] pos) (tT ⟨X.K, cl, X.w⟩ E m) := pw_or1 h
theorem w_and {ma mb : BM} {rest : List Expr} (h : PT X a (tT ⟨X.K, cl, X.w⟩ E ma)) (k : PW X (.BoolOp .And (b :: rest) pos) (tT ⟨X.K, cl, X.w⟩ E mb)) : PW X (.BoolOp .And (a :: b :: rest) pos) (tT ⟨X.K, cl, X.w⟩ E (andB ma mb)) :=
  PW_imp (pw_and h k) fun σ H Q ⟨P, S, T, ρ, d, w, hm, q⟩ => by
    unfold andB at hm
    cases ea : ma ρ with
    | none => rw [ea] at hm; cases hm
    | some x =>
      rw [ea] at hm
      refine ⟨P, S, T, ρ, x, w, ea, fun H' P' g => ?_⟩
      cases x with
      | true => exact iteT ⟨P', S, T, ρ, d, w.grow g, hm, fun H2 P2 g2 => q H2 P2 (g.trans g2)⟩
      | false => cases hm; exact iteF (q H' P' g)
theorem w_or {ma mb : BM} {rest : List Expr} (h : PT X a (tT ⟨X.K, cl, X.w⟩ E ma)) (k : PW X (.BoolOp .Or (b :: rest) pos) (tT ⟨X.K, cl, X.w⟩ E mb)) : PW X (.BoolOp .Or (a :: b :: rest) pos) (tT ⟨X.K, cl, X.w⟩ E (orB ma mb)) :=
  PW_imp (pw_or h k) fun σ H Q ⟨P, S, T, ρ, d, w, hm, q⟩ => by
    unfold orB at hm
    cases ea : ma ρ with
    | none => rw [ea] at hm; cases hm
    | some x =>
      rw [ea] at hm
      refine ⟨P, S, T, ρ, x, w, ea, fun H' P' g => ?_⟩
      cases x with
      | true => cases hm; exact iteT (q H' P' g)
      | false => exact iteF ⟨P', S, T, ρ, d, w.grow g, hm, fun H2 P2 g2 => q H2 P2 (g.trans g2)⟩
theorem t_w {m : BM} (h : PW X a (tT ⟨X.K, cl, X.w⟩ E m)) : PT X a (tT ⟨X.K, cl, X.w⟩ E m) := h.pt

def notD (m : RM) : RM := fun ρ => ((m ρ).bind truD).map fun k => .bl (!k)
def andM (ma mb : RM) : RM := fun ρ => (bM ma ρ).bind fun k => if k = true then mb ρ else some (.bl false)
def orM (ma mb : RM) : RM := fun ρ => (bM ma ρ).bind fun k => if k = true then some (.bl true) else mb ρ
theorem f_not (ha : PE X a (tR ⟨X.K, cl, X.w⟩ E m)) : PE X (.UnaryOp .Not a pos) (tF ⟨X.K, cl, X.w⟩ E (notD m)) := PE_imp (pe_notT ha) fun σ H Q ⟨P, S, T, ρ, d, w, hm, q⟩ => by
  unfold notD at hm
  cases ea : m ρ with
  | none => rw [ea] at hm; cases hm
  | some da =>
    rw [ea] at hm
    cases et : truD da with
    | none => rw [Option.bind_some, et] at hm; cases hm
    | some k =>
      rw [Option.bind_some, et] at hm
      cases hm
      exact ⟨P, S, T, ρ, da, w, ea, fun v H' P' U g r => ⟨k, truD_v g.ph et r, (q.grow g).flat g.ph ⟨rfl, rfl⟩⟩⟩
theorem f_one {op} {m : RM} (h : PE X a (tF ⟨X.K, cl, X.w⟩ E m)) : PE X (.BoolOp op [a] pos) (tF ⟨X.K, cl, X.w⟩ E m) := pe_one h
theorem f_and {rest : List Expr} (ha : PE X a (tR ⟨X.K, cl, X.w⟩ E ma)) (hb : PE X (.BoolOp .And (b :: rest) pos) (tF ⟨X.K, cl, X.w⟩ E mb)) : PE X (.BoolOp .And (a :: b :: rest) pos) (tF ⟨X.K, cl, X.w⟩ E (andM ma mb)) := PE_imp (pe_and ha hb) fun σ H Q ⟨P, S, T, ρ, d, w, hm, q⟩ => by
  unfold andM at hm
  cases ea : bM ma ρ with
  | none => rw [ea] at hm; cases hm
  | some k =>
    rw [ea] at hm
    refine ⟨P, S, T, ρ, .bl k, w, bM_some ea, fun v H' P' U g r => ⟨k, r.1, ?_⟩⟩
    cases k with
    | true => exact iteT ⟨P', S, T, ρ, d, w.grow g, hm, q.grow g⟩
    | false => cases hm; exact iteF ((q.grow g).flat g.ph ⟨rfl, rfl⟩)
def iteM (mc : BM) (ma mb : RM) : RM := fun ρ => (mc ρ).bind fun k => if k = true then ma ρ else mb ρ
def chM (f g : D → D → Option D) (ma mb mc : RM) : RM := fun ρ => (ma ρ).bind fun x => (mb ρ).bind fun y => (f x y).bind fun z => match z with | .bl true => (mc ρ).bind fun u => g y u | .bl false => some (.bl false) | _ => none
theorem ch_run {r r' : R2} {f g : D → D → Option D} {mc : RM} (hf : Op2 ⟨X.K, cl, X.w⟩ r f) (hg : Op2 ⟨X.K, cl, X.w⟩ r' g) {σ : St} {H : Hp} {Q : VK} (h : tF ⟨X.K, cl, X.w⟩ E (chM f g ma mb mc) σ H Q) : tChain r r' (tR ⟨X.K, cl, X.w⟩ E ma) (tR ⟨X.K, cl, X.w⟩ E mb) (tR ⟨X.K, cl, X.w⟩ E mc) σ H Q := by
  obtain ⟨P, S, T, ρ, d, w, hm, q⟩ := h
  unfold chM at hm
  cases ea : ma ρ with
  | none => rw [ea] at hm; cases hm
  | some da =>
    cases eb : mb ρ with
    | none => rw [ea, eb] at hm; cases hm
    | some db =>
      rw [ea, eb] at hm
      simp only [Option.bind_some] at hm
      cases ez : f da db with
      | none => rw [ez] at hm; cases hm
      | some z =>
        rw [ez, Option.bind_some] at hm
        refine ⟨P, S, T, ρ, da, w, ea, fun x H1 P1 U1 g1 r1 => ⟨P1, S, T, ρ, db, w.grow g1, eb, fun y H2 P2 U2 g2 r2 => ?_⟩⟩
        refine hf P2 H2 g2.ph _ _ _ _ _ _ _ ez (r1.gr g2) r2 _ fun v H3 P3 U3 g3 r3 _ _ => ?_
        split at hm
        · cases ec : mc ρ with
          | none => rw [ec] at hm; cases hm
          | some dc =>
            rw [ec] at hm
            refine ⟨true, r3.1, iteT ⟨P3, S, T, ρ, dc, ((w.grow g1).grow g2).grow g3, ec, fun u H4 P4 U4 g4 r4 => ?_⟩⟩
            exact hg P4 H4 g4.ph _ _ _ _ _ _ _ hm ((r2.gr g3).gr g4) r4 Q (q.grow (((g1.trans g2).trans g3).trans g4))
        · cases hm
          exact ⟨false, r3.1, iteF ((q.grow ((g1.trans g2).trans g3)).flat g3.ph ⟨rfl, rfl⟩)⟩
        · cases hm
theorem f_ch {r r' : R2} {f g : D → D → Option D} {mc : RM} {op op' : CmpOp} {c0 : Expr} (ho : OpR X (compareOp op) r) (hf : Op2 ⟨X.K, cl, X.w⟩ r f) (ho' : OpR X (compareOp op') r') (hg : Op2 ⟨X.K, cl, X.w⟩ r' g)
    (ha : PE X a (tR ⟨X.K, cl, X.w⟩ E ma)) (hb : PE X b (tR ⟨X.K, cl, X.w⟩ E mb)) (hc : PE X c0 (tR ⟨X.K, cl, X.w⟩ E mc)) (hm : lastMarks [op, op'] [b, c0] = false := by with_unfolding_all rfl) : PE X (.Compare a [op, op'] [b, c0] pos) (tF ⟨X.K, cl, X.w⟩ E (chM f g ma mb mc)) :=
  PE_imp (pe_chain ho ho' ha hb hc hm) fun _ _ _ h => ch_run hf hg h
def mA (f : List D → Option D) (ms : AM) : RM := fun ρ => (ms ρ).bind f
def OpA (c : LC) (r : List V → Hp → VK → Prop) (f : List D → Option D) : Prop := ∀ (P H : Hp), Ex P H → ∀ ds d vs U, f ds = some d → RepL c P H ds vs U → ∀ Q, FQ c P H d Q → r vs H Q
theorem opA_run {r : List V → Hp → VK → Prop} {f : List D → Option D} {ms : AM} (hf : OpA ⟨X.K, cl, X.w⟩ r f) {σ : St} {H : Hp} {Q : VK} (h : tF ⟨X.K, cl, X.w⟩ E (mA f ms) σ H Q) : tCB r (tAR ⟨X.K, cl, X.w⟩ E ms) σ H Q := by
  obtain ⟨P, S, T, ρ, d, w, hm, q⟩ := h
  unfold mA at hm
  cases ea : ms ρ with
  | none => rw [ea] at hm; cases hm
  | some ds =>
    rw [ea] at hm
    exact ⟨P, S, T, ρ, ds, w, ea, fun vs H1 P1 U1 g1 r1 => hf P1 H1 g1.ph ds d vs U1 hm r1 Q (q.grow g1)⟩
theorem f_blt {r : List V → Hp → VK → Prop} {f : List D → Option D} {ms : AM} {id : String} {x : Str} {es : List Expr} {p : Pos} (hc : CallR X (.builtin id) r) (hf : OpA ⟨X.K, cl, X.w⟩ r f) (hg : Gl X x) (hm : X.mg x = none) (hv : bootBuiltins x = some (.builtin id)) (ha : PA X (e :: es) (tAR ⟨X.K, cl, X.w⟩ E ms)) (hn : x ≠ "__name__" := by decide) (hdb : (x == ("__debug__" : Str)) = false := by decide)
    (he : starEach (e :: es) X.env = (false, eval e X.env) :: starEach es X.env := by rfl) (hpl : (backTo pos (starEach es X.env)).any (·.1) = false := by rfl) : PE X (.Call (.Name x p) (e :: es) [] pos) (tF ⟨X.K, cl, X.w⟩ E (mA f ms)) :=
  PE_imp (pe_callB hc hg hm hv ha hn hdb he hpl) fun _ _ _ h => opA_run hf h
theorem repL1 {c : LC} {P H : Hp} {d : D} {vs : List V} {U : FP} (r : RepL c P H [d] vs U) : ∃ v T, vs = [v] ∧ Rep c P H d v T := by
  obtain ⟨y, ys, T, T2, e, r1, r2, _⟩ := r
  rw [r2.1] at e
  exact ⟨y, T, e, r1⟩
def lenD : List D → Option D
  | [.str s] => if s.length ≤ LIM then some (.int s.length) else none
  | [.tup ds] => some (.int ds.length)
  | [.lst _ ds] => some (.int ds.length)
  | [.scr ns] => some (.int ns.length)
  | [.dK _ ks _] => some (.int ks.length)
  | _ => none
def rLenA (K : PySem.W.Frag) : List V → Hp → VK → Prop := fun xs H Q => (∃ x n, xs = [x] ∧ LenV K x H n ∧ Q (.int n) H) ∨ (∃ a kvs, xs = [V.ref a] ∧ H a = some (.dK kvs) ∧ Q (.int kvs.length) H)
theorem cr_len : CallR X (.builtin "len") (rLenA X.K) := call_len.or call_lenD
theorem op_lenD {c : LC} : OpA c (rLenA c.K) lenD := by
  intro P H e ds d vs U hf r Q q
  unfold lenD at hf
  split at hf
  · split at hf
    · rename_i s hl
      cases hf
      obtain ⟨v, T, rfl, r1⟩ := repL1 r
      exact .inl ⟨_, _, rfl, by rw [r1.1]; exact ⟨by rw [str_len]; exact lim_le hl, by rw [str_len]⟩, q.flat e ⟨rfl, rfl⟩⟩
    · cases hf
  · cases hf
    obtain ⟨v, T, rfl, a, xs, rfl, h, rl⟩ := repL1 r
    exact .inl ⟨_, _, rfl, .inr ⟨xs, sqt_mono e h, rfl⟩, by rw [← rl.length]; exact q.flat e ⟨rfl, rfl⟩⟩
  · cases hf
    obtain ⟨v, T, rfl, r1⟩ := repL1 r
    obtain ⟨a, xs, T', rfl, h, rl, _⟩ := lst_heap e r1
    exact .inl ⟨_, _, rfl, .inl ⟨xs, .inl (.inl h), rfl⟩, by rw [← rl.length]; exact q.flat e ⟨rfl, rfl⟩⟩
  · cases hf
    obtain ⟨v, T, rfl, a, rfl, h, _⟩ := repL1 r
    exact .inl ⟨_, _, rfl, .inl ⟨_, sql_mono e h, rfl⟩, by rw [List.length_map]; exact q.flat e ⟨rfl, rfl⟩⟩
  · rename_i o ks ds'
    cases hf
    obtain ⟨v, T, rfl, r1⟩ := repL1 r
    right
    have : ∃ a xs, v = .ref a ∧ H a = some (.dK (ks.zip xs)) ∧ ks.length = xs.length := by
      cases o with
      | true => obtain ⟨a, xs, T, e1, h, n, _⟩ := r1; exact ⟨a, xs, e1, h, n⟩
      | false => obtain ⟨a, xs, e1, h, n, _⟩ := r1; exact ⟨a, xs, e1, e _ _ h, n⟩
    obtain ⟨a, xs, rfl, h, n⟩ := this
    refine ⟨a, _, rfl, h, ?_⟩
    rw [List.length_zip, ← n, Nat.min_self]
    exact q.flat e ⟨rfl, rfl⟩
  · cases hf
def max2D : List D → Option D
  | [.int i, .int j] => some (.int (if j > i then j else i))
  | _ => none
def min2D : List D → Option D
  | [.int i, .int j] => some (.int (if j < i then j else i))
  | _ => none
def intD : List D → Option D
  | [.int i] => some (.int i)
  | [.bl k] => some (.int (if k then 1 else 0))
  | _ => none
def intsD : List D → Option (List Int)
  | [] => some []
  | .int i :: ds => (intsD ds).map fun is => i :: is
  | _ :: _ => none
def sumD : List D → Option D
  | [.lst _ ds] => (intsD ds).map fun is => .int is.sum
  | _ => none
def listD : List D → Option D
  | [.lst _ ds] => if frzL ds = true then some (.lst true ds) else none
  | [.tup ds] => if frzL ds = true then some (.lst true ds) else none
  | [.scr ns] => some (.lst true (ns.map .int))
  | _ => none
def tyD : D → Option String
  | .non => some "NoneType"
  | .bl _ => some "bool"
  | .int _ => some "int"
  | .str _ => some "str"
  | .scr _ => some "list"
  | .lst .. => some "list"
  | .tup _ => some "tuple"
  | .dK .. => some "dict"
  | .dT .. => some "dict"
  | _ => none
theorem ty_v {c : LC} {P H : Hp} (e : Ex P H) : ∀ {d : D} {v : V} {U : FP} {t : String}, tyD d = some t → Rep c P H d v U → TyX c.K H v (.type t)
  | .non, v, U, t, h, r => by cases h; rw [r.1]; exact .base .non
  | .bl b, v, U, t, h, r => by cases h; rw [r.1]; exact .base (.bl b)
  | .int b, v, U, t, h, r => by cases h; rw [r.1]; exact .base (.int b)
  | .str b, v, U, t, h, r => by cases h; rw [r.1]; exact .base (.str _)
  | .scr ns, v, U, t, h, ⟨a, e1, q, _⟩ => by
    cases h; rw [e1]
    rcases q with (q | ⟨o, q⟩) | ⟨o, its, n, q, q2, _⟩
    · exact .base (.lst (e _ _ q))
    · exact .base (.frz (e _ _ q))
    · exact .kList q q2
  | .tup ds, v, U, t, h, ⟨a, xs, e1, q, _⟩ => by
    cases h; rw [e1]
    rcases q with (q | ⟨o, q⟩) | ⟨o, its, n, q, q2, _⟩
    · exact .base (.tup (e _ _ q))
    · exact .fTuple (e _ _ q)
    · exact .kTuple q q2
  | .lst o ds, v, U, t, h, r => by
    cases h
    obtain ⟨a, xs, T, e1, hh, _⟩ := lst_heap e r
    rw [e1]; exact .base (.lst hh)
  | .dK true _ _, v, U, t, h, ⟨a, _, _, e1, q, _⟩ => by cases h; rw [e1]; exact .base (.dK q)
  | .dK false _ _, v, U, t, h, ⟨a, _, e1, q, _⟩ => by cases h; rw [e1]; exact .base (.dK (e _ _ q))
  | .dT true _ _, v, U, t, h, ⟨a, _, _, e1, q, _⟩ => by cases h; rw [e1]; exact .base (.dT q)
  | .dT false _ _, v, U, t, h, ⟨a, _, e1, q, _⟩ => by cases h; rw [e1]; exact .base (.dT (e _ _ q))
def isiM (ty : String) (m : RM) : RM := fun ρ => (m ρ).bind fun d => (tyD d).bind fun t => (kitB t ty).map .bl
theorem f_isi {ty : String} {b0 : Expr} {x : Str} {p : Pos} (hg : Gl X x) (hm : X.mg x = none) (hv : bootBuiltins x = some (.builtin "isinstance")) (ha : PE X a (tR ⟨X.K, cl, X.w⟩ E ma)) (hb : PE X b0 (tC (.ty ty)))
    (hn : x ≠ "__name__" := by decide) (hdb : (x == ("__debug__" : Str)) = false := by decide)
    (hs1 : starEach [a, b0] X.env = (false, eval a X.env) :: starEach [b0] X.env := by rfl) (hs2 : starEach [b0] X.env = (false, eval b0 X.env) :: starEach [] X.env := by rfl) (hpl : (backTo pos (starEach [b0] X.env)).any (·.1) = false := by rfl) : PE X (.Call (.Name x p) [a, b0] [] pos) (tF ⟨X.K, cl, X.w⟩ E (isiM ty ma)) :=
  PE_imp (pe_callB call_isi hg hm hv (pa_cons ha (pa_cons hb pa_nil hs2) hs1) hn hdb hs1 hpl) fun σ H Q ⟨P, S, T, ρ, d, w, h, q⟩ => by
    unfold isiM at h
    cases ea : ma ρ with
    | none => rw [ea] at h; cases h
    | some da =>
      rw [ea, Option.bind_some] at h
      cases et : tyD da with
      | none => rw [et] at h; cases h
      | some t =>
        rw [et, Option.bind_some] at h
        cases ek : kitB t ty with
        | none => rw [ek] at h; cases h
        | some k =>
          rw [ek] at h
          cases h
          exact ⟨P, S, T, ρ, da, w, ea, fun v H1 P1 U1 g1 r1 => ⟨v, .ty ty, .type t, .type ty, k, rfl, .ty ty, ty_v g1.ph et r1, kit_ty ek, (q.grow g1).flat g1.ph ⟨rfl, rfl⟩⟩⟩
end
end LI

namespace LI
open PySem L2

def IterOK (c : LC) (P : Hp) (J : It) (ds : List D) : Prop := ∃ (G : Hp → Prop) (Y : Nat → Hp → V → Hp → Prop), Walk J ds.length G Y ∧ (∀ P2 H2, Ex P P2 → Ex P2 H2 → G H2) ∧
  ∀ i P2 H2 x H3, Ex P P2 → Ex P2 H2 → i < ds.length → Y i H2 x H3 → ∃ P3 d, Gr P2 H2 P3 H3 ∧ ds[i]? = some d ∧ Rep c P3 H3 d x fz
def tI (c : LC) (E : En) (m : AM) : TI := fun σ H R => ∃ P S T ρ ds, Wd c E P S T σ H ρ ∧ m ρ = some ds ∧ ∀ J H' P', Gr P H P' H' → IterOK c P' J ds → R J H'
theorem PI_imp {X : Cx} {tg e : Expr} {t t' : TI} (h : PI X tg e t) (k : ∀ σ H R, t' σ H R → t σ H R) : PI X tg e t' := ⟨fun pins s σ H R I q => h.run pins s σ H R I (k σ H R q)⟩
theorem PI_or {X : Cx} {tg e : Expr} {t u : TI} (h : PI X tg e t) (k : PI X tg e u) : PI X tg e (fun σ H Q => t σ H Q ∨ u σ H Q) := ⟨fun pins s σ H Q I q => q.elim (h.run pins s σ H Q I) (k.run pins s σ H Q I)⟩
def strsD (s : List Nat) : List D := s.map fun k => .str [k]
def itemsD : D → Option (List D)
  | .lst false ds => if frzL ds = true then some ds else none
  | .tup ds => if frzL ds = true then some ds else none
  | .scr ns => some (ns.map .int)
  | .str s => some (strsD s)
  | _ => none
def itM (m : RM) : AM := fun ρ => (m ρ).bind itemsD
theorem rep_get0 {c : LC} {P H : Hp} {ds : List D} {xs : List V} {i : Nat} {x : V} (r : RepL c P H ds xs fz) (h : xs[i]? = some x) : ∃ d, ds[i]? = some d ∧ Rep c P H d x fz := by
  have hi : i < ds.length := by rw [r.length]; exact (List.getElem?_eq_some_iff.mp h).1
  obtain ⟨y, T, h1, h2, h3⟩ := r.get (List.getElem?_eq_getElem hi)
  rw [h1] at h
  cases h
  have : T = fz := by funext a; have := h3 a; simp only [fz] at this ⊢; omega
  subst this
  exact ⟨_, List.getElem?_eq_getElem hi, h2⟩
theorem iter_lst {c : LC} {P : Hp} {a : Addr} {xs : List V} {ds : List D} {H : Hp} (h : SqL c.K P a xs) (r : RepL c P H ds xs fz) (hp : ∀ H', RepL c P H' ds xs fz) : IterOK c P (Itl c.K a) ds := by
  refine ⟨_, _, by rw [r.length]; exact walk_list (xs := xs), fun P2 H2 e1 e2 => sql_mono e2 (sql_mono e1 h), fun i P2 H2 x H3 e1 e2 hi y => ?_⟩
  obtain ⟨rfl, hx⟩ := y
  obtain ⟨d, h1, h2⟩ := rep_get0 (hp H3) hx
  exact ⟨P2, d, .refl e2, h1, Rep.mono e1 d x fz (fun a o z _ => by simp [fz] at z) h2⟩
theorem iter_tup {c : LC} {P : Hp} {a : Addr} {xs : List V} {ds : List D} {H : Hp} (h : SqT c.K P a xs) (r : RepL c P H ds xs fz) (hp : ∀ H', RepL c P H' ds xs fz) : IterOK c P (Itt c.K a) ds := by
  refine ⟨_, _, by rw [r.length]; exact walk_tup (xs := xs), fun P2 H2 e1 e2 => sqt_mono e2 (sqt_mono e1 h), fun i P2 H2 x H3 e1 e2 hi y => ?_⟩
  obtain ⟨rfl, hx⟩ := y
  obtain ⟨d, h1, h2⟩ := rep_get0 (hp H3) hx
  exact ⟨P2, d, .refl e2, h1, Rep.mono e1 d x fz (fun a o z _ => by simp [fz] at z) h2⟩
theorem repL_h {c : LC} {P H H' : Hp} {ds : List D} {xs : List V} (r : RepL c P H ds xs fz) : RepL c P H' ds xs fz := RepL.mono (.refl _) ds xs fz (fun a o z _ => by simp [fz] at z) r
section
variable {X : Cx} {cl : Nat → Addr} {E : En} {e a b tg : Expr} {pos : Pos} {m ma mb : RM}
theorem i_seq (h : PE X e (tR ⟨X.K, cl, X.w⟩ E m)) : PI X tg e (tI ⟨X.K, cl, X.w⟩ E (itM m)) := by
  refine PI_imp (PI_or (pi_list h) (PI_or (pi_tup h) (pi_str h))) fun σ H R ⟨P, S, T, ρ, ds, w, hm, q⟩ => ?_
  unfold itM at hm
  cases ea : m ρ with
  | none => rw [ea] at hm; cases hm
  | some d =>
    rw [ea] at hm
    replace hm : itemsD d = some ds := hm
    unfold itemsD at hm
    split at hm
    · split at hm
      · rename_i hf
        cases hm
        refine .inl ⟨P, S, T, ρ, _, w, ea, fun v H1 P1 U1 g1 r1 => ?_⟩
        obtain ⟨p, xs, e1, hp, rl⟩ := r1
        have z := RepL.frz0 _ xs _ hf rl
        subst z
        exact ⟨p, e1, ⟨xs, .inl (.inl (g1.ph _ _ hp))⟩, q _ H1 P1 g1 (iter_lst (.inl (.inl hp)) rl fun _ => repL_h rl)⟩
      · cases hm
    · split at hm
      · rename_i hf
        cases hm
        refine .inr (.inl ⟨P, S, T, ρ, _, w, ea, fun v H1 P1 U1 g1 r1 => ?_⟩)
        obtain ⟨p, xs, e1, hp, rl⟩ := r1
        have z := RepL.frz0 _ xs _ hf rl
        subst z
        exact ⟨p, e1, ⟨xs, sqt_mono g1.ph hp⟩, q _ H1 P1 g1 (iter_tup hp rl fun _ => repL_h rl)⟩
      · cases hm
    · cases hm
      refine .inl ⟨P, S, T, ρ, _, w, ea, fun v H1 P1 U1 g1 r1 => ?_⟩
      obtain ⟨p, e1, hp, _⟩ := r1
      exact ⟨p, e1, ⟨_, sql_mono g1.ph hp⟩, q _ H1 P1 g1 (iter_lst (H := H1) hp (repL_ints _) fun _ => repL_ints _)⟩
    · rename_i s
      cases hm
      refine .inr (.inr ⟨P, S, T, ρ, _, w, ea, fun v H1 P1 U1 g1 r1 => ⟨_, r1.1, q _ H1 P1 g1 ?_⟩⟩)
      refine ⟨_, _, by rw [show (strsD s).length = (⟨s.toArray⟩ : Str).cps.size by simp [strsD]]; exact walk_str, fun _ _ _ _ => True.intro, fun i P2 H2 x H3 e1 e2 hi y => ?_⟩
      obtain ⟨rfl, k, hk, rfl⟩ := y
      refine ⟨P2, .str [k], .refl e2, ?_, ⟨rfl, rfl⟩⟩
      have hk' : s[i]? = some k := by simpa using hk
      simp [strsD, hk']
    · cases hm
def upD (lo : Int) (n : Nat) : List D := (List.range n).map fun (k : Nat) => D.int (lo + (k : Int))
def rng1M (m : RM) : AM := fun ρ => (m ρ).bind fun d => match d with | .int j => if -(2 ^ 62) ≤ j ∧ j < 2 ^ 62 then some (upD 0 j.toNat) else none | _ => none
def rng2M (ma mb : RM) : AM := fun ρ => (ma ρ).bind fun x => (mb ρ).bind fun y => match x, y with | .int i, .int j => if -(2 ^ 62) ≤ i ∧ i < 2 ^ 62 ∧ -(2 ^ 62) ≤ j ∧ j < 2 ^ 62 then some (upD i (j - i).toNat) else none | _, _ => none
theorem iter_rng {c : LC} {P : Hp} (lo : Int) (n : Nat) : IterOK c P (Itr lo n) (upD lo n) := by
  refine ⟨_, _, by rw [show (upD lo n).length = n by simp [upD]]; exact walk_range, fun _ _ _ _ => True.intro, fun i P2 H2 x H3 e1 e2 hi y => ?_⟩
  obtain ⟨rfl, rfl⟩ := y
  have hi' : i < n := by simpa [upD] using hi
  refine ⟨P2, .int (lo + (i : Int)), .refl e2, ?_, ⟨rfl, rfl⟩⟩
  simp [upD, hi']
theorem i_rng1 {p : Pos} (hg : Gl X "range") (hm : X.mg "range" = none) (ha : PE X a (tR ⟨X.K, cl, X.w⟩ E m)) (hs : starEach [a] X.env = [(false, eval a X.env)] := by rfl) : PI X tg (.Call (.Name "range" p) [a] [] pos) (tI ⟨X.K, cl, X.w⟩ E (rng1M m)) :=
  PI_imp (pi_range1 hg hm (pa_cons ha pa_nil hs) hs) fun σ H R ⟨P, S, T, ρ, ds, w, h, q⟩ => by
    unfold rng1M at h
    cases ea : m ρ with
    | none => rw [ea] at h; cases h
    | some d =>
      rw [ea] at h
      cases d with
      | int j =>
        simp only [Option.bind_some] at h
        split at h
        · rename_i hb
          cases h
          exact ⟨P, S, T, ρ, _, w, ea, fun v H1 P1 U1 g1 r1 => ⟨j, by rw [r1.1], hb.1, hb.2, q _ H1 P1 g1 (iter_rng 0 _)⟩⟩
        · cases h
      | _ => cases h
abbrev TgM := D → List D → Option (List D)
theorem fa_assoc (S T U : FP) : fa (fa S T) U = fa S (fa T U) := by funext a; simp only [fa]; omega
theorem fa_comm (S T : FP) : fa S T = fa T S := by funext a; simp only [fa]; omega
theorem Wd.shrink {c : LC} {P H : Hp} {S S' T T' : FP} {σ σ' : St} {ρ ρ' : List D} (w : Wd c E P S T σ H ρ) (he : RepE c P H ρ' σ' S') (hl : ∀ a, S' a + T' a ≤ S a + T a) (ht : ∀ a, T' a ≤ T a) (hk : ∀ (i : Nat) (v : V), E.kp[i]? = some true → E.vs[i]? = some v → σ'[i]? = some (some v)) : Wd c E P S' T' σ' H ρ' :=
  ⟨he, fun a => Nat.le_trans (hl a) (w.le a), fun a h => w.out a (Nat.lt_of_lt_of_le h (hl a)), fun a h => w.th a (Nat.lt_of_lt_of_le h (ht a)), w.ph, w.p0, w.fr, w.np, fun a h => w.ns a (Nat.lt_of_lt_of_le h (hl a)), hk⟩
theorem Wd.drop {c : LC} {P H : Hp} {S T U : FP} {σ : St} {ρ : List D} (w : Wd c E P S (fa T U) σ H ρ) : Wd c E P S T σ H ρ := w.shrink w.env (fun a => by simp only [fa]; omega) (fun a => by simp only [fa]; omega) w.kp
theorem RepE.set {c : LC} {P H : Hp} {d : D} {v : V} {U : FP} (r : Rep c P H d v U) : ∀ {ρ : List D} {σ : St} {S : FP} (i : Nat), RepE c P H ρ σ S → ∃ S', RepE c P H (ρ.set i d) (σ.set i (some v)) S' ∧ ∀ a, S' a ≤ S a + U a
  | [], [], S, i, h => ⟨S, h, fun a => by omega⟩
  | d0 :: ρ, v0 :: σ, S, 0, ⟨T, T2, h1, h2, f⟩ => ⟨fa U T2, ⟨U, T2, r, h2, rfl⟩, fun a => by rw [f]; simp only [fa]; omega⟩
  | d0 :: ρ, v0 :: σ, S, i + 1, ⟨T, T2, h1, h2, f⟩ => by
    obtain ⟨S', k1, k2⟩ := RepE.set r i h2
    exact ⟨fa T S', ⟨T, S', h1, k1, rfl⟩, fun a => by have := k2 a; rw [f]; simp only [fa]; omega⟩
  | [], _ :: _, _, _, h => h.elim
  | _ :: _, [], _, _, h => h.elim
theorem Wd.store {c : LC} {P H : Hp} {S T U : FP} {σ : St} {ρ : List D} {d : D} {v : V} (w : Wd c E P S (fa T U) σ H ρ) (r : Rep c P H d v U) (i : Nat) (hk : E.kp[i]? ≠ some true) : ∃ S', Wd c E P S' T (σ.set i (some v)) H (ρ.set i d) := by
  obtain ⟨S', h1, h2⟩ := RepE.set r i w.env
  refine ⟨S', w.shrink h1 (fun a => by have := h2 a; simp only [fa]; omega) (fun a => by simp only [fa]; omega) fun j u h3 h4 => ?_⟩
  have : j ≠ i := fun z => hk (z ▸ h3)
  rw [List.getElem?_set_ne (Ne.symm this)]
  exact w.kp j u h3 h4
def tPG (c : LC) (E : En) (tl : List Nat) (f : TgM) : TG := fun v σ H Q => ∃ P S T U ρ d ρ', Wd c E P S (fa T U) σ H ρ ∧ Rep c P H d v U ∧ f d ρ = some ρ' ∧
  ∀ σ' S', Wd c E P S' T σ' H ρ' → σ'.length = σ.length → (∀ j, j ∉ tl → σ'[j]? = σ[j]?) → Q σ' H
def tPGs (c : LC) (E : En) (tl : List Nat) (f : List D → List D → Option (List D)) : TGs := fun vs σ H Q => ∃ P S T U ρ ds ρ', Wd c E P S (fa T U) σ H ρ ∧ RepL c P H ds vs U ∧ f ds ρ = some ρ' ∧
  ∀ σ' S', Wd c E P S' T σ' H ρ' → σ'.length = σ.length → (∀ j, j ∉ tl → σ'[j]? = σ[j]?) → Q σ' H
theorem PG_imp {t t' : TG} (h : PG X e t) (k : ∀ v σ H Q, t' v σ H Q → t v σ H Q) : PG X e t' := ⟨fun pins s σ H v u Q I r q => h.run pins s σ H v u Q I r (k v σ H Q q)⟩
theorem PGs_imp {es : List Expr} {t t' : TGs} (h : PGs X es t) (k : ∀ v σ H Q, t' v σ H Q → t v σ H Q) : PGs X es t' := ⟨fun pins s σ H v u Q I r q => h.run pins s σ H v u Q I r (k v σ H Q q)⟩
def nameT (i : Nat) : TgM := fun d ρ => some (ρ.set i d)
def tupT (f : List D → List D → Option (List D)) : TgM := fun d ρ => match d with | .tup ds => f ds ρ | _ => none
def nilT : List D → List D → Option (List D) := fun ds ρ => match ds with | [] => some ρ | _ => none
def consT (f : TgM) (g : List D → List D → Option (List D)) : List D → List D → Option (List D) := fun ds ρ => match ds with | d :: ds => (f d ρ).bind fun ρ => g ds ρ | _ => none
theorem g_name (i : Nat) {x : Str} (hN : X.N.Nodup) (hi : X.N[i]? = some x) (hx : Loc X.env.scope x) (hk : E.kp[i]? ≠ some true) (hf : X.fn x = true ∨ X.env.scope.names.lookup x = some .local := by first | exact .inl rfl | exact .inr rfl | assumption) : PG X (.Name x pos) (tPG ⟨X.K, cl, X.w⟩ E [i] (nameT i)) :=
  PG_imp (pg_name hN hi hx hf) fun v σ H Q ⟨P, S, T, U, ρ, d, ρ', w, r, hm, q⟩ => by
    cases hm
    obtain ⟨S', w'⟩ := w.store r i hk
    exact q _ S' w' (by simp) fun j hj => List.getElem?_set_ne (fun z => hj (by simp [z]))
theorem gs_nil : PGs X [] (tPGs ⟨X.K, cl, X.w⟩ E [] nilT) := PGs_imp pgs_nil fun v σ H Q ⟨P, S, T, U, ρ, ds, ρ', w, r, hm, q⟩ => by
  cases ds with
  | nil => cases hm; exact ⟨r.1, q σ S (w.drop) rfl fun _ _ => rfl⟩
  | cons _ _ => cases hm
theorem gs_cons {es : List Expr} {tl tl2 : List Nat} {f : TgM} {g : List D → List D → Option (List D)} (h1 : PG X e (tPG ⟨X.K, cl, X.w⟩ E tl f)) (h2 : PGs X es (tPGs ⟨X.K, cl, X.w⟩ E tl2 g))
    (hs : (assignEach (e :: es) X.env).map (·.2) = assign e X.env :: (assignEach es X.env).map (·.2) := by rfl) : PGs X (e :: es) (tPGs ⟨X.K, cl, X.w⟩ E (tl ++ tl2) (consT f g)) := PGs_imp (pgs_cons h1 h2 hs) fun v σ H Q ⟨P, S, T, U, ρ, ds, ρ', w, r, hm, q⟩ => by
  cases ds with
  | nil => cases hm
  | cons d ds =>
    obtain ⟨y, ys, U1, U2, e1, r1, r2, hu⟩ := r
    subst hu
    replace hm : ((f d ρ).bind fun ρ => g ds ρ) = some ρ' := hm
    cases ef : f d ρ with
    | none => rw [ef] at hm; cases hm
    | some ρ1 =>
      rw [ef] at hm
      refine ⟨y, ys, e1, P, S, fa T U2, U1, ρ, d, ρ1, ?_, r1, ef, fun σ1 S1 w1 l1 k1 => ⟨P, S1, T, U2, ρ1, ds, ρ', w1, r2, hm, fun σ2 S2 w2 l2 k2 => q σ2 S2 w2 (l2.trans l1) fun j hj => ?_⟩⟩
      · have : fa (fa T U2) U1 = fa T (fa U1 U2) := by rw [fa_assoc, fa_comm U2 U1]
        rw [this]; exact w
      · simp only [List.mem_append, not_or] at hj
        rw [k2 j hj.2, k1 j hj.1]
theorem g_tup {es : List Expr} {k : Nat} {tl : List Nat} {f : List D → List D → Option (List D)} {n : Nat} (hc : X.calm = true) (h : PGs X es (tPGs ⟨X.K, cl, X.w⟩ E tl f))
    (hn : (assignEach es X.env).length = n := by rfl) (hst : (assignEach es X.env).findIdx? (·.1) = none := by rfl) (hlen : ∀ ds ρ ρ', f ds ρ = some ρ' → ds.length = n := by intro ds ρ ρ' h; rcases ds with _ | ⟨_, ds⟩ <;> simp_all) : PG X (.Tuple es k pos) (tPG ⟨X.K, cl, X.w⟩ E tl (tupT f)) := PG_imp (pg_tup hc h hn hst) fun v σ H Q ⟨P, S, T, U, ρ, d, ρ', w, r, hm, q⟩ => by
  cases d with
  | tup ds =>
    obtain ⟨a, xs, e1, hp, rl⟩ := r
    exact ⟨a, xs, e1, sqt_mono w.ph hp, by rw [← rl.length]; exact hlen ds ρ ρ' hm, P, S, T, U, ρ, ds, ρ', w, rl, hm, q⟩
  | _ => cases hm
theorem len_nil {ds ρ ρ' : List D} (h : nilT ds ρ = some ρ') : ds.length = 0 := by cases ds <;> first | rfl | cases h
theorem len_cons {f : TgM} {g : List D → List D → Option (List D)} {n : Nat} (hg : ∀ ds ρ ρ', g ds ρ = some ρ' → ds.length = n) (ds ρ ρ' : List D) (h : consT f g ds ρ = some ρ') : ds.length = n + 1 := by
  cases ds with
  | nil => cases h
  | cons d ds =>
    replace h : ((f d ρ).bind fun ρ => g ds ρ) = some ρ' := h
    cases ef : f d ρ with
    | none => rw [ef] at h; cases h
    | some ρ1 => rw [ef] at h; rw [List.length_cons, hg ds ρ1 ρ' h]
end

def goneAt (ρ : List D) : List Nat → List D
  | [] => ρ
  | v :: vs => (goneAt ρ vs).set v .gone
section
variable {X : Cx} {cl : Nat → Addr} {E : En} {e a b tg : Expr} {pos : Pos} {m ma mb : RM}
theorem RepE.gone {c : LC} {P H : Hp} : ∀ {ρ : List D} {σ : St} {S : FP} (i : Nat), RepE c P H ρ σ S → ∃ S', RepE c P H (ρ.set i .gone) (σ.set i none) S' ∧ ∀ a, S' a ≤ S a
  | [], [], S, i, h => ⟨S, h, fun a => Nat.le_refl _⟩
  | d0 :: ρ, v0 :: σ, S, 0, ⟨T, T2, h1, h2, f⟩ => ⟨fa fz T2, ⟨fz, T2, ⟨rfl, rfl⟩, h2, rfl⟩, fun a => by rw [f]; simp only [fa, fz]; omega⟩
  | d0 :: ρ, v0 :: σ, S, i + 1, ⟨T, T2, h1, h2, f⟩ => by
    obtain ⟨S', k1, k2⟩ := RepE.gone i h2
    exact ⟨fa T S', ⟨T, S', h1, k1, rfl⟩, fun a => by have := k2 a; rw [f]; simp only [fa]; omega⟩
  | [], _ :: _, _, _, h => h.elim
  | _ :: _, [], _, _, h => h.elim
theorem RepE.wipe {c : LC} {P H : Hp} {ρ : List D} {σ : St} {S : FP} (h : RepE c P H ρ σ S) : ∀ vs : List Nat, ∃ S', RepE c P H (goneAt ρ vs) (L2.wipe σ vs) S' ∧ ∀ a, S' a ≤ S a
  | [] => ⟨S, h, fun _ => Nat.le_refl _⟩
  | v :: vs => by
    obtain ⟨S1, h1, h2⟩ := RepE.wipe h vs
    obtain ⟨S2, h3, h4⟩ := RepE.gone v h1
    exact ⟨S2, h3, fun a => Nat.le_trans (h4 a) (h2 a)⟩
theorem wipe_at {σ : St} : ∀ {vs : List Nat} {j : Nat}, j ∉ vs → (L2.wipe σ vs)[j]? = σ[j]?
  | [], j, _ => rfl
  | v :: vs, j, h => by
    simp only [List.mem_cons, not_or] at h
    unfold L2.wipe
    rw [List.getElem?_set_ne (fun z => h.1 z.symm), wipe_at h.2]
theorem wipe_in {σ : St} : ∀ {vs : List Nat} {j : Nat}, j ∈ vs → j < σ.length → (L2.wipe σ vs)[j]? = some none
  | v :: vs, j, h, hl => by
    unfold L2.wipe
    by_cases z : v = j
    · subst z; rw [List.getElem?_set_self (by rw [wipe_length]; exact hl)]
    · rw [List.getElem?_set_ne z]
      exact wipe_in (by simpa [Ne.symm z] using h) hl
theorem wipe_eq {σ σ' : St} {vs : List Nat} (hl : σ'.length = σ.length) (h : ∀ j, j ∉ vs → σ'[j]? = σ[j]?) : L2.wipe σ' vs = L2.wipe σ vs := by
  apply List.ext_getElem?
  intro j
  by_cases hj : j ∈ vs
  · by_cases z : j < σ.length
    · rw [wipe_in hj (by omega), wipe_in hj z]
    · rw [List.getElem?_eq_none (by rw [wipe_length]; omega), List.getElem?_eq_none (by rw [wipe_length]; omega)]
  · rw [wipe_at hj, wipe_at hj, h j hj]
theorem wipe_wipe (σ : St) (vs : List Nat) : L2.wipe (L2.wipe σ vs) vs = L2.wipe σ vs := wipe_eq (wipe_length _ _) fun j hj => wipe_at hj
theorem Wd.wipe {c : LC} {P H : Hp} {S T : FP} {σ : St} {ρ : List D} (w : Wd c E P S T σ H ρ) (vs : List Nat) (hk : ∀ j ∈ vs, E.kp[j]? ≠ some true) : ∃ S', Wd c E P S' T (L2.wipe σ vs) H (goneAt ρ vs) := by
  obtain ⟨S', h1, h2⟩ := RepE.wipe w.env vs
  refine ⟨S', w.shrink h1 (fun a => by have := h2 a; omega) (fun _ => Nat.le_refl _) fun i v h3 h4 => ?_⟩
  rw [wipe_at fun z => hk i z h3]
  exact w.kp i v h3 h4
def compL (f : TgM) (mc : BM) (me : RM) (ρ0 : List D) : List D → Option (List D)
  | [] => some []
  | d :: ds => (f d ρ0).bind fun ρ1 => (mc ρ1).bind fun k => if k = true then (me ρ1).bind fun y => if frz y = true then (compL f mc me ρ0 ds).map fun ys => y :: ys else none else compL f mc me ρ0 ds
def compM (vs : List Nat) (f : TgM) (mc : BM) (me : RM) (ms : AM) : RM := fun ρ => (ms ρ).bind fun ds => if ds.length ≤ LIM then (compL f mc me (goneAt ρ vs) ds).map (.lst true) else none
def yesB : BM := fun _ => some true
theorem compL_len {f : TgM} {mc : BM} {me : RM} {ρ0 : List D} : ∀ {ds ys : List D}, compL f mc me ρ0 ds = some ys → ys.length ≤ ds.length
  | [], ys, h => by cases h; exact Nat.le_refl _
  | d :: ds, ys, h => by
    unfold compL at h
    cases e1 : f d ρ0 with
    | none => rw [e1] at h; cases h
    | some ρ1 =>
      cases e2 : mc ρ1 with
      | none => rw [e1, Option.bind_some, e2] at h; cases h
      | some k =>
        rw [e1, Option.bind_some, e2, Option.bind_some] at h
        split at h
        · cases e3 : me ρ1 with
          | none => rw [e3] at h; cases h
          | some y =>
            rw [e3, Option.bind_some] at h
            split at h
            · cases e4 : compL f mc me ρ0 ds with
              | none => rw [e4] at h; cases h
              | some zs => rw [e4] at h; cases h; have := compL_len e4; simp; omega
            · cases h
        · have := compL_len h; simp; omega
theorem compL_turn {f : TgM} {mc : BM} {me : RM} {ρ0 : List D} : ∀ {ds ys : List D} {i : Nat} {d : D}, compL f mc me ρ0 ds = some ys → ds[i]? = some d → ∃ zs ρ1 k, compL f mc me ρ0 (ds.take i) = some zs ∧ f d ρ0 = some ρ1 ∧ mc ρ1 = some k ∧
    (k = true → ∃ y, me ρ1 = some y ∧ frz y = true ∧ compL f mc me ρ0 (ds.take (i + 1)) = some (zs ++ [y])) ∧ (k = false → compL f mc me ρ0 (ds.take (i + 1)) = some zs)
  | [], ys, i, d, h, e => by simp at e
  | d0 :: ds, ys, i, d, h, e => by
    unfold compL at h
    cases e1 : f d0 ρ0 with
    | none => rw [e1] at h; cases h
    | some ρ1 =>
      cases e2 : mc ρ1 with
      | none => rw [e1, Option.bind_some, e2] at h; cases h
      | some k =>
        rw [e1, Option.bind_some, e2, Option.bind_some] at h
        cases i with
        | zero =>
          simp at e; subst e
          refine ⟨[], ρ1, k, rfl, e1, e2, fun hk => ?_, fun hk => ?_⟩
          · subst hk
            rw [if_pos rfl] at h
            cases e3 : me ρ1 with
            | none => rw [e3] at h; cases h
            | some y =>
              rw [e3, Option.bind_some] at h
              split at h
              · rename_i hf
                exact ⟨y, rfl, hf, by simp [compL, e1, e2, e3, hf]⟩
              · cases h
          · subst hk; simp [compL, e1, e2]
        | succ i =>
          have e' : ds[i]? = some d := by simpa using e
          cases k with
          | true =>
            rw [if_pos rfl] at h
            cases e3 : me ρ1 with
            | none => rw [e3] at h; cases h
            | some y =>
              rw [e3, Option.bind_some] at h
              split at h
              · rename_i hf
                cases e4 : compL f mc me ρ0 ds with
                | none => rw [e4] at h; cases h
                | some ws =>
                  obtain ⟨zs, ρ2, k2, h1, h2, h3, h4, h5⟩ := compL_turn e4 e'
                  refine ⟨y :: zs, ρ2, k2, by simp [compL, e1, e2, e3, hf, h1], h2, h3, fun z => ?_, fun z => ?_⟩
                  · obtain ⟨y2, k3, k4, k5⟩ := h4 z
                    exact ⟨y2, k3, k4, by simp [compL, e1, e2, e3, hf, k5]⟩
                  · simp [compL, e1, e2, e3, hf, h5 z]
              · cases h
          | false =>
            rw [if_neg (by decide)] at h
            obtain ⟨zs, ρ2, k2, h1, h2, h3, h4, h5⟩ := compL_turn h e'
            refine ⟨zs, ρ2, k2, by simp [compL, e1, e2, h1], h2, h3, fun z => ?_, fun z => ?_⟩
            · obtain ⟨y2, k3, k4, k5⟩ := h4 z
              exact ⟨y2, k3, k4, by simp [compL, e1, e2, k5]⟩
            · simp [compL, e1, e2, h5 z]
def tTs (c : LC) (E : En) (mc : BM) : TT := tT c E mc
theorem ts_nil : PTs X [] (tTs ⟨X.K, cl, X.w⟩ E yesB) := ⟨fun pins s σ H Q I ⟨P, S, T, ρ, b, w, hm, q⟩ => by
  cases hm
  exact pts_nil.run pins s σ H Q I (q H P (.refl w.ph))⟩
end
end LI

namespace LI
open PySem L2

inductive Fl where
  | nx | rt (d : D) | bk | ct | ex (n : Nat) (fs : List Str) (es : List D)
def XE1 (c : LC) (W : WX) (n : Nat) (fs : List Str) (vs : List V) (σ' : St) (H' : Hp) : Prop :=
  (fs = [] → W (.ref (c.cl n)) none σ' H') ∧ (fs ≠ [] → ∀ dd, H' dd = none → W (.ref (c.cl n)) (some dd) σ' (upd H' dd (.xd (fs.zip vs))))
abbrev SM := List D → Option (Fl × List D)
def SPost (c : LC) (E : En) (P : Hp) (D : Ends) : Fl → List LI.D → Prop
  | .nx, ρ' => ∀ σ' H' P' S', Wd c E P' S' fz σ' H' ρ' → Ex P P' → D.nx σ' H'
  | .rt d, ρ' => ∀ v σ' H' P' S' U, Wd c E P' S' U σ' H' ρ' → Rep c P' H' d v U → D.rt v H'
  | .bk, ρ' => ∀ σ' H' P' S', Wd c E P' S' fz σ' H' ρ' → Ex P P' → D.bk σ' H'
  | .ct, ρ' => ∀ σ' H' P' S', Wd c E P' S' fz σ' H' ρ' → Ex P P' → D.ct σ' H'
  | .ex n fs es, ρ' => ∀ vs σ' H' P' S' U, Wd c E P' S' U σ' H' ρ' → Ex P P' → RepL c P' H' es vs fz → XE1 c E.xw n fs vs σ' H'
def tS (c : LC) (E : En) (m : SM) : TS := fun D σ H => ∃ P S ρ fl ρ', Wd c E P S fz σ H ρ ∧ m ρ = some (fl, ρ') ∧ SPost c E P D fl ρ'
theorem SPost.mono {c : LC} {E : En} {P P2 : Hp} {D : Ends} {fl : Fl} {ρ' : List LI.D} (h : SPost c E P D fl ρ') (e : Ex P P2) : SPost c E P2 D fl ρ' := by
  cases fl with
  | nx => exact fun σ' H' P' S' w x => h σ' H' P' S' w (e.trans x)
  | rt d => exact h
  | bk => exact fun σ' H' P' S' w x => h σ' H' P' S' w (e.trans x)
  | ct => exact fun σ' H' P' S' w x => h σ' H' P' S' w (e.trans x)
  | ex n fs es => exact fun vs σ' H' P' S' U w x => h vs σ' H' P' S' U w (e.trans x)
section
variable {X : Cx} {cl : Nat → Addr} {E : En} {e a b tg : Expr} {pos : Pos} {m ma mb : SM} {g : GM}
def skipM : SM := fun ρ => some (.nx, ρ)
def seqM (m1 m2 : SM) : SM := fun ρ => (m1 ρ).bind fun r => match r.1 with | .nx => m2 r.2 | _ => some r
theorem s_nil : PSs X [] (tS ⟨X.K, cl, X.w⟩ E skipM) := PSs_imp pss_nil fun D σ H ⟨P, S, ρ, fl, ρ', w, hm, q⟩ => by
  cases hm
  exact q σ H P S w (.refl _)
theorem seq_run {c : LC} {D : Ends} {σ : St} {H : Hp} (h : tS c E (seqM ma mb) D σ H) : tSeq (tS c E ma) (tS c E mb) D σ H := by
  obtain ⟨P, S, ρ, fl, ρ', w, hm, q⟩ := h
  unfold seqM at hm
  cases ea : ma ρ with
  | none => rw [ea] at hm; cases hm
  | some r =>
    obtain ⟨f1, ρ1⟩ := r
    rw [ea, Option.bind_some] at hm
    refine ⟨P, S, ρ, f1, ρ1, w, ea, ?_⟩
    cases f1 with
    | nx => exact fun σ' H' P' S' w' x => ⟨P', S', ρ1, fl, ρ', w', hm, q.mono x⟩
    | rt d => cases hm; exact q
    | bk => cases hm; exact q
    | ct => cases hm; exact q
    | ex n fs es => cases hm; exact q
theorem s_cons {st : Stmt} {rest : List Stmt} (h1 : PS X st (tS ⟨X.K, cl, X.w⟩ E ma)) (h2 : PSs X rest (tS ⟨X.K, cl, X.w⟩ E mb)) : PSs X (st :: rest) (tS ⟨X.K, cl, X.w⟩ E (seqM ma mb)) := PSs_imp (pss_cons h1 h2) fun _ _ _ h => seq_run h
theorem RepE.forget {c : LC} {P H : Hp} : ∀ {ρ : List D} {σ : St} {S : FP} (i : Nat), RepE c P H ρ σ S → ∃ S', RepE c P H (ρ.set i .gone) σ S' ∧ ∀ a, S' a ≤ S a
  | [], [], S, i, h => ⟨S, h, fun a => Nat.le_refl _⟩
  | d0 :: ρ, v0 :: σ, S, 0, ⟨T, T2, h1, h2, f⟩ => ⟨fa fz T2, ⟨fz, T2, by cases v0 <;> first | exact ⟨rfl, rfl⟩ | exact rfl, h2, rfl⟩, fun a => by rw [f]; simp only [fa, fz]; omega⟩
  | d0 :: ρ, v0 :: σ, S, i + 1, ⟨T, T2, h1, h2, f⟩ => by
    obtain ⟨S', k1, k2⟩ := RepE.forget i h2
    exact ⟨fa T S', ⟨T, S', h1, k1, rfl⟩, fun a => by have := k2 a; rw [f]; simp only [fa]; omega⟩
  | [], _ :: _, _, _, h => h.elim
  | _ :: _, [], _, _, h => h.elim
theorem Wd.forget {c : LC} {P H : Hp} {S T : FP} {σ : St} {ρ : List D} (w : Wd c E P S T σ H ρ) : ∀ vs : List Nat, ∃ S', Wd c E P S' T σ H (goneAt ρ vs)
  | [] => ⟨S, w⟩
  | v :: vs => by
    obtain ⟨S1, w1⟩ := Wd.forget w vs
    obtain ⟨S2, h1, h2⟩ := RepE.forget v w1.env
    exact ⟨S2, w1.shrink h1 (fun a => by have := h2 a; omega) (fun _ => Nat.le_refl _) w1.kp⟩
def killM (vs : List Nat) (m : SM) : SM := fun ρ => m (goneAt ρ vs)
theorem s_kill (vs : List Nat) {sts : List Stmt} (h : PSs X sts (tS ⟨X.K, cl, X.w⟩ E m)) : PSs X sts (tS ⟨X.K, cl, X.w⟩ E (killM vs m)) := PSs_imp h fun D σ H ⟨P, S, ρ, fl, ρ', w, hm, q⟩ => by
  obtain ⟨S', w'⟩ := w.forget vs
  exact ⟨P, S', _, fl, ρ', w', hm, q⟩

theorem g_run {c : LC} {σ : St} {H : Hp} {Q : VK} {P : Hp} {S : FP} {ρ ρ1 : List D} {d : D} (w : Wd c E P S fz σ H ρ) (hg : g ρ = some (d, ρ1)) (q : ∀ v H' P' S' U, Wd c E P' S' U σ H' ρ1 → Ex P P' → Rep c P' H' d v U → Q v H') : tG c E g σ H Q :=
  ⟨P, S, fz, ρ, d, ρ1, w, hg, fun v H' P' S' U w' e r _ => q v H' P' S' U (by rw [fz_fa] at w'; exact w') e r⟩
def asgM (f : TgM) (g : GM) : SM := fun ρ => (g ρ).bind fun r => (f r.1 r.2).map fun ρ' => (.nx, ρ')
theorem asg_run {c : LC} {tl : List Nat} {f : TgM} {D : Ends} {σ : St} {H : Hp} (h : tS c E (asgM f g) D σ H) : tAsg (tG c E g) (tPG c E tl f) D σ H := by
  obtain ⟨P, S, ρ, fl, ρ', w, hm, q⟩ := h
  unfold asgM at hm
  cases eg : g ρ with
  | none => rw [eg] at hm; cases hm
  | some r =>
    obtain ⟨d, ρ1⟩ := r
    rw [eg, Option.bind_some] at hm
    cases ef : f d ρ1 with
    | none => rw [ef] at hm; cases hm
    | some ρ2 =>
      rw [ef] at hm
      cases hm
      exact g_run w eg fun v H' P' S' U w' e r => ⟨P', S', fz, U, ρ1, d, ρ', by rw [fz_fa]; exact w', r, ef, fun σ2 S2 w2 _ _ => q σ2 H' P' S2 w2 e⟩
theorem s_asg {tl : List Nat} {f : TgM} (he : PE X e (tG ⟨X.K, cl, X.w⟩ E g)) (hg : PG X tg (tPG ⟨X.K, cl, X.w⟩ E tl f)) (hs : swapsWithSole [tg] e pos.line X.env = pure false := by rfl) (hw : swappedStores [tg] e X.env = pure none := by rfl)
    (h1 : (assignEach [tg] X.env).map (·.2) = [assign tg X.env] := by rfl) : PS X (.Assign [tg] e pos) (tS ⟨X.K, cl, X.w⟩ E (asgM f g)) := PS_imp (ps_asg he hg hs hw h1) fun _ _ _ h => asg_run h
theorem s_set (i : Nat) {x : Str} {pos' : Pos} (hN : X.N.Nodup) (hi : X.N[i]? = some x) (hx : Loc X.env.scope x) (hk : E.kp[i]? ≠ some true) (he : PE X e (tG ⟨X.K, cl, X.w⟩ E g)) (hs : swapsWith e (some (.Name x pos')) pos.line X.env = pure false := by rfl) (hf : X.fn x = true ∨ X.env.scope.names.lookup x = some .local := by first | exact .inl rfl | exact .inr rfl | assumption) :
    PS X (.Assign [.Name x pos'] e pos) (tS ⟨X.K, cl, X.w⟩ E (asgM (nameT i) g)) := PS_imp (ps_set hN hi hx he hs hf) fun D σ H ⟨P, S, ρ, fl, ρ', w, hm, q⟩ => by
  unfold asgM at hm
  cases eg : g ρ with
  | none => rw [eg] at hm; cases hm
  | some r =>
    obtain ⟨d, ρ1⟩ := r
    rw [eg] at hm
    cases hm
    exact g_run w eg fun v H' P' S' U w' e r => by
      obtain ⟨S2, w2⟩ := (show Wd ⟨X.K, cl, X.w⟩ E P' S' (fa fz U) σ H' ρ1 by rw [fz_fa]; exact w').store r i hk
      exact q _ H' P' S2 w2 e
def exprM (g : GM) : SM := fun ρ => (g ρ).map fun r => (.nx, r.2)
theorem s_expr (he : PE X e (tG ⟨X.K, cl, X.w⟩ E g)) (hs : swapsWith e none pos.line X.env = pure false := by rfl) : PS X (.Expr e pos) (tS ⟨X.K, cl, X.w⟩ E (exprM g)) := PS_imp (ps_expr he hs) fun D σ H ⟨P, S, ρ, fl, ρ', w, hm, q⟩ => by
  unfold exprM at hm
  cases eg : g ρ with
  | none => rw [eg] at hm; cases hm
  | some r =>
    rw [eg] at hm
    cases hm
    exact g_run w eg fun v H' P' S' U w' e r => q σ H' P' S' (Wd.drop (U := U) (by rw [fz_fa]; exact w')) e
def retM (g : GM) : SM := fun ρ => (g ρ).map fun r => (.rt r.1, r.2)
theorem s_ret (he : PE X e (tG ⟨X.K, cl, X.w⟩ E g)) : PS X (.Return (some e) pos) (tS ⟨X.K, cl, X.w⟩ E (retM g)) := PS_imp (ps_ret he) fun D σ H ⟨P, S, ρ, fl, ρ', w, hm, q⟩ => by
  unfold retM at hm
  cases eg : g ρ with
  | none => rw [eg] at hm; cases hm
  | some r =>
    rw [eg] at hm
    cases hm
    exact g_run w eg fun v H' P' S' U w' e r => q v σ H' P' S' U w' r
def noM' : SM := fun _ => none
def ifGM (mc : BGM) (ma mb : SM) : SM := fun ρ => (mc ρ).bind fun r => if r.1 = true then ma r.2 else mb r.2
theorem s_ifG {mc : BGM} {sa sb : List Stmt} (hc : PT X e (tTG ⟨X.K, cl, X.w⟩ E mc)) (ha : PSs X sa (tS ⟨X.K, cl, X.w⟩ E ma)) (hb : PSs X sb (tS ⟨X.K, cl, X.w⟩ E mb)) : PS X (.If e sa sb pos) (tS ⟨X.K, cl, X.w⟩ E (ifGM mc ma mb)) := PS_imp (ps_if hc ha hb) fun D σ H ⟨P, S, ρ, fl, ρ', w, hm, q⟩ => by
  unfold ifGM at hm
  cases ec : mc ρ with
  | none => rw [ec] at hm; cases hm
  | some r =>
    obtain ⟨k, ρ1⟩ := r
    rw [ec, Option.bind_some] at hm
    refine ⟨P, S, fz, ρ, k, ρ1, w, ec, fun H' P' S' w' x _ => ?_⟩
    cases k with
    | true => exact iteT ⟨P', S', ρ1, fl, ρ', w', hm, q.mono x⟩
    | false => exact iteF ⟨P', S', ρ1, fl, ρ', w', hm, q.mono x⟩
def ifM (mc : BM) (ma mb : SM) : SM := fun ρ => (mc ρ).bind fun k => if k = true then ma ρ else mb ρ
theorem s_if {mc : BM} {sa sb : List Stmt} (hc : PT X e (tT ⟨X.K, cl, X.w⟩ E mc)) (ha : PSs X sa (tS ⟨X.K, cl, X.w⟩ E ma)) (hb : PSs X sb (tS ⟨X.K, cl, X.w⟩ E mb)) : PS X (.If e sa sb pos) (tS ⟨X.K, cl, X.w⟩ E (ifM mc ma mb)) := PS_imp (ps_if hc ha hb) fun D σ H ⟨P, S, ρ, fl, ρ', w, hm, q⟩ => by
  unfold ifM at hm
  cases ec : mc ρ with
  | none => rw [ec] at hm; cases hm
  | some k =>
    rw [ec, Option.bind_some] at hm
    refine ⟨P, S, fz, ρ, k, w, ec, fun H' P' g => ?_⟩
    cases k with
    | true => exact iteT ⟨P', S, ρ, fl, ρ', w.grow g, hm, q.mono g.p⟩
    | false => exact iteF ⟨P', S, ρ, fl, ρ', w.grow g, hm, q.mono g.p⟩

def forL (f : TgM) (body : SM) (kl : List Nat) : List D → List D → Option (Fl × List D)
  | [], ρ => some (.nx, ρ)
  | d :: ds, ρ => (f d ρ).bind fun ρ1 => (body ρ1).bind fun r => match r.1 with
    | .nx => forL f body kl ds (goneAt r.2 kl)
    | .ct => forL f body kl ds (goneAt r.2 kl)
    | .bk => some (.nx, goneAt r.2 kl)
    | .rt d => some (.rt d, r.2)
    | .ex n fs es => some (.ex n fs es, r.2)
def forM (f : TgM) (body : SM) (kl : List Nat) (ms : AM) : SM := fun ρ => (ms ρ).bind fun ds => forL f body kl ds ρ
theorem for_run {c : LC} {tl kl : List Nat} {f : TgM} {body : SM} {ms : AM} {D : Ends} {σ : St} {H : Hp} (h : tS c E (forM f body kl ms) D σ H) : tFor (tI c E ms) (tPG c E tl f) (tS c E body) D σ H := by
  obtain ⟨P, S, ρ, fl, ρ', w, hm, q⟩ := h
  unfold forM at hm
  cases es : ms ρ with
  | none => rw [es] at hm; cases hm
  | some ds =>
    rw [es, Option.bind_some] at hm
    refine ⟨P, S, fz, ρ, ds, w, es, fun J H1 P1 g1 io => ?_⟩
    obtain ⟨G, Y, wk, hG, hY⟩ := io
    refine for_it wk (fun i σi Hi => ∃ P2 S2 ρi, Wd c E P2 S2 fz σi Hi ρi ∧ Ex P1 P2 ∧ forL f body kl (ds.drop i) ρi = some (fl, ρ')) ?_ ?_ ?_ ?_
    · exact ⟨P1, S, ρ, w.grow g1, .refl _, hm⟩
    · rintro i σi Hi hi ⟨P2, S2, ρi, w2, e2, _⟩
      exact hG P2 Hi e2 w2.ph
    · rintro i x σi Hi H3 hi ⟨P2, S2, ρi, w2, e2, hf⟩ y
      obtain ⟨P3, d, g3, hd, rd⟩ := hY i P2 Hi x H3 e2 w2.ph hi y
      have hdrop : ds.drop i = d :: ds.drop (i + 1) := by
        rw [List.drop_eq_getElem_cons hi]
        congr 1
        rw [List.getElem?_eq_getElem hi] at hd
        exact Option.some.inj hd
      rw [hdrop] at hf
      unfold forL at hf
      cases ef : f d ρi with
      | none => rw [ef] at hf; cases hf
      | some ρ1 =>
        cases eb : body ρ1 with
        | none => rw [ef, Option.bind_some, eb] at hf; cases hf
        | some r =>
          obtain ⟨f1, ρ2⟩ := r
          rw [ef, Option.bind_some, eb, Option.bind_some] at hf
          have w3 : Wd c E P3 S2 (fa fz fz) σi H3 ρi := by rw [fa_fz]; exact w2.grow g3
          refine ⟨P3, S2, fz, fz, ρi, d, ρ1, w3, rd, ef, fun σ4 S4 w4 _ _ => ⟨P3, S4, ρ1, f1, ρ2, w4, eb, ?_⟩⟩
          cases f1 with
          | nx =>
            intro σ' H' P' S' w' x'
            obtain ⟨S5, w5⟩ := w'.forget kl
            exact ⟨P', S5, _, w5, (e2.trans g3.p).trans x', hf⟩
          | ct =>
            intro σ' H' P' S' w' x'
            obtain ⟨S5, w5⟩ := w'.forget kl
            exact ⟨P', S5, _, w5, (e2.trans g3.p).trans x', hf⟩
          | bk =>
            cases hf
            intro σ' H' P' S' w' x'
            obtain ⟨S5, w5⟩ := w'.forget kl
            exact q σ' H' P' S5 w5 (((g1.p.trans e2).trans g3.p).trans x')
          | rt d' =>
            cases hf
            exact q
          | ex n fs es =>
            cases hf
            exact fun vs σ' H' P' S' U w' x' => q vs σ' H' P' S' U w' (((g1.p.trans e2).trans g3.p).trans x')
    · rintro σi Hi ⟨P2, S2, ρi, w2, e2, hf⟩
      rw [List.drop_length] at hf
      cases hf
      exact q σi Hi P2 S2 w2 (g1.p.trans e2)
theorem s_for {iter : Expr} {sb : List Stmt} {tl : List Nat} (kl : List Nat) {f : TgM} {body : SM} {ms : AM} (hp : PassesOwn (model X.prog X.w) X.A X.env X.xe) (hc : X.calm = true) (hi : PI X tg iter (tI ⟨X.K, cl, X.w⟩ E ms)) (hg : PG X tg (tPG ⟨X.K, cl, X.w⟩ E tl f)) (hb : PSs X sb (tS ⟨X.K, cl, X.w⟩ E body))
    (hs : ∀ x, foldedSetIterable iter X.env x = pure x := by intro _; rfl) : PS X (.For tg iter sb [] pos) (tS ⟨X.K, cl, X.w⟩ E (forM f body kl ms)) := PS_imp (ps_for hp hc hi hg hb hs) fun _ _ _ h => for_run h
def whileL (mc : BM) (body : SM) (kl : List Nat) : Nat → List D → Option (Fl × List D)
  | 0, _ => none
  | n + 1, ρ => (mc ρ).bind fun k => if k = true then (body ρ).bind fun r => match r.1 with
    | .nx => whileL mc body kl n (goneAt r.2 kl)
    | .ct => whileL mc body kl n (goneAt r.2 kl)
    | .bk => some (.nx, goneAt r.2 kl)
    | .rt d => some (.rt d, r.2)
    | .ex n fs es => some (.ex n fs es, r.2)
    else some (.nx, ρ)
def whileM (n : Nat) (mc : BM) (body : SM) (kl : List Nat) : SM := fun ρ => whileL mc body kl n ρ
theorem while_run {c : LC} {n : Nat} {kl : List Nat} {mc : BM} {body : SM} {D : Ends} {σ : St} {H : Hp} (h : tS c E (whileM n mc body kl) D σ H) : tWhile (tT c E mc) (tS c E body) D σ H := by
  obtain ⟨P, S, ρ, fl, ρ', w, hm, q⟩ := h
  unfold whileM at hm
  refine ⟨fun i σi Hi => ∃ P2 S2 ρi, Wd c E P2 S2 fz σi Hi ρi ∧ Ex P P2 ∧ whileL mc body kl i ρi = some (fl, ρ'), ⟨n, P, S, ρ, w, .refl _, hm⟩, ?_⟩
  rintro i σi Hi ⟨P2, S2, ρi, w2, e2, hf⟩
  cases i with
  | zero => cases hf
  | succ i =>
    unfold whileL at hf
    cases ec : mc ρi with
    | none => rw [ec] at hf; cases hf
    | some k =>
      rw [ec, Option.bind_some] at hf
      refine ⟨P2, S2, fz, ρi, k, w2, ec, fun H3 P3 g3 => ?_⟩
      cases k with
      | false =>
        rw [if_neg (by decide)] at hf
        cases hf
        exact iteF (q σi H3 P3 S2 (w2.grow g3) (e2.trans g3.p))
      | true =>
        rw [if_pos rfl] at hf
        refine iteT ⟨fun σ' H' => ∃ P2 S2 ρi, Wd c E P2 S2 fz σ' H' ρi ∧ Ex P P2 ∧ whileL mc body kl i ρi = some (fl, ρ'), fun σ' H' hN => ⟨i, Nat.lt_succ_self _, hN⟩, ?_⟩
        cases eb : body ρi with
        | none => rw [eb] at hf; cases hf
        | some r =>
          obtain ⟨f1, ρ2⟩ := r
          rw [eb, Option.bind_some] at hf
          refine ⟨P3, S2, ρi, f1, ρ2, w2.grow g3, eb, ?_⟩
          cases f1 with
          | nx =>
            intro σ' H' P' S' w' x'
            obtain ⟨S5, w5⟩ := w'.forget kl
            exact ⟨P', S5, _, w5, (e2.trans g3.p).trans x', hf⟩
          | ct =>
            intro σ' H' P' S' w' x'
            obtain ⟨S5, w5⟩ := w'.forget kl
            exact ⟨P', S5, _, w5, (e2.trans g3.p).trans x', hf⟩
          | bk =>
            cases hf
            intro σ' H' P' S' w' x'
            obtain ⟨S5, w5⟩ := w'.forget kl
            exact q σ' H' P' S5 w5 ((e2.trans g3.p).trans x')
          | rt d' =>
            cases hf
            exact q
          | ex n fs es =>
            cases hf
            exact fun vs σ' H' P' S' U w' x' => q vs σ' H' P' S' U w' ((e2.trans g3.p).trans x')
theorem s_while (n : Nat) (kl : List Nat) {sb : List Stmt} {mc : BM} {body : SM} (hp : PassesOwn (model X.prog X.w) X.A X.env X.xe) (hc : PT X e (tT ⟨X.K, cl, X.w⟩ E mc)) (hb : PSs X sb (tS ⟨X.K, cl, X.w⟩ E body)) : PS X (.While e sb [] pos) (tS ⟨X.K, cl, X.w⟩ E (whileM n mc body kl)) := PS_imp (ps_while hp hc hb) fun _ _ _ h => while_run h
end
end LI

namespace LI
open PySem L2 PyProof.Rows

structure Stp (P0 : Hp) (S0 : FP) (H0 P : Hp) (T : FP) (H : Hp) : Prop where
  p0 : Ex P0 P
  ph : Ex P H
  fr : ∀ a o, S0 a = 0 → H0 a = some o → H a = some o
  np : ∀ a, P a ≠ none → P0 a ≠ none ∨ 0 < S0 a ∨ H0 a = none
  ns : ∀ a, 0 < T a → 0 < S0 a ∨ H0 a = none
  le : ∀ a, T a ≤ 1
  out : ∀ a, 0 < T a → P a = none
abbrev FM := List D → Option (D × List D)
def spD (c : LC) (F : FM) : Sp := fun vs H Q _ => ∃ P S ds d ds', RepL c P H ds vs S ∧ Ex P H ∧ (∀ a, S a ≤ 1) ∧ (∀ a, 0 < S a → P a = none) ∧ F ds = some (d, ds') ∧
  ∀ v H' P' U S', Stp P S H P' (fa U S') H' → Rep c P' H' d v U → RepL c P' H' ds' vs S' → Q v H'
def maskL : List Bool → List D → List D
  | [], _ => []
  | _ :: bs, [] => .gone :: maskL bs []
  | b :: bs, d :: ds => (if b = true then d else .gone) :: maskL bs ds
def runM (n : Nat) (kp : List Bool) (m : SM) : FM := fun ds => if ds.length = kp.length then (m (ds ++ List.replicate (n - ds.length) .gone)).bind fun r => match r.1 with
  | .rt d => some (d, maskL kp r.2)
  | .nx => some (.non, maskL kp r.2)
  | _ => none
  else none
theorem repE_none {c : LC} {P H : Hp} : ∀ n : Nat, RepE c P H (List.replicate n .gone) (List.replicate n none) fz
  | 0 => rfl
  | n + 1 => ⟨fz, fz, ⟨rfl, rfl⟩, repE_none n, (fa_fz fz).symm⟩
theorem repE_start {c : LC} {P H : Hp} (n : Nat) : ∀ {ds : List D} {vs : List V} {S : FP}, RepL c P H ds vs S → RepE c P H (ds ++ List.replicate n .gone) (vs.map some ++ List.replicate n none) S
  | [], vs, S, r => by rw [r.1, r.2]; exact repE_none n
  | d :: ds, vs, S, ⟨y, ys, T, U, e, r, rs, f⟩ => by rw [e]; exact ⟨T, U, r, repE_start n rs, f⟩
theorem mask_rep {c : LC} {P H : Hp} : ∀ {kp : List Bool} {vs : List V} {ρ : List D} {σ : L2.St} {S : FP}, RepE c P H ρ σ S → kp.length = vs.length → (∀ (i : Nat) (v : V), kp[i]? = some true → vs[i]? = some v → σ[i]? = some (some v)) →
    ∃ S', RepL c P H (maskL kp ρ) vs S' ∧ ∀ a, S' a ≤ S a
  | [], vs, ρ, σ, S, r, h1, h3 => by
    have : vs = [] := List.length_eq_zero_iff.mp h1.symm
    subst this
    exact ⟨fz, ⟨rfl, rfl⟩, fun a => Nat.zero_le _⟩
  | b :: kp, [], ρ, σ, S, r, h1, h3 => by simp at h1
  | b :: kp, v :: vs, [], [], S, r, h1, h3 => by
    obtain ⟨S', k1, k2⟩ := mask_rep (kp := kp) (vs := vs) (ρ := []) (σ := []) r (by simpa using h1) fun i u z1 z2 => by
      have := h3 (i + 1) u (by simpa using z1) (by simpa using z2)
      simpa using this
    exact ⟨fa fz S', ⟨v, vs, fz, S', rfl, rfl, k1, rfl⟩, fun a => by have := k2 a; simp only [fa, fz]; omega⟩
  | b :: kp, v :: vs, [], _ :: _, S, r, h1, h3 => r.elim
  | b :: kp, v :: vs, d :: ρ, [], S, r, h1, h3 => r.elim
  | b :: kp, v :: vs, d :: ρ, ov :: σ, S, ⟨T, U, r, rs, f⟩, h1, h3 => by
    obtain ⟨S', k1, k2⟩ := mask_rep (kp := kp) (vs := vs) rs (by simpa using h1) fun i u z1 z2 => by
      have := h3 (i + 1) u (by simpa using z1) (by simpa using z2)
      simpa using this
    cases b with
    | false => exact ⟨fa fz S', ⟨v, vs, fz, S', rfl, rfl, k1, rfl⟩, fun a => by have := k2 a; rw [f]; simp only [fa, fz]; omega⟩
    | true =>
      have e := h3 0 v rfl rfl
      simp at e
      subst e
      exact ⟨fa T S', ⟨v, vs, T, S', rfl, r, k1, rfl⟩, fun a => by have := k2 a; rw [f]; simp only [fa]; omega⟩
section
variable {P : Program} {w : World} {K : PySem.W.Frag} {mg : Str → Option Value} {base : Heap} {cl : Nat → Addr}
theorem ok_def {x qual : Str} {st : Stmt} {f : Addr} {fd : FuncData} {N ps : List Str} {k : Nat} {kp : List Bool} {m : SM} (F : Fun K x qual st f fd) (S : FnScope N ps (defScope st)) (hk : kp.length = ps.length)
    (hbody : ∀ (cdv : Value) (A : Around) (outer : List Env) (s : Shared) (H : Hp) (E : XK) (e : En), e.kp = kp → Room k (A.deeper (envOfC qual (defScope st) s.heap.objs.size f cdv)) →
      PSs (cxOf CX0 P w K mg base N qual (defScope st) f cdv A outer s H E).nox (defBody st) (tS ⟨K, cl, w⟩ e m)) : FnOk P w K mg base CX0 (k + 1) f fd ps (spD ⟨K, cl, w⟩ (runM N.length kp m)) := by
  refine F.ok S (fun vs H Q E h => ?_) (fun cdv A outer s H vs Q E hr h => ?_)
  · obtain ⟨Pp, Sp, ds, d, ds', r, _, _, _, hm, _⟩ := h
    unfold runM at hm
    split at hm
    · rename_i hl
      rw [← r.length, hl, hk]
    · cases hm
  · obtain ⟨Pp, Sp, ds, d, ds', r, e1, e2, e3, hm, q⟩ := h
    unfold runM at hm
    split at hm
    · rename_i hl
      have hlv : vs.length = kp.length := by rw [← r.length, hl]
      have hvs : ∀ i : Nat, kp[i]? = some true → ∃ v, vs[i]? = some v := fun i hi => by
        have hi' : i < kp.length := (List.getElem?_eq_some_iff.mp hi).1
        exact ⟨_, List.getElem?_eq_getElem (by omega)⟩
      refine ⟨_, hbody cdv A outer s H E ⟨Pp, H, Sp, kp, vs, hvs, fun _ _ _ _ => False⟩ rfl hr, ?_⟩
      cases em : m (ds ++ List.replicate (N.length - ds.length) .gone) with
      | none => rw [em] at hm; cases hm
      | some rr =>
        obtain ⟨fl, ρ'⟩ := rr
        rw [em, Option.bind_some] at hm
        have w0 : Wd ⟨K, cl, w⟩ ⟨Pp, H, Sp, kp, vs, hvs, fun _ _ _ _ => False⟩ Pp Sp fz (L2.start N vs) H (ds ++ List.replicate (N.length - ds.length) .gone) := by
          refine ⟨?_, fun a => by have := e2 a; simp only [fz]; omega, fun a h => e3 a (by simpa [fz] using h), fun a h => by simp [fz] at h, e1, .refl _, fun _ _ _ h => h, fun a h => .inl h, fun a h => .inl (by simpa [fz] using h), fun i v h1 h2 => ?_⟩
          · unfold L2.start
            rw [r.length]
            exact repE_start _ r
          · unfold L2.start
            have h2 : vs[i]? = some v := h2
            rw [List.getElem?_append_left (by rw [List.length_map]; exact (List.getElem?_eq_some_iff.mp h2).1), List.getElem?_map, h2]
            rfl
        have fin : ∀ (v : V) (σ' : L2.St) (H' P' : Hp) (S' U : FP) (d1 : D), Wd ⟨K, cl, w⟩ ⟨Pp, H, Sp, kp, vs, hvs, fun _ _ _ _ => False⟩ P' S' U σ' H' ρ' → Rep ⟨K, cl, w⟩ P' H' d1 v U → some (d1, maskL kp ρ') = some (d, ds') → Q v H' := by
          intro v σ' H' P' S' U d1 w' rd hs
          cases hs
          obtain ⟨S2, k1, k2⟩ := mask_rep (kp := kp) (vs := vs) w'.env hlv.symm w'.kp
          exact q v H' P' U S2 ⟨w'.p0, w'.ph, w'.fr, w'.np, fun a h => w'.ns a (by have := k2 a; simp only [fa] at h; omega), fun a => by have := k2 a; have := w'.le a; simp only [fa]; omega, fun a h => w'.out a (by have := k2 a; simp only [fa] at h; omega)⟩ rd k1
        refine ⟨Pp, Sp, _, fl, ρ', w0, em, ?_⟩
        cases fl with
        | nx => exact fun σ' H' P' S' w' _ => fin .non σ' H' P' S' fz .non w' ⟨rfl, rfl⟩ hm
        | rt d1 => exact fun v σ' H' P' S' U w' r => fin v σ' H' P' S' U d1 w' r hm
        | bk => cases hm
        | ct => cases hm
        | ex n fs es => cases hm
    · cases hm
end
end LI

namespace LI
open PySem L2

def isFlat : D → Bool
  | .non => true | .bl _ => true | .int _ => true | .str _ => true | _ => false
theorem flat_any {c : LC} {P H P' H' : Hp} : ∀ {d : D} {v : V} {U : FP}, isFlat d = true → Rep c P H d v U → Rep c P' H' d v fz
  | .non, v, U, _, r => ⟨r.1, rfl⟩
  | .bl _, v, U, _, r => ⟨r.1, rfl⟩
  | .int _, v, U, _, r => ⟨r.1, rfl⟩
  | .str _, v, U, _, r => ⟨r.1, rfl⟩
def callM (F : FM) (ms : AM) : RM := fun ρ => (ms ρ).bind fun ds => (F (iceL ds)).bind fun r => if frzL ds = true ∨ noIce r.1 = true then some r.1 else none
def coldP (U : FP) (P H : Hp) : Hp := fun a => if 0 < U a then H a else P a
theorem coldP_p {U : FP} {P H : Hp} (e : Ex P H) : Ex P (coldP U P H) := fun a o h => by
  unfold coldP
  split
  · exact e a o h
  · exact h
theorem coldP_h {U : FP} {P H : Hp} (e : Ex P H) : Ex (coldP U P H) H := fun a o h => by
  unfold coldP at h
  split at h
  · exact h
  · exact e a o h
theorem coldP_fz {P H : Hp} : coldP fz P H = P := by funext a; simp [coldP, fz]
theorem spD_view {c : LC} {F : FM} {P H : Hp} {ds : List D} {vs : List V} {U : FP} {d : D} {ds' : List D} {Q : VK} {E : XK} (e : Ex P H) (r : RepL c P H ds vs U) (hf : F (iceL ds) = some (d, ds')) (hz : frzL ds = true ∨ noIce d = true) (q : FQ c P H d Q) : spD c F vs H Q E := by
  refine ⟨coldP U P H, fz, iceL ds, d, ds', RepL.ice (coldP_p e) ds vs U (fun a o h1 h2 => by unfold coldP; rw [if_pos h1]; exact h2) r, coldP_h e, fun _ => Nat.zero_le _, fun a h => by simp [fz] at h, hf, fun v H' P' U2 S' st rd rs => ?_⟩
  have hH : Ex H H' := fun a o h => st.fr a o rfl h
  rcases hz with hz | hz
  · have := RepL.frz0 ds vs U hz r
    subst this
    rw [coldP_fz] at st
    refine q v H' P' U2 ⟨st.p0, hH, st.ph, fun a h => by rcases st.np a h with z | z | z <;> first | exact .inl z | (simp [fz] at z; done) | exact .inr z⟩ rd (fun a => by have := st.le a; simp only [fa] at this; omega) fun a h => ?_
    refine ⟨?_, st.out a (by simp only [fa]; omega)⟩
    rcases st.ns a (by simp only [fa]; omega) with z | z
    · simp [fz] at z
    · exact z
  · have hU : ∀ a, 0 < U a → ∃ o, H a = some o ∧ notTup o = true := RepL.nt ds vs U r
    have hP : ∀ a o, P a = some o → (if 0 < U a then P a else P' a) = some o := fun a o h => by
      split
      · exact h
      · rename_i z
        exact st.p0 a o (by unfold coldP; rw [if_neg z]; exact h)
    refine q v H' (fun a => if 0 < U a then P a else P' a) U2 ⟨hP, hH, fun a o h => ?_, fun a h => ?_⟩ (Rep.thaw (fun b o h1 h2 => ?_) d v U2 hz rd) (fun a => by have := st.le a; simp only [fa] at this; omega) fun a h => ?_
    · skip
      split at h
      · exact hH a o (e a o h)
      · exact st.ph a o h
    · skip
      split at h
      · exact .inl h
      · rename_i z
        rcases st.np a h with y | y | y
        · unfold coldP at y; rw [if_neg z] at y; exact .inl y
        · simp [fz] at y
        · exact .inr y
    · skip
      rw [if_neg]
      · exact h1
      · intro z
        obtain ⟨o2, k1, k2⟩ := hU b z
        have := hH b o2 k1
        rw [st.ph b o h1] at this
        cases this
        rw [h2] at k2; cases k2
    · have hn : H a = none := by
        rcases st.ns a (by simp only [fa]; omega) with z | z
        · simp [fz] at z
        · exact z
      refine ⟨hn, ?_⟩
      skip
      rw [if_neg]
      · exact st.out a (by simp only [fa]; omega)
      · intro z
        obtain ⟨o2, k1, _⟩ := hU a z
        rw [hn] at k1; cases k1
section
variable {X : Cx} {cl : Nat → Addr} {E : En} {e a b o : Expr} {es : List Expr} {pos p apos : Pos} {m : RM} {ms : AM} {CX : CXT} {k : Nat} {f C : Addr} {fd : FuncData} {ps : List Str} {F : FM} {XE : XK} {x nm : Str}
theorem call_split {ρ : List D} {d : D} (h : callM F ms ρ = some d) : ∃ ds ds', ms ρ = some ds ∧ F (iceL ds) = some (d, ds') ∧ (frzL ds = true ∨ noIce d = true) := by
  unfold callM at h
  cases e1 : ms ρ with
  | none => rw [e1] at h; cases h
  | some ds =>
    rw [e1, Option.bind_some] at h
    cases e2 : F (iceL ds) with
    | none => rw [e2] at h; cases h
    | some r =>
      rw [e2, Option.bind_some] at h
      split at h
      · rename_i hz
        cases h
        exact ⟨ds, r.2, rfl, e2, hz⟩
      · cases h
theorem f_call (G : FnOk X.prog X.w X.K X.mg X.base CX k f fd ps (spD ⟨X.K, cl, X.w⟩ F)) (hr : Room k X.A) (hg : Gl X x) (hm : X.mg x = some (.ref f)) (hk : PySem.W.keepIn X.K (.ref f) = true) (hb : Binds X.K fd ps []) (hx : Passes CX X XE)
    (ha : PA X (e :: es) (tAR ⟨X.K, cl, X.w⟩ E ms)) (hdb : (x == ("__debug__" : Str)) = false := by decide) (he : starEach (e :: es) X.env = (false, eval e X.env) :: starEach es X.env := by rfl) (hpl : (backTo pos (starEach es X.env)).any (·.1) = false := by rfl) :
    PE X (.Call (.Name x p) (e :: es) [] pos) (tF ⟨X.K, cl, X.w⟩ E (callM F ms)) := PE_imp (pe_call G hr hg hm hk hb .nil hx ha hdb he hpl) fun σ H Q ⟨P, S, T, ρ, d, w, h, q⟩ => by
  obtain ⟨ds, ds', e1, e2, hz⟩ := call_split h
  refine ⟨P, S, T, ρ, ds, w, e1, fun vs H1 P1 U1 g1 r1 => ?_⟩
  show spD ⟨X.K, cl, X.w⟩ F (vs ++ []) H1 Q XE
  rw [List.append_nil]
  exact spD_view g1.ph r1 e2 hz (q.grow g1)
theorem f_call0 (G : FnOk X.prog X.w X.K X.mg X.base CX k f fd ps (spD ⟨X.K, cl, X.w⟩ F)) (hr : Room k X.A) (hg : Gl X x) (hm : X.mg x = some (.ref f)) (hk : PySem.W.keepIn X.K (.ref f) = true) (hb : Binds X.K fd ps []) (hx : Passes CX X XE)
    (hdb : (x == ("__debug__" : Str)) = false := by decide) : PE X (.Call (.Name x p) [] [] pos) (tF ⟨X.K, cl, X.w⟩ E (callM F nilM)) := PE_imp (pe_call0 G hr hg hm hk hb .nil hx hdb) fun σ H Q ⟨P, S, T, ρ, d, w, h, q⟩ => by
  obtain ⟨ds, ds', e1, e2, hz⟩ := call_split h
  cases e1
  exact spD_view (c := ⟨X.K, cl, X.w⟩) (E := XE) (ds := []) (vs := []) w.ph (show RepL ⟨X.K, cl, X.w⟩ P H [] [] fz from ⟨rfl, rfl⟩) e2 hz q

def mkM (n : Nat) (F : FM) (ms : AM) : RM := fun ρ => (ms ρ).bind fun ds => if frzL ds = true then (F (.obj true n [] [] :: ds)).bind fun r => match r with | (.non, self :: _) => some self | _ => none else none
theorem mk_run {c : LC} {n : Nat} {P H : Hp} {ds : List D} {vs : List V} {self : D} {ds' : List D} {Q : VK} {XE : XK} (e : Ex P H) (r : RepL c P H ds vs fz) (hf : F (.obj true n [] [] :: ds) = some (.non, self :: ds')) (q : FQ c P H self Q) :
    ∀ x dx, H x = none → H dx = none → dx ≠ x → spD c F (.ref x :: (vs ++ [])) (upd (upd H dx (.own x)) x (.ins (c.cl n) dx [])) (fun v H2 => v = .non ∧ Q (.ref x) H2) XE := by
  intro x dx hx hdx hne
  have ex : Ex H (upd (upd H dx (.own x)) x (.ins (c.cl n) dx [])) := fun a o z => by
    rw [upd_ne (ne_of_none z hx), upd_ne (ne_of_none z hdx)]; exact z
  have back : ∀ a, upd (upd H dx (.own x)) x (.ins (c.cl n) dx []) a = none → H a = none := fun a z => by
    cases q : H a with
    | none => rfl
    | some o => rw [ex a o q] at z; cases z
  rw [List.append_nil]
  refine ⟨P, fa (one x) fz, .obj true n [] [] :: ds, _, _, ⟨.ref x, vs, one x, fz, rfl, ⟨x, dx, [], fz, rfl, upd_same, rfl, ⟨rfl, rfl⟩, (fa_fz _).symm⟩, repL_h r, rfl⟩, e.trans ex, fun a => by rw [fa_fz]; exact one_le a, fun a z => ?_, hf, fun v H' P' U S' st rd rs => ?_⟩
  · rw [fa_fz] at z; rw [one_pos z]; exact none_of e hx
  · rw [fa_fz] at st
    obtain ⟨y, ys, T1, T2, e1, r1, _, e2⟩ := rs
    cases e1
    have hH : Ex H H' := fun a o z => st.fr a o (by unfold one; rw [if_neg (ne_of_none z hx)]) (ex a o z)
    have old : ∀ a, (0 < one x a ∨ upd (upd H dx (.own x)) x (.ins (c.cl n) dx []) a = none) → H a = none := fun a z => by
      rcases z with z | z
      · rw [one_pos z]; exact hx
      · exact back a z
    refine ⟨rd.1, q (.ref x) H' P' T1 ⟨st.p0, hH, st.ph, fun a z => ?_⟩ r1 (fun a => ?_) fun a z => ⟨old a (st.ns a ?_), st.out a ?_⟩⟩
    · rcases st.np a z with z | z | z
      · exact .inl z
      · exact .inr (old a (.inl z))
      · exact .inr (old a (.inr z))
    · have := st.le a; rw [e2] at this; simp only [fa] at this; omega
    · rw [e2]; simp only [fa]; omega
    · rw [e2]; simp only [fa]; omega
theorem mk_split {n : Nat} {ρ : List D} {d : D} (h : mkM n F ms ρ = some d) : ∃ ds ds', ms ρ = some ds ∧ frzL ds = true ∧ F (.obj true n [] [] :: ds) = some (.non, d :: ds') := by
  unfold mkM at h
  cases e1 : ms ρ with
  | none => rw [e1] at h; cases h
  | some ds =>
    rw [e1, Option.bind_some] at h
    split at h
    · rename_i hz
      cases e2 : F (.obj true n [] [] :: ds) with
      | none => rw [e2] at h; cases h
      | some r =>
        rw [e2, Option.bind_some] at h
        split at h
        · cases h; exact ⟨ds, _, rfl, hz, e2⟩
        · cases h
    · cases h
theorem f_mk0 (n : Nat) (M : Mk X.K (cl n) f) (G : FnOk X.prog X.w X.K X.mg X.base CX k f fd ps (spD ⟨X.K, cl, X.w⟩ F)) (hr : Room (k + 1) X.A) (hg : Gl X x) (hm : X.mg x = some (.ref (cl n))) (hb : Binds X.K fd ps []) (hx : Passes CX X XE)
    (hdb : (x == ("__debug__" : Str)) = false := by decide) : PE X (.Call (.Name x p) [] [] pos) (tF ⟨X.K, cl, X.w⟩ E (mkM n F nilM)) := PE_imp (pe_make0 M G hr hg hm hb .nil hx hdb) fun σ H Q ⟨P, S, T, ρ, d, w, h, q⟩ => by
  obtain ⟨ds, ds', e1, hz, e2⟩ := mk_split h
  cases e1
  exact mk_run (c := ⟨X.K, cl, X.w⟩) (ds := []) (vs := []) w.ph (show RepL ⟨X.K, cl, X.w⟩ P H [] [] fz from ⟨rfl, rfl⟩) e2 q
end

structure Lens where
  get : List D → Option D
  put : List D → D → List D
structure Loc (c : LC) (L : Lens) (P H : Hp) (σ : L2.St) (ρ : List D) (S : FP) (v : V) (d : D) (Sd R : FP) : Prop where
  sum : ∀ a, S a = Sd a + R a
  rep : Rep c P H d v Sd
  put : ∀ (P2 H2 : Hp) (d2 : D) (S2 : FP), Ex P P2 → (∀ a o, 0 < R a → H a = some o → H2 a = some o) → Rep c P2 H2 d2 v S2 → RepE c P2 H2 (L.put ρ d2) σ (fa S2 R)
theorem Loc.grow {c : LC} {L : Lens} {P H P' H' : Hp} {σ : L2.St} {ρ : List D} {S : FP} {v : V} {d : D} {Sd R : FP} (l : Loc c L P H σ ρ S v d Sd R) (g : Gr P H P' H') : Loc c L P' H' σ ρ S v d Sd R :=
  ⟨l.sum, l.rep.gr g, fun P2 H2 d2 S2 e k r => l.put P2 H2 d2 S2 (g.p.trans e) (fun a o h1 h2 => k a o h1 (g.h a o h2)) r⟩
def tPl (c : LC) (E : En) (L : Lens) : TE := fun σ H Q => ∃ P S T ρ d, Wd c E P S T σ H ρ ∧ L.get ρ = some d ∧ ∀ v Sd R, Loc c L P H σ ρ S v d Sd R → Q v H
theorem RepE.focus {c : LC} {P H : Hp} : ∀ {ρ : List D} {σ : L2.St} {S : FP} {i : Nat} {d : D}, RepE c P H ρ σ S → ρ[i]? = some d → notGone d = true → ∃ v Sd R, σ[i]? = some (some v) ∧ Rep c P H d v Sd ∧ (∀ a, S a = Sd a + R a) ∧
    ∀ (P2 H2 : Hp) (d2 : D) (S2 : FP), Ex P P2 → (∀ a o, 0 < R a → H a = some o → H2 a = some o) → Rep c P2 H2 d2 v S2 → RepE c P2 H2 (ρ.set i d2) σ (fa S2 R)
  | [], [], _, i, d, _, e, _ => by simp at e
  | d0 :: ρ, v0 :: σ, S, 0, d, ⟨T, U, r, rs, f⟩, e, n => by
    simp at e; subst e
    cases v0 with
    | none => rw [r.1] at n; cases n
    | some v =>
      exact ⟨v, T, U, rfl, r, fun a => by rw [f]; rfl, fun P2 H2 d2 S2 e1 k r2 => ⟨S2, U, r2, rs.mono e1 ρ σ U k, rfl⟩⟩
  | d0 :: ρ, v0 :: σ, S, i + 1, d, ⟨T, U, r, rs, f⟩, e, n => by
    obtain ⟨v, Sd, R, h1, h2, h3, h4⟩ := RepE.focus (i := i) (d := d) rs (by simpa using e) n
    refine ⟨v, Sd, fa T R, by simpa using h1, h2, fun a => by have := h3 a; rw [f]; simp only [fa]; omega, fun P2 H2 d2 S2 e1 k r2 => ?_⟩
    refine ⟨T, fa S2 R, RepO.mono e1 (fun a o z1 z2 => k a o (by simp only [fa]; omega) z2) r, h4 P2 H2 d2 S2 e1 (fun a o z1 z2 => k a o (by simp only [fa]; omega) z2) r2, by funext a; simp only [fa]; omega⟩
  | [], _ :: _, _, _, _, h, _, _ => h.elim
  | _ :: _, [], _, _, _, h, _, _ => h.elim
theorem RepL.focus {c : LC} {P H : Hp} : ∀ {ds : List D} {xs : List V} {S : FP} {i : Nat} {d : D}, RepL c P H ds xs S → ds[i]? = some d → ∃ v Sd R, xs[i]? = some v ∧ Rep c P H d v Sd ∧ (∀ a, S a = Sd a + R a) ∧
    ∀ (P2 H2 : Hp) (d2 : D) (y : V) (S2 : FP), Ex P P2 → (∀ a o, 0 < R a → H a = some o → H2 a = some o) → Rep c P2 H2 d2 y S2 → RepL c P2 H2 (ds.set i d2) (xs.set i y) (fa S2 R)
  | [], xs, S, i, d, h, e => by simp at e
  | d0 :: ds, xs, S, 0, d, ⟨y, ys, T, U, e1, r, rs, f⟩, e => by
    simp at e; subst e
    subst e1
    exact ⟨y, T, U, rfl, r, fun a => by rw [f]; rfl, fun P2 H2 d2 z S2 e1 k r2 => ⟨z, ys, S2, U, rfl, r2, RepL.mono e1 ds ys U k rs, rfl⟩⟩
  | d0 :: ds, xs, S, i + 1, d, ⟨y, ys, T, U, e1, r, rs, f⟩, e => by
    subst e1
    obtain ⟨v, Sd, R, h1, h2, h3, h4⟩ := RepL.focus (i := i) (d := d) rs (by simpa using e)
    refine ⟨v, Sd, fa T R, by simpa using h1, h2, fun a => by have := h3 a; rw [f]; simp only [fa]; omega, fun P2 H2 d2 z S2 e1 k r2 => ?_⟩
    refine ⟨y, ys.set i z, T, fa S2 R, rfl, Rep.mono e1 d0 y T (fun a o z1 z2 => k a o (by simp only [fa]; omega) z2) r, h4 P2 H2 d2 z S2 e1 (fun a o z1 z2 => k a o (by simp only [fa]; omega) z2) r2, by funext a; simp only [fa]; omega⟩
def vL (i : Nat) : Lens := ⟨fun ρ => (ρ[i]?).bind fun d => if notGone d = true then some d else none, fun ρ d => ρ.set i d⟩
theorem vL_get {i : Nat} {ρ : List D} {d : D} (h : (vL i).get ρ = some d) : ρ[i]? = some d ∧ notGone d = true := by
  unfold vL at h
  cases e : ρ[i]? with
  | none => simp [e] at h
  | some d1 =>
    simp only [e, Option.bind_some] at h
    split at h
    · rename_i hn; cases h; exact ⟨rfl, hn⟩
    · cases h
def fIx (f : Str) : List Str → Option Nat
  | [] => none
  | g :: gs => if f = g then some 0 else (fIx f gs).map (· + 1)
def fldL (n : Nat) (f : Str) (L : Lens) : Lens := ⟨fun ρ => (L.get ρ).bind fun d => match d with
    | .obj _ k fs ds => if k = n then (fIx f fs).bind fun j => (ds[j]?).bind fun d => if notGone d = true then some d else none else none
    | _ => none,
  fun ρ d2 => match L.get ρ with
    | some (.obj o k fs ds) => match fIx f fs with
      | some j => L.put ρ (.obj o k fs (ds.set j d2))
      | none => ρ
    | _ => ρ⟩
theorem fIx_lookup {f : Str} : ∀ {fs : List Str} {xs : List V} {j : Nat}, fIx f fs = some j → fs.length = xs.length → (fs.zip xs).lookup f = xs[j]?
  | [], xs, j, h, n => by cases h
  | g :: gs, [], j, h, n => by simp at n
  | g :: gs, x :: xs, j, h, n => by
    unfold fIx at h
    by_cases e : f = g
    · rw [if_pos e] at h; cases h
      have : (f == g) = true := by rw [e]; exact beq_self_eq_true _
      simp [List.lookup, this]
    · rw [if_neg e] at h
      cases z : fIx f gs with
      | none => rw [z] at h; cases h
      | some j' =>
        rw [z] at h; cases h
        have : (f == g) = false := beq_eq_false_iff_ne.mpr e
        simp [List.lookup, this, fIx_lookup z (by simpa using n)]
theorem obj_heap {c : LC} {P H : Hp} (e : Ex P H) {o : Bool} {k : Nat} {fs : List Str} {ds : List D} {v : V} {U : FP} (r : Rep c P H (.obj o k fs ds) v U) : ∃ a dx xs T Z, v = .ref a ∧ H a = some (.ins (c.cl k) dx (fs.zip xs)) ∧ fs.length = xs.length ∧ RepL c P H ds xs T ∧ (∀ b, U b = Z b + T b) ∧
    ∀ (P2 H2 : Hp) (ds2 : List D) (T2 : FP), Ex P P2 → (∀ b u, 0 < Z b → H b = some u → H2 b = some u) → RepL c P2 H2 ds2 xs T2 → Rep c P2 H2 (.obj o k fs ds2) v (fa Z T2) := by
  cases o with
  | true =>
    obtain ⟨a, dx, xs, T, e1, h, n, rl, f⟩ := r
    exact ⟨a, dx, xs, T, one a, e1, h, n, rl, fun b => by rw [f]; rfl, fun P2 H2 ds2 T2 _ hk r2 => ⟨a, dx, xs, T2, e1, hk a _ (by simp [one]) h, n, r2, rfl⟩⟩
  | false =>
    obtain ⟨a, dx, xs, e1, h, n, rl⟩ := r
    exact ⟨a, dx, xs, U, fz, e1, e _ _ h, n, rl, fun b => by simp [fz], fun P2 H2 ds2 T2 hp _ r2 => ⟨a, dx, xs, e1, hp _ _ h, n, by rw [fz_fa]; exact r2⟩⟩
section
variable {X : Cx} {cl : Nat → Addr} {E : En} {e a b o : Expr} {es : List Expr} {pos p apos : Pos} {m : RM} {L : Lens}
theorem p_v (i : Nat) {x : Str} (hN : X.N[i]? = some x := by rfl) (hv : Vis X.env.scope x := by first | exact Or.inl rfl | exact Or.inr (Or.inl rfl) | exact Or.inr (Or.inr rfl)) (hd : (x == ("__debug__" : Str)) = false := by decide)
    (hcd : (x == ("__classdict__" : Str)) = false := by decide) : PE X (.Name x pos) (tPl ⟨X.K, cl, X.w⟩ E (vL i)) := PE_imp (pe_var hN hv hd hcd) fun σ H Q ⟨P, S, T, ρ, d, w, hg, q⟩ => by
  obtain ⟨h1, h2⟩ := vL_get hg
  obtain ⟨v, Sd, R, k1, k2, k3, k4⟩ := w.env.focus h1 h2
  exact ⟨v, k1, q v Sd R ⟨k3, k2, k4⟩⟩
theorem fld_split {n : Nat} {f : Str} {ρ : List D} {d : D} (h : (fldL n f L).get ρ = some d) : ∃ o fs ds j, L.get ρ = some (.obj o n fs ds) ∧ fIx f fs = some j ∧ ds[j]? = some d ∧ notGone d = true ∧ ∀ d2, (fldL n f L).put ρ d2 = L.put ρ (.obj o n fs (ds.set j d2)) := by
  unfold fldL at h
  cases e1 : L.get ρ with
  | none => simp [e1] at h
  | some d0 =>
    cases d0 with
    | obj o k fs ds =>
      simp only [e1, Option.bind_some] at h
      split at h
      · rename_i hk
        subst hk
        cases e2 : fIx f fs with
        | none => rw [e2] at h; cases h
        | some j =>
          rw [e2, Option.bind_some] at h
          cases e3 : ds[j]? with
          | none => rw [e3] at h; cases h
          | some d1 =>
            rw [e3, Option.bind_some] at h
            split at h
            · rename_i hn
              cases h
              exact ⟨o, fs, ds, j, rfl, e2, e3, hn, fun d2 => by simp [fldL, e1, e2]⟩
            · cases h
      · cases h
    | _ => simp [e1] at h
theorem p_fld (n : Nat) {f : Str} (hc : Cls X.K (cl n)) (hn : NoAttr X.K (cl n) f) (he : PE X e (tPl ⟨X.K, cl, X.w⟩ E L)) (hb : attributeBase e f X.env (eval e X.env) = eval e X.env := by rfl) : PE X (.Attribute e f pos) (tPl ⟨X.K, cl, X.w⟩ E (fldL n f L)) := PE_imp (pe_fld he hb) fun σ H Q ⟨P, S, T, ρ, d, w, hg, q⟩ => by
  obtain ⟨o, fs, ds, j, h1, h2, h3, h4, h5⟩ := fld_split hg
  refine ⟨P, S, T, ρ, _, w, h1, fun v Sd R l => ?_⟩
  obtain ⟨a, dx, xs, T1, Z, e1, hh, nl, rl, hz, hput⟩ := obj_heap w.ph l.rep
  obtain ⟨y, S1, R1, k1, k2, k3, k4⟩ := rl.focus h3
  refine ⟨a, cl n, dx, _, y, e1, hh, hc, hn, by rw [fIx_lookup h2 nl]; exact k1, q y S1 (fa (fa Z R1) R) ⟨fun b => ?_, k2, fun P2 H2 d2 S2 ep kr r2 => ?_⟩⟩
  · have := l.sum b; have := hz b; have := k3 b; simp only [fa]; omega
  · rw [h5]
    have rl2 := k4 P2 H2 d2 y S2 ep (fun b u z1 z2 => kr b u (by simp only [fa]; omega) z2) r2
    have e2 : xs.set j y = xs := by
      apply List.ext_getElem?
      intro t
      by_cases ht : t = j
      · subst ht; rw [k1, List.getElem?_set_self (List.getElem?_eq_some_iff.mp k1).1]
      · rw [List.getElem?_set_ne (Ne.symm ht)]
    rw [e2] at rl2
    have := l.put P2 H2 _ _ ep (fun b u z1 z2 => kr b u (by simp only [fa]; omega) z2) (hput P2 H2 _ _ ep (fun b u z1 z2 => kr b u (by simp only [fa]; omega) z2) rl2)
    have e3 : fa (fa Z (fa S2 R1)) R = fa S2 (fa (fa Z R1) R) := by funext b; simp only [fa]; omega
    rw [e3] at this
    exact this
theorem r_pl (h : PE X e (tPl ⟨X.K, cl, X.w⟩ E L)) : PE X e (tR ⟨X.K, cl, X.w⟩ E L.get) := PE_imp h fun σ H Q ⟨P, S, T, ρ, d, w, hm, q⟩ => ⟨P, S, T, ρ, d, w, hm, fun v Sd R l => q v H P Sd (.refl w.ph) l.rep⟩
end
end LI

namespace LI
open PySem L2

section
variable {c : LC} {E : En} {P P' : Hp} {S T : FP} {σ : L2.St} {H H' : Hp} {ρ ρ' : List D}
theorem Wd.through {Sd R V S2 U : FP} (w : Wd c E P S T σ H ρ) (hS : ∀ a, S a = Sd a + R a) (st : Stp P Sd H P' V H') (henv : RepE c P' H' ρ' σ S2) (h2 : ∀ a, S2 a + U a ≤ V a + R a) (hU : ∀ a, 0 < U a → H' a ≠ none) : Wd c E P' S2 (fa T U) σ H' ρ' := by
  have there : ∀ a, 0 < R a + T a → H a ≠ none ∧ Sd a = 0 := fun a h => by
    have l := w.le a
    have s := hS a
    refine ⟨?_, by omega⟩
    by_cases hT : 0 < T a
    · exact w.th a hT
    · exact RepE.there ρ σ S w.env a (by omega)
  have apart : ∀ a, 0 < V a → R a + T a = 0 := fun a h => by
    rcases st.ns a h with z | z
    · have l := w.le a; have s := hS a; omega
    · rcases Nat.eq_zero_or_pos (R a + T a) with q | q
      · exact q
      · exact absurd z (there a q).1
  have stay : ∀ a, 0 < R a + T a → P' a = none := fun a h => by
    cases q : P' a with
    | none => rfl
    | some o =>
      rcases st.np a (by rw [q]; simp) with z | z | z
      · exact absurd (w.out a (by have := hS a; omega)) z
      · have := (there a h).2; omega
      · exact absurd z (there a h).1
  refine ⟨henv, fun a => ?_, fun a h => ?_, fun a h => ?_, st.ph, w.p0.trans st.p0, fun a o h1 h2 => ?_, fun a h => ?_, fun a h => ?_, w.kp⟩
  · have h2a := h2 a; have le := st.le a; have l := w.le a; have s := hS a
    simp only [fa]
    by_cases hv : 0 < V a
    · have := apart a hv; omega
    · omega
  · simp only [fa] at h
    have h2a := h2 a
    by_cases hv : 0 < V a
    · exact st.out a hv
    · exact stay a (by omega)
  · simp only [fa] at h
    by_cases hT : 0 < T a
    · cases z : H a with
      | none => exact absurd z (w.th a hT)
      | some o => rw [st.fr a o (there a (by omega)).2 z]; simp
    · exact hU a (by omega)
  · refine st.fr a o ?_ (w.fr a o h1 h2)
    rcases Nat.eq_zero_or_pos (Sd a) with z | z
    · exact z
    · rcases w.ns a (by have := hS a; omega) with q | q
      · omega
      · rw [q] at h2; cases h2
  · rcases st.np a h with z | z | z
    · exact w.np a z
    · rcases w.ns a (by have := hS a; omega) with q | q
      · exact .inr (.inl q)
      · exact .inr (.inr q)
    · cases q : E.H0 a with
      | none => exact .inr (.inr rfl)
      | some o =>
        by_cases hs : E.S0 a = 0
        · rw [w.fr a o hs q] at z; cases z
        · exact .inr (.inl (by omega))
  · simp only [fa] at h
    have h2a := h2 a
    by_cases hv : 0 < V a
    · rcases st.ns a hv with z | z
      · exact w.ns a (by have := hS a; omega)
      · cases q : E.H0 a with
        | none => exact .inr rfl
        | some o =>
          by_cases hs : E.S0 a = 0
          · rw [w.fr a o hs q] at z; cases z
          · exact .inl (by omega)
    · exact w.ns a (by have := hS a; omega)
end

section
variable {X : Cx} {cl : Nat → Addr} {E : En} {e a b o : Expr} {es : List Expr} {pos p apos : Pos} {m : RM} {ms : AM} {CX : CXT} {k n : Nat} {f C : Addr} {fd : FuncData} {ps : List Str} {F : FM} {XE : XK} {x nm : Str} {L : Lens}
def isObjK (n : Nat) (nm : Str) : D → Bool
  | .obj _ k fs _ => decide (k = n) && !fs.contains nm
  | _ => false
def methM (n : Nat) (nm : Str) (L : Lens) (F : FM) (ms : AM) : GM := fun ρ => (L.get ρ).bind fun self => (ms ρ).bind fun ds => if isObjK n nm self = true ∧ frzL ds = true then (F (self :: ds)).bind fun r => match r.2 with | self' :: _ => some (r.1, L.put ρ self') | [] => none else none
theorem lookup_zip_none {nm : Str} : ∀ {fs : List Str} {xs : List V}, fs.contains nm = false → (fs.zip xs).lookup nm = none
  | [], _, _ => rfl
  | _ :: _, [], _ => rfl
  | g :: gs, y :: ys, h => by
    simp only [List.contains_cons, Bool.or_eq_false_iff] at h
    rw [List.zip_cons_cons]
    show (match nm == g with | true => some y | false => List.lookup nm (gs.zip ys)) = none
    rw [h.1]
    exact lookup_zip_none h.2
theorem isObj_v {c : LC} {P H : Hp} (e : Ex P H) {d : D} {v : V} {U : FP} (h : isObjK n nm d = true) (r : Rep c P H d v U) : ∃ a dx fs, v = .ref a ∧ H a = some (.ins (c.cl n) dx fs) ∧ fs.lookup nm = none := by
  cases d with
  | obj o k fs ds =>
    simp only [isObjK, Bool.and_eq_true, decide_eq_true_eq, Bool.not_eq_true'] at h
    obtain ⟨rfl, hn⟩ := h
    obtain ⟨a, dx, xs, T, Z, e1, hh, nl, _⟩ := obj_heap e r
    exact ⟨a, dx, _, e1, hh, lookup_zip_none hn⟩
  | _ => cases h
theorem meth_run (h : tG ⟨X.K, cl, X.w⟩ E (methM n nm L F ms) σ H Q) : tMeth (cl n) nm (spD ⟨X.K, cl, X.w⟩ F) [] XE (tPl ⟨X.K, cl, X.w⟩ E L) (tAR ⟨X.K, cl, X.w⟩ E ms) σ H Q := by
  obtain ⟨P, S, T, ρ, d, ρ', w, hm, q⟩ := h
  unfold methM at hm
  cases e1 : L.get ρ with
  | none => rw [e1] at hm; cases hm
  | some self =>
    cases e2 : ms ρ with
    | none => rw [e1, e2] at hm; cases hm
    | some ds =>
      rw [e1, e2, Option.bind_some, Option.bind_some] at hm
      split at hm
      · rename_i hc
        cases e3 : F (self :: ds) with
        | none => rw [e3] at hm; cases hm
        | some r =>
          obtain ⟨d1, rs⟩ := r
          rw [e3, Option.bind_some] at hm
          cases rs with
          | nil => cases hm
          | cons self' rs =>
            cases hm
            refine ⟨P, S, T, ρ, self, w, e1, fun v Sd R l => ?_⟩
            obtain ⟨a, dx, fs, ev, hh, hl⟩ := isObj_v w.ph hc.1 l.rep
            refine ⟨a, dx, fs, ev, hh, hl, P, S, T, ρ, ds, w, e2, fun vs H1 P1 U1 g1 r1 => ?_⟩
            have z := RepL.frz0 ds vs U1 hc.2 r1
            subst z
            have l1 := l.grow g1
            have w1 := w.grow g1
            show spD ⟨X.K, cl, X.w⟩ F (v :: (vs ++ [])) H1 Q XE
            rw [List.append_nil]
            refine ⟨P1, fa Sd fz, self :: ds, d1, self' :: rs, ⟨v, vs, Sd, fz, rfl, l1.rep, r1, rfl⟩, g1.ph, fun b => by have := w.le b; have := l.sum b; simp only [fa, fz]; omega, fun b hb => w1.out b (by have := l.sum b; simp only [fa, fz] at hb; omega), e3, fun v2 H2 P2 U S' st rd rl => ?_⟩
            rw [fa_fz] at st
            obtain ⟨y, ys, T1, T2, e4, rself, _, e5⟩ := rl
            cases e4
            have henv := l1.put P2 H2 self' T1 st.p0 (fun b u hb hu => st.fr b u (by have := w.le b; have := l.sum b; omega) hu) rself
            have w2 := w1.through l1.sum st henv (U := U) (fun b => by rw [e5]; simp only [fa]; omega) (Rep.there d1 v2 U rd)
            exact q v2 H2 P2 _ U w2 (g1.p.trans st.p0) rd fun b u hb hu => st.fr b u (by have := w.le b; have := l.sum b; omega) (g1.h b u hu)
      · cases hm
theorem g_meth {pl : Sem Bool} (n : Nat) (he : PE X o (tPl ⟨X.K, cl, X.w⟩ E L)) (c : Cls X.K (cl n)) (hm : Meth X.K (cl n) nm f) (G : FnOk X.prog X.w X.K X.mg X.base CX k f fd ps (spD ⟨X.K, cl, X.w⟩ F)) (hr : Room k X.A) (hb : Binds X.K fd ps []) (hx : Passes CX X XE) (ha : PA X (e :: es) (tAR ⟨X.K, cl, X.w⟩ E ms))
    (hst : starEach (e :: es) X.env = (false, eval e X.env) :: starEach es X.env := by rfl) (hpl : (backTo pos (starEach es X.env)).any (·.1) = false := by rfl)
    (ht : eval (.Call (.Attribute o nm apos) (e :: es) [] pos) X.env = (do
      let ov ← eval o X.env
      standAt apos.atName
      let (f, first) ← holding [ov] (getMethod ov nm pl)
      callWith pos f first (backTo pos (starEach (e :: es) X.env)) (backToKw pos (keywordEach [] X.env))) := by rfl) :
    PE X (.Call (.Attribute o nm apos) (e :: es) [] pos) (tG ⟨X.K, cl, X.w⟩ E (methM n nm L F ms)) := PE_imp (pe_meth he c hm G hr hb .nil hx ha hst hpl ht) fun _ _ _ h => meth_run h
theorem g_meth0 {pl : Sem Bool} (n : Nat) (he : PE X o (tPl ⟨X.K, cl, X.w⟩ E L)) (c : Cls X.K (cl n)) (hm : Meth X.K (cl n) nm f) (G : FnOk X.prog X.w X.K X.mg X.base CX k f fd ps (spD ⟨X.K, cl, X.w⟩ F)) (hr : Room k X.A) (hb : Binds X.K fd ps []) (hx : Passes CX X XE)
    (ht : eval (.Call (.Attribute o nm apos) [] [] pos) X.env = (do
      let ov ← eval o X.env
      standAt apos.atName
      let (f, first) ← holding [ov] (getMethod ov nm pl)
      callWith pos f first (backTo pos (starEach [] X.env)) (backToKw pos (keywordEach [] X.env))) := by rfl) :
    PE X (.Call (.Attribute o nm apos) [] [] pos) (tG ⟨X.K, cl, X.w⟩ E (methM n nm L F nilM)) := PE_imp (pe_meth0 he c hm G hr hb .nil hx ht) fun σ H Q h => by
  have h2 := meth_run (XE := XE) h
  obtain ⟨P, S, T, ρ, d, w, hg, q⟩ := h2
  refine ⟨P, S, T, ρ, d, w, hg, fun v Sd R l => ?_⟩
  obtain ⟨a, dx, fs, ev, hh, hl, P2, S2, T2, ρ2, ds, w2, hn, q2⟩ := q v Sd R l
  cases hn
  exact ⟨a, dx, fs, ev, hh, hl, q2 [] H P2 fz (.refl w2.ph) ⟨rfl, rfl⟩⟩
def lookM (n : Nat) (nm : Str) (mo : RM) (F : FM) (ms : AM) : RM := fun ρ => (mo ρ).bind fun self => (ms ρ).bind fun ds => if isObjK n nm self = true then (F (iceL (self :: ds))).bind fun r => if frzL (self :: ds) = true ∨ noIce r.1 = true then some r.1 else none else none
theorem look_run {mo : RM} (h : tF ⟨X.K, cl, X.w⟩ E (lookM n nm mo F ms) σ H Q) : tMeth (cl n) nm (spD ⟨X.K, cl, X.w⟩ F) [] XE (tR ⟨X.K, cl, X.w⟩ E mo) (tAR ⟨X.K, cl, X.w⟩ E ms) σ H Q := by
  obtain ⟨P, S, T, ρ, d, w, hm, q⟩ := h
  unfold lookM at hm
  cases e1 : mo ρ with
  | none => rw [e1] at hm; cases hm
  | some self =>
    cases e2 : ms ρ with
    | none => rw [e1, e2] at hm; cases hm
    | some ds =>
      rw [e1, e2, Option.bind_some, Option.bind_some] at hm
      split at hm
      · rename_i hc
        cases e3 : F (iceL (self :: ds)) with
        | none => rw [e3] at hm; cases hm
        | some r =>
          rw [e3, Option.bind_some] at hm
          split at hm
          · rename_i hz
            cases hm
            refine ⟨P, S, T, ρ, self, w, e1, fun v H1 P1 U1 g1 r1 => ?_⟩
            obtain ⟨a, dx, fs, ev, hh, hl⟩ := isObj_v g1.ph hc r1
            refine ⟨a, dx, fs, ev, hh, hl, P1, S, T, ρ, ds, w.grow g1, e2, fun vs H2 P2 U2 g2 r2 => ?_⟩
            show spD ⟨X.K, cl, X.w⟩ F (v :: (vs ++ [])) H2 Q XE
            rw [List.append_nil]
            exact spD_view (ds' := r.2) g2.ph (show RepL ⟨X.K, cl, X.w⟩ P2 H2 (self :: ds) (v :: vs) (fa U1 U2) from ⟨v, vs, U1, U2, rfl, r1.gr g2, r2, rfl⟩) e3 hz (q.grow (g1.trans g2))
          · cases hm
      · cases hm
theorem f_look0 {pl : Sem Bool} {mo : RM} (n : Nat) (he : PE X o (tR ⟨X.K, cl, X.w⟩ E mo)) (c : Cls X.K (cl n)) (hm : Meth X.K (cl n) nm f) (G : FnOk X.prog X.w X.K X.mg X.base CX k f fd ps (spD ⟨X.K, cl, X.w⟩ F)) (hr : Room k X.A) (hb : Binds X.K fd ps []) (hx : Passes CX X XE)
    (ht : eval (.Call (.Attribute o nm apos) [] [] pos) X.env = (do
      let ov ← eval o X.env
      standAt apos.atName
      let (f, first) ← holding [ov] (getMethod ov nm pl)
      callWith pos f first (backTo pos (starEach [] X.env)) (backToKw pos (keywordEach [] X.env))) := by rfl) :
    PE X (.Call (.Attribute o nm apos) [] [] pos) (tF ⟨X.K, cl, X.w⟩ E (lookM n nm mo F nilM)) := PE_imp (pe_meth0 he c hm G hr hb .nil hx ht) fun σ H Q h => by
  obtain ⟨P, S, T, ρ, d, w, hg, q⟩ := look_run (XE := XE) h
  refine ⟨P, S, T, ρ, d, w, hg, fun v H1 P1 U1 g1 r1 => ?_⟩
  obtain ⟨a, dx, fs, ev, hh, hl, P2, S2, T2, ρ2, ds, w2, hn, q2⟩ := q v H1 P1 U1 g1 r1
  cases hn
  exact ⟨a, dx, fs, ev, hh, hl, q2 [] H1 P2 fz (.refl w2.ph) ⟨rfl, rfl⟩⟩

theorem loc_lst {c : LC} {P H : Hp} {S T U : FP} {ρ : List D} {v : V} {ds : List D} {Sd R : FP} (w : Wd c E P S (fa T U) σ H ρ) (l : Loc c L P H σ ρ S v (.lst true ds) Sd R) : ∃ a xs T1, v = .ref a ∧ H a = some (.lst xs) ∧ RepL c P H ds xs T1 ∧ (∀ b, Sd b = one a b + T1 b) ∧
    ∀ (ys : List V) (es : List D) (T2 U2 : FP), RepL c P (upd H a (.lst ys)) es ys T2 → (∀ b, T2 b + U2 b ≤ T1 b + U b) → Wd c E P (fa (fa (one a) T2) R) (fa T U2) σ (upd H a (.lst ys)) (L.put ρ (.lst true es)) := by
  obtain ⟨a, xs, T1, e1, hh, rl, f⟩ := l.rep
  have hSd : ∀ b, Sd b = one a b + T1 b := fun b => by rw [f]; rfl
  refine ⟨a, xs, T1, e1, hh, rl, hSd, fun ys es T2 U2 r2 hb => ?_⟩
  have ha : 0 < S a := by have := l.sum a; have := hSd a; simp [one] at *; omega
  have henv := l.put P (upd H a (.lst ys)) (.lst true es) (fa (one a) T2) (.refl _) (fun b u hb hu => by
    have hne : b ≠ a := fun z => by
      subst z
      have := w.le b; have := l.sum b; have := hSd b
      simp [one] at *; omega
    rw [upd_ne hne]; exact hu) ⟨a, ys, T2, e1, upd_same, r2, rfl⟩
  have wT : Wd c E P S (fa T U) σ H ρ := w
  -- the part aside may give to the slots
  have hP : P a = none := w.out a (by omega)
  refine ⟨henv, fun b => ?_, fun b z => ?_, fun b z => ?_, fun b u z => ?_, w.p0, fun b u z1 z2 => ?_, w.np, fun b z => ?_, w.kp⟩
  · have := w.le b; have := l.sum b; have := hSd b; have := hb b; simp only [fa] at *; omega
  · refine w.out b ?_; have := l.sum b; have := hSd b; have := hb b; simp only [fa] at *; omega
  · by_cases e : b = a
    · subst e; rw [upd_same]; simp
    · rw [upd_ne e]
      by_cases hT : 0 < fa T U b
      · exact w.th b hT
      · refine RepE.there ρ σ S w.env b ?_
        have := l.sum b; have := hSd b; have := hb b; simp only [fa] at *; omega
  · have e : b ≠ a := fun q => by subst q; rw [hP] at z; cases z
    rw [upd_ne e]; exact w.ph b u z
  · have e : b ≠ a := fun q => by
      subst q
      rcases w.ns b (by omega) with y | y
      · omega
      · rw [y] at z2; cases z2
    rw [upd_ne e]; exact w.fr b u z1 z2
  · refine w.ns b ?_; have := l.sum b; have := hSd b; have := hb b; simp only [fa] at *; omega
def appL (L : Lens) (m : RM) : GM := fun ρ => (L.get ρ).bind fun d => (m ρ).bind fun y => match d with | .lst true ds => if ds.length < LIM then some (.non, L.put ρ (.lst true (ds ++ [y]))) else none | _ => none
theorem repL_h' {c : LC} {P H H' : Hp} {ds : List D} {xs : List V} {S : FP} (r : RepL c P H ds xs S) (k : ∀ a o, 0 < S a → H a = some o → H' a = some o) : RepL c P H' ds xs S := RepL.mono (.refl _) ds xs S k r
theorem g_app (he : PE X o (tPl ⟨X.K, cl, X.w⟩ E L)) (ha : PE X e (tF ⟨X.K, cl, X.w⟩ E m))
    (hbase : attributeBase o "append" X.env (eval o X.env) = eval o X.env := by rfl)
    (hfew : ((backTo pos (starEach [e] X.env)).all (fun x => !x.1) && (backToKw pos (keywordEach [] X.env)).all (fun x => x.1.isSome)
      && decide ([e].length + ([] : List Keyword).length + (if ([] : List Keyword).isEmpty then 0 else 1) < 30)) = true := by rfl)
    (hline : (apos.endLine == pos.line) = true := by rfl) (hs : starEach [e] X.env = (false, eval e X.env) :: starEach [] X.env := by rfl) : PE X (.Call (.Attribute o "append" apos) [e] [] pos) (tG ⟨X.K, cl, X.w⟩ E (appL L m)) := by
  refine PE_imp (pe_bm PySem.F.plainAttrs_list PySem.F.slot_list_append PySem.F.type_list_append mt_append he (pa_cons ha pa_nil hs) hbase hfew hline hs) fun σ H Q ⟨P, S, T, ρ, d, ρ', w, hm, q⟩ => ?_
  unfold appL at hm
  cases e1 : L.get ρ with
  | none => rw [e1] at hm; cases hm
  | some d0 =>
    cases e2 : m ρ with
    | none => rw [e1, e2] at hm; cases hm
    | some y =>
      rw [e1, e2, Option.bind_some, Option.bind_some] at hm
      split at hm
      · rename_i ds
        split at hm
        · rename_i hl
          cases hm
          refine ⟨P, S, T, ρ, _, w, e1, fun v Sd R l => ?_⟩
          obtain ⟨a0, xs0, T0, e0, h0, _⟩ := l.rep
          refine ⟨by rw [e0]; exact .inl ⟨rfl, xs0, .inl (.inl h0)⟩, P, S, T, ρ, y, w, e2, fun z H1 P1 U1 g1 r1 u1 u2 => ?_⟩
          have w1 := w.aside g1 u1 u2 (Rep.there y z U1 r1)
          obtain ⟨a, xs, T1, ev, hh, rl, hS, k⟩ := loc_lst w1 (l.grow g1)
          have hl' : xs.length < sizeLine := by rw [← rl.length]; exact lim_lt hl
          have ha0 : 0 < S a := by have := l.sum a; have := hS a; simp [one] at *; omega
          refine ⟨a, xs, z, ev, rfl, hh, hl', ?_⟩
          have keepT : ∀ b u, 0 < T1 b + U1 b → H1 b = some u → upd H1 a (.lst (xs ++ [z])) b = some u := fun b u hb hu => by
            have : b ≠ a := fun q => by
              subst q
              have := w1.le b; have := l.sum b; have := hS b
              simp [one, fa] at *; omega
            rw [upd_ne this]; exact hu
          have r2 : RepL ⟨X.K, cl, X.w⟩ P1 (upd H1 a (.lst (xs ++ [z]))) (ds ++ [y]) (xs ++ [z]) (fa T1 (fa U1 fz)) :=
            RepL.append (repL_h' rl fun b u hb hu => keepT b u (by omega) hu) ⟨z, [], U1, fz, rfl, Rep.mono (.refl _) y z U1 (fun b u hb hu => keepT b u (by omega) hu) r1, ⟨rfl, rfl⟩, rfl⟩
          have w2 := k _ _ _ fz r2 fun b => by simp only [fa, fz]; omega
          exact q .non _ P1 _ fz w2 g1.p ⟨rfl, rfl⟩ fun b u hb hu => by
            have : b ≠ a := fun z2 => by subst z2; have := w.le b; omega
            rw [upd_ne this]; exact g1.h b u hu
        · cases hm
      · cases hm
end
end LI

namespace LI
open PySem L2

section
variable {X : Cx} {cl : Nat → Addr} {E : En} {e a b o : Expr} {es : List Expr} {pos pos' p apos : Pos} {m : RM} {g : GM} {ms : AM} {n : Nat} {f nm : Str} {L : Lens} {σ : L2.St}
theorem loc_own {c : LC} {P H : Hp} {S T U : FP} {ρ : List D} {v : V} {d : D} {Sd R T1 : FP} {a : Addr} (w : Wd c E P S (fa T U) σ H ρ) (l : Loc c L P H σ ρ S v d Sd R) (hSd : ∀ b, Sd b = one a b + T1 b) (hu : ∀ b, 0 < T1 b + U b → H b ≠ none) :
    ∀ (o : HO) (d2 : D) (T2 U2 : FP), Rep c P (upd H a o) d2 v (fa (one a) T2) → (∀ b, T2 b + U2 b ≤ T1 b + U b) → Wd c E P (fa (fa (one a) T2) R) (fa T U2) σ (upd H a o) (L.put ρ d2) := by
  intro o d2 T2 U2 r2 hb
  have ha : 0 < S a := by have := l.sum a; have := hSd a; simp [one] at *; omega
  have henv := l.put P (upd H a o) d2 (fa (one a) T2) (.refl _) (fun b u hb hu => by
    have hne : b ≠ a := fun z => by
      subst z
      have := w.le b; have := l.sum b; have := hSd b
      simp [one] at *; omega
    rw [upd_ne hne]; exact hu) r2
  have hP : P a = none := w.out a (by omega)
  refine ⟨henv, fun b => ?_, fun b z => ?_, fun b z => ?_, fun b u z => ?_, w.p0, fun b u z1 z2 => ?_, w.np, fun b z => ?_, w.kp⟩
  · have := w.le b; have := l.sum b; have := hSd b; have := hb b; simp only [fa] at *; omega
  · refine w.out b ?_; have := l.sum b; have := hSd b; have := hb b; simp only [fa] at *; omega
  · by_cases e : b = a
    · subst e; rw [upd_same]; simp
    · rw [upd_ne e]
      by_cases hT : 0 < fa T U b
      · exact w.th b hT
      · refine hu b ?_
        have := hb b; simp only [fa] at *; omega
  · have e : b ≠ a := fun q => by subst q; rw [hP] at z; cases z
    rw [upd_ne e]; exact w.ph b u z
  · have e : b ≠ a := fun q => by
      subst q
      rcases w.ns b (by omega) with y | y
      · omega
      · rw [y] at z2; cases z2
    rw [upd_ne e]; exact w.fr b u z1 z2
  · refine w.ns b ?_; have := l.sum b; have := hSd b; have := hb b; simp only [fa] at *; omega
theorem keep_own {c : LC} {P H : Hp} {S T : FP} {ρ : List D} {v : V} {d : D} {Sd R T1 : FP} {a : Addr} (w : Wd c E P S T σ H ρ) (l : Loc c L P H σ ρ S v d Sd R) (hSd : ∀ b, Sd b = one a b + T1 b) (o : HO) : ∀ b u, 0 < T1 b + T b → H b = some u → upd H a o b = some u := fun b u hb hu => by
  have : b ≠ a := fun q => by
    subst q
    have := w.le b; have := l.sum b; have := hSd b
    simp [one] at *; omega
  rw [upd_ne this]; exact hu

def setFD (n : Nat) (f : Str) (d : D) : D → Option D
  | .obj true k fs ds => if k = n ∧ fs.length < 1000 then some (match fIx f fs with | some j => .obj true k fs (ds.set j d) | none => .obj true k (fs ++ [f]) (ds ++ [d])) else none
  | _ => none
def fldM (n : Nat) (f : Str) (L : Lens) (g : GM) : SM := fun ρ => (g ρ).bind fun r => (L.get r.2).bind fun self => (setFD n f r.1 self).map fun self' => (.nx, L.put r.2 self')
theorem fIx_lt {f : Str} : ∀ {fs : List Str} {j : Nat}, fIx f fs = some j → j < fs.length
  | [], j, h => by cases h
  | g :: gs, j, h => by
    unfold fIx at h
    by_cases e : f = g
    · rw [if_pos e] at h; cases h; simp
    · rw [if_neg e] at h
      cases z : fIx f gs with
      | none => rw [z] at h; cases h
      | some j' => rw [z] at h; cases h; have := fIx_lt z; simp; omega
theorem putF_some {f : Str} {y : V} : ∀ {fs : List Str} {xs : List V} {j : Nat}, fIx f fs = some j → fs.length = xs.length → putF f y (fs.zip xs) = fs.zip (xs.set j y)
  | [], xs, j, h, n => by cases h
  | g :: gs, [], j, h, n => by simp at n
  | g :: gs, x :: xs, j, h, n => by
    unfold fIx at h
    by_cases e : f = g
    · rw [if_pos e] at h; cases h
      rw [List.zip_cons_cons]
      show (if g = f then (g, y) :: gs.zip xs else _) = _
      rw [if_pos e.symm]; rfl
    · rw [if_neg e] at h
      cases z : fIx f gs with
      | none => rw [z] at h; cases h
      | some j' =>
        rw [z] at h; cases h
        rw [List.zip_cons_cons]
        show (if g = f then _ else (g, x) :: putF f y (gs.zip xs)) = _
        rw [if_neg (fun q => e q.symm), putF_some z (by simpa using n)]; rfl
theorem putF_none {f : Str} {y : V} : ∀ {fs : List Str} {xs : List V}, fIx f fs = none → fs.length = xs.length → putF f y (fs.zip xs) = (fs ++ [f]).zip (xs ++ [y])
  | [], xs, h, n => by
    have : xs = [] := List.length_eq_zero_iff.mp n.symm
    subst this; rfl
  | g :: gs, [], h, n => by simp at n
  | g :: gs, x :: xs, h, n => by
    unfold fIx at h
    by_cases e : f = g
    · rw [if_pos e] at h; cases h
    · rw [if_neg e] at h
      have z : fIx f gs = none := by cases z : fIx f gs with | none => rfl | some j' => rw [z] at h; cases h
      rw [List.zip_cons_cons]
      show (if g = f then _ else (g, x) :: putF f y (gs.zip xs)) = _
      rw [if_neg (fun q => e q.symm), putF_none z (by simpa using n)]; rfl
theorem s_fld (n : Nat) {value : Expr} (hc : Cls X.K (cl n)) (hn : NoAttr X.K (cl n) f) (he : PE X value (tG ⟨X.K, cl, X.w⟩ E g)) (ho : PE X o (tPl ⟨X.K, cl, X.w⟩ E L)) (hs : swapsWith value (some (.Attribute o f pos')) pos.line X.env = pure false := by rfl) :
    PS X (.Assign [.Attribute o f pos'] value pos) (tS ⟨X.K, cl, X.w⟩ E (fldM n f L g)) := PS_imp (ps_fld ho he hs) fun D σ H ⟨P, S, ρ, fl, ρ', w, hm, q⟩ => by
  unfold fldM at hm
  cases eg : g ρ with
  | none => rw [eg] at hm; cases hm
  | some r =>
    obtain ⟨d, ρ1⟩ := r
    rw [eg, Option.bind_some] at hm
    cases el : L.get ρ1 with
    | none => rw [el] at hm; cases hm
    | some self =>
      rw [el, Option.bind_some] at hm
      cases ef : setFD n f d self with
      | none => rw [ef] at hm; cases hm
      | some self' =>
        rw [ef] at hm
        cases hm
        refine g_run w eg fun y H1 P1 S1 U w1 e1 r1 => ⟨P1, S1, U, ρ1, self, w1, el, fun v Sd R l => ?_⟩
        unfold setFD at ef
        split at ef
        · rename_i k fs ds
          split at ef
          · rename_i hk
            obtain ⟨rfl, hl⟩ := hk
            cases ef
            obtain ⟨a, dx, xs, T1, ev, hh, nl, rl, hf⟩ := l.rep
            have hS : ∀ b, Sd b = one a b + T1 b := fun b => by rw [hf]; rfl
            have w1' : Wd ⟨X.K, cl, X.w⟩ E P1 S1 (fa fz U) σ H1 ρ1 := by rw [fz_fa]; exact w1
            refine ⟨a, cl k, dx, _, ev, hh, hc, hn, by rw [List.length_zip]; omega, ?_⟩
            have kp := fun o => keep_own w1 l hS o
            have hu : ∀ b, 0 < T1 b + U b → H1 b ≠ none := fun b hb => by
              by_cases hU : 0 < U b
              · exact w1.th b hU
              · exact RepL.there ds xs T1 rl b (by omega)
            cases ej : fIx f fs with
            | some j =>
              have hj : j < xs.length := by
                have := fIx_lt ej
                omega
              obtain ⟨x0, hx0⟩ : ∃ x0, ds[j]? = some x0 := ⟨_, List.getElem?_eq_getElem (by rw [rl.length]; exact hj)⟩
              obtain ⟨v0, S0, R0, k1, k2, k3, k4⟩ := rl.focus hx0
              rw [putF_some ej nl]
              have rnew := k4 P1 (upd H1 a (.ins (cl k) dx (fs.zip (xs.set j y)))) d y U (.refl _) (fun b u hb hu => kp _ b u (by have := k3 b; omega) hu) (Rep.mono (.refl _) d y U (fun b u hb hu => kp _ b u (by omega) hu) r1)
              have w2 := loc_own w1' l hS hu (.ins (cl k) dx (fs.zip (xs.set j y))) (.obj true k fs (ds.set j d)) (fa U R0) fz ⟨a, dx, _, fa U R0, ev, upd_same, by rw [List.length_set]; exact nl, rnew, rfl⟩ (fun b => by have := k3 b; simp only [fa, fz]; omega)
              rw [fa_fz] at w2
              simp only [ej] at q
              exact q σ _ P1 _ w2 e1
            | none =>
              rw [putF_none ej nl]
              have rnew : RepL ⟨X.K, cl, X.w⟩ P1 (upd H1 a (.ins (cl k) dx ((fs ++ [f]).zip (xs ++ [y])))) (ds ++ [d]) (xs ++ [y]) (fa T1 (fa U fz)) :=
                RepL.append (repL_h' rl fun b u hb hu => kp _ b u (by omega) hu) ⟨y, [], U, fz, rfl, Rep.mono (.refl _) d y U (fun b u hb hu => kp _ b u (by omega) hu) r1, ⟨rfl, rfl⟩, rfl⟩
              have w2 := loc_own w1' l hS hu (.ins (cl k) dx ((fs ++ [f]).zip (xs ++ [y]))) (.obj true k (fs ++ [f]) (ds ++ [d])) (fa T1 (fa U fz)) fz ⟨a, dx, _, _, ev, upd_same, by simp [nl], rnew, rfl⟩ (fun b => by simp only [fa, fz]; omega)
              rw [fa_fz] at w2
              simp only [ej] at q
              exact q σ _ P1 _ w2 e1
          · cases ef
        · cases ef

def extS (i : Nat) (g : GM) : GM := fun ρ => match ρ[i]? with
  | some (.lst true _) => (g ρ).bind fun r => match r.1, r.2[i]? with
    | .lst _ ys, some (.lst true ds) => if frzL ys = true ∧ ds.length + ys.length ≤ LIM then some (.non, r.2.set i (.lst true (ds ++ ys))) else none
    | _, _ => none
  | _ => none
theorem loc_v {c : LC} {P H : Hp} {S T : FP} {ρ : List D} {i : Nat} {d : D} {v : V} (w : Wd c E P S T σ H ρ) (h : ρ[i]? = some d) (hn : notGone d = true) (hv : σ[i]? = some (some v)) : ∃ Sd R, Loc c (vL i) P H σ ρ S v d Sd R := by
  obtain ⟨v', Sd, R, k1, k2, k3, k4⟩ := w.env.focus h hn
  rw [hv] at k1
  cases k1
  exact ⟨Sd, R, k3, k2, k4⟩
theorem g_ext (i : Nat) {x : Str} {px : Pos} (he : PE X e (tG ⟨X.K, cl, X.w⟩ E g)) (hN : X.N[i]? = some x := by rfl) (hv : Vis X.env.scope x := by first | exact Or.inl rfl | exact Or.inr (Or.inl rfl) | exact Or.inr (Or.inr rfl))
    (hd : (x == ("__debug__" : Str)) = false := by decide) (hcd : (x == ("__classdict__" : Str)) = false := by decide)
    (hbase : attributeBase (.Name x px) "extend" X.env (eval (.Name x px) X.env) = eval (.Name x px) X.env := by rfl)
    (hfew : ((backTo pos (starEach [e] X.env)).all (fun x => !x.1) && (backToKw pos (keywordEach [] X.env)).all (fun x => x.1.isSome)
      && decide ([e].length + ([] : List Keyword).length + (if ([] : List Keyword).isEmpty then 0 else 1) < 30)) = true := by rfl)
    (hline : (apos.endLine == pos.line) = true := by rfl) (hs : starEach [e] X.env = (false, eval e X.env) :: starEach [] X.env := by rfl) : PE X (.Call (.Attribute (.Name x px) "extend" apos) [e] [] pos) (tG ⟨X.K, cl, X.w⟩ E (extS i g)) := by
  refine PE_imp (pe_bm PySem.F.plainAttrs_list PySem.F.slot_list_extend PySem.F.type_list_extend mt_extend (pe_var hN hv hd hcd) (pa_cons he pa_nil hs) hbase hfew hline hs) fun σ H Q ⟨P, S, T, ρ, d, ρ', w, hm, q⟩ => ?_
  unfold extS at hm
  split at hm
  · rename_i ds0 hi
    cases eg : g ρ with
    | none => rw [eg] at hm; cases hm
    | some r =>
      obtain ⟨dy, ρ1⟩ := r
      rw [eg, Option.bind_some] at hm
      split at hm
      · rename_i o' ys ds h1 h2
        split at hm
        · rename_i hl
          cases hm
          obtain ⟨v, Sd0, R0, hv0, r0, _, _⟩ := w.env.focus hi rfl
          obtain ⟨a0, xs0, T0, ev0, h0, _⟩ := r0
          refine ⟨v, hv0, by rw [ev0]; exact .inl ⟨rfl, xs0, .inl (.inl h0)⟩, P, S, T, ρ, dy, ρ1, w, eg, fun z H1 P1 S1 U1 w1 ep r1 kT => ?_⟩
          replace h1 : dy = .lst o' ys := h1
          subst h1
          obtain ⟨Sd, R, l⟩ := loc_v w1 (show ρ1[i]? = some _ from h2) rfl hv0
          obtain ⟨a, xs, T1, ev, hh, rl, hf⟩ := l.rep
          have hS : ∀ b, Sd b = one a b + T1 b := fun b => by rw [hf]; rfl
          obtain ⟨p2, zs, ez, hz, rz⟩ := lst_heap0 w1.ph r1 hl.1
          refine ⟨a, p2, xs, zs, ev, by rw [ez], hh, hz, by rw [← rl.length, ← rz.length]; exact lim_le hl.2, ?_⟩
          have kp := fun o => keep_own w1 l hS o
          have hu : ∀ b, 0 < T1 b + U1 b → H1 b ≠ none := fun b hb => by
            by_cases hU : 0 < U1 b
            · exact w1.th b (by simp only [fa]; omega)
            · exact RepL.there ds xs T1 rl b (by omega)
          have rnew : RepL ⟨X.K, cl, X.w⟩ P1 (upd H1 a (.lst (xs ++ zs))) (ds ++ ys) (xs ++ zs) (fa T1 fz) :=
            RepL.append (repL_h' rl fun b u hb hu => kp _ b u (by omega) hu) (repL_h rz)
          have w2 := loc_own w1 l hS hu (.lst (xs ++ zs)) (.lst true (ds ++ ys)) (fa T1 fz) fz ⟨a, _, _, ev, upd_same, rnew, rfl⟩ (fun b => by simp only [fa, fz]; omega)
          exact q .non _ P1 _ fz w2 ep ⟨rfl, rfl⟩ fun b u hb hu => kp _ b u (by simp only [fa]; omega) (kT b u hb hu)
        · cases hm
      · cases hm
  · cases hm

def strsOf : List D → Option (List (List Nat))
  | [] => some []
  | .str s :: ds => (strsOf ds).map fun ss => s :: ss
  | _ :: _ => none
def joinL (sep : List Nat) : List (List Nat) → List Nat
  | [] => []
  | [s] => s
  | s :: ss => s ++ sep ++ joinL sep ss
theorem strs_v {c : LC} {P H : Hp} : ∀ {ds : List D} {xs : List V} {U : FP} {ss : List (List Nat)}, strsOf ds = some ss → RepL c P H ds xs U → xs = (ss.map fun s => (⟨s.toArray⟩ : Str)).map V.str
  | [], xs, U, is, h, r => by cases h; exact r.1
  | .str i :: ds, xs, U, is, h, ⟨y, ys, T, T2, e1, r, rs, _⟩ => by
    unfold strsOf at h
    cases z : strsOf ds with
    | none => rw [z] at h; cases h
    | some js => rw [z] at h; cases h; rw [e1, r.1, strs_v z rs]; rfl
  | .gone :: _, _, _, _, h, _ | .non :: _, _, _, _, h, _ | .bl _ :: _, _, _, _, h, _ | .int _ :: _, _, _, _, h, _ | .scr _ :: _, _, _, _, h, _ | .kst _ :: _, _, _, _, h, _ | .tup _ :: _, _, _, _, h, _ | .lst .. :: _, _, _, _, h, _ | .dK .. :: _, _, _, _, h, _ | .dT .. :: _, _, _, _, h, _ | .dN .. :: _, _, _, _, h, _ | .obj .. :: _, _, _, _, h, _ => by simp [strsOf] at h
end
end LI

namespace LI
open PySem L2

section
variable {X : Cx} {cl : Nat → Addr} {E : En} {e a b o : Expr} {es : List Expr} {pos pos' p apos : Pos} {m mo : RM} {g : GM} {ms : AM} {n : Nat} {f nm : Str} {L : Lens} {σ : L2.St}
def frM (m : RM) : RM := fun ρ => (m ρ).bind fun d => if frz d = true then some d else none
theorem f_fr (h : PE X e (tR ⟨X.K, cl, X.w⟩ E m)) : PE X e (tF ⟨X.K, cl, X.w⟩ E (frM m)) := PE_imp h fun σ H Q ⟨P, S, T, ρ, d, w, hm, q⟩ => by
  unfold frM at hm
  cases hd : m ρ with
  | none => rw [hd] at hm; cases hm
  | some d1 =>
    rw [hd, Option.bind_some] at hm
    split at hm
    · rename_i hf
      cases hm
      refine ⟨P, S, T, ρ, d, w, hd, fun v H' P' U g r => ?_⟩
      have z := Rep.frz0 d v U hf r
      subst z
      exact q v H' P' fz g r (fun _ => Nat.zero_le _) fun a z => by simp [fz] at z
    · cases hm

def joinD2 : D → D → Option D
  | .str sep, .lst _ ds => (strsOf ds).bind fun ss => if (ss.map List.length).sum + ss.length * sep.length ≤ LIM then some (.str (TL.joinL sep ss)) else none
  | _, _ => none
theorem f_join (ho : PE X o (tR ⟨X.K, cl, X.w⟩ E mo)) (he : PE X e (tR ⟨X.K, cl, X.w⟩ E m)) (hs : starEach [e] X.env = [(false, eval e X.env)] := by rfl) (hbase : attributeBase o "join" X.env (eval o X.env) = eval o X.env := by rfl) (hline : (apos.endLine == pos.line) = true := by rfl) :
    PE X (.Call (.Attribute o "join" apos) [e] [] pos) (tF ⟨X.K, cl, X.w⟩ E (m2 joinD2 mo m)) := PE_imp (pe_join ho he hs hbase hline) fun σ H Q ⟨P, S, T, ρ, d, w, hm, q⟩ => by
  obtain ⟨da, db, ea, eb, h⟩ := m2_split hm
  unfold joinD2 at h
  split at h
  · rename_i sep o' ds
    cases z : strsOf ds with
    | none => rw [z] at h; cases h
    | some ss =>
      rw [z, Option.bind_some] at h
      split at h
      · rename_i hl
        cases h
        refine ⟨P, S, T, ρ, _, w, ea, fun v H1 P1 U1 g1 r1 => ⟨⟨_, r1.1⟩, P1, S, T, ρ, _, w.grow g1, eb, fun y H2 P2 U2 g2 r2 => ?_⟩⟩
        obtain ⟨p, xs, T', ey, hh, rl, _⟩ := lst_heap g2.ph r2
        have hx := strs_v z rl
        subst hx
        refine ⟨_, p, ss.map SX.S, r1.1, by rw [ey], .inl (.inl (.inl hh)), ?_, ?_⟩
        · have e1 : ((ss.map SX.S).map fun x => x.length) = ss.map List.length := SX.lens ss
          rw [e1, List.length_map]
          have e2 : (⟨sep.toArray⟩ : Str).length = sep.length := str_len sep
          rw [e2]
          exact Nat.le_trans hl (by decide)
        · have e3 : Txt.join ⟨sep.toArray⟩ (ss.map SX.S) = ⟨(TL.joinL sep ss).toArray⟩ := SX.join_S sep ss
          rw [e3]
          exact (q.grow (g1.trans g2)).flat g2.ph ⟨rfl, rfl⟩
      · cases h
  · cases h
end

def spLaw (K : PySem.W.Frag) : Sp := fun vs H Q _ => ∃ (a : Addr) (ns : List Int), vs = [.ref a] ∧ SqL K H a (ns.map V.int) ∧ ns.length ≤ 63 ∧ (∀ z ∈ ns, Builtin.Int.intBits z ≤ 1048576) ∧ ∀ H', Q (.bl true) H'
theorem law_ok {P : Program} {w : World} {K : PySem.W.Frag} {mg : Str → Option Value} {base : Heap} {CX : CXT} {k : Nat} {f : Addr} {fd : FuncData} {ps : List Str} {F : FM} {cl : Nat → Addr} (G : FnOk P w K mg base CX k f fd ps (spD ⟨K, cl, w⟩ F))
    (h : ∀ ns : List Int, ns.length ≤ 63 → (∀ z ∈ ns, Builtin.Int.intBits z ≤ 1048576) → ∃ ds', F [.scr ns] = some (.bl true, ds')) : FnOk P w K mg base CX k f fd ps (spLaw K) :=
  G.imp fun vs H Q E ⟨a, ns, e, hs, hl, hb, q⟩ => by
    obtain ⟨ds', hF⟩ := h ns hl hb
    refine ⟨H, fz, [.scr ns], .bl true, ds', ⟨.ref a, [], fz, fz, e, ⟨a, rfl, hs, rfl⟩, ⟨rfl, rfl⟩, (fa_fz fz).symm⟩, .refl _, fun _ => Nat.zero_le _, fun a z => by simp [fz] at z, hF, fun v H' P' U S' st rd _ => ?_⟩
    rw [rd.1]
    exact q H'
end LI

namespace LI
open PySem L2

section
variable {X : Cx} {cl : Nat → Addr} {E : En} {e a b o : Expr} {es : List Expr} {pos pos' p apos : Pos} {m mo ma mb : RM} {g : GM} {ms : AM} {n : Nat} {nm x : Str} {L : Lens} {σ : L2.St} {CX : CXT} {k : Nat} {fa' : Addr} {fd : FuncData} {ps : List Str} {F : FM} {XE : XK}
def VQ (c : LC) (P H : Hp) (d : D) (Q : VK) : Prop := ∀ v H' P' U, Gr P H P' H' → Rep c H' H' d v U → Q v H'
def tV (c : LC) (E : En) (m : RM) : TE := fun σ H Q => ∃ P S T ρ d, Wd c E P S T σ H ρ ∧ m ρ = some d ∧ VQ c P H d Q
theorem v_r (h : PE X e (tR ⟨X.K, cl, X.w⟩ E m)) : PE X e (tV ⟨X.K, cl, X.w⟩ E m) := PE_imp h fun σ H Q ⟨P, S, T, ρ, d, w, hm, q⟩ => ⟨P, S, T, ρ, d, w, hm, fun v H' P' U g r => q v H' P' U g (Rep.mono g.ph d v U (fun _ _ _ h => h) r)⟩
theorem FQ.flatV {c : LC} {P H : Hp} {d : D} {Q : VK} (hp : Ex P H) (hd : isFlat d = true) (h : FQ c P H d Q) : FQ c H H d Q := fun v H' P' U g r _ _ =>
  h v H' P fz ⟨.refl _, g.h, hp.trans g.h, fun _ z => .inl z⟩ (flat_any (c := c) hd r) (fun _ => Nat.zero_le _) fun a z => by simp [fz] at z
def FlatOp (f : D → D → Option D) : Prop := ∀ a b d, f a b = some d → isFlat d = true
theorem op2_runW {r : R2} {f : D → D → Option D} (hf : Op2 ⟨X.K, cl, X.w⟩ r f) (hz : FlatOp f) {H : Hp} {Q : VK} (h : tF ⟨X.K, cl, X.w⟩ E (m2 f ma mb) σ H Q) : tOp r (tV ⟨X.K, cl, X.w⟩ E ma) (tV ⟨X.K, cl, X.w⟩ E mb) σ H Q := by
  obtain ⟨P, S, T, ρ, d, w, hm, q⟩ := h
  obtain ⟨da, db, ea, eb, hm⟩ := m2_split hm
  refine ⟨P, S, T, ρ, da, w, ea, fun x H1 P1 U1 g1 r1 => ⟨P1, S, T, ρ, db, w.grow g1, eb, fun y H2 P2 U2 g2 r2 => ?_⟩⟩
  exact hf H2 H2 (.refl _) _ _ _ _ _ _ _ hm (Rep.mono g2.h da x U1 (fun a o _ h => g2.h a o h) r1) r2 Q ((q.grow (g1.trans g2)).flatV g2.ph (hz _ _ _ hm))
theorem v_cmp {op : CmpOp} {r : R2} {f : D → D → Option D} (ho : OpR X (compareOp op) r) (hf : Op2 ⟨X.K, cl, X.w⟩ r f) (hz : FlatOp f) (ha : PE X a (tV ⟨X.K, cl, X.w⟩ E ma)) (hb : PE X b (tV ⟨X.K, cl, X.w⟩ E mb)) (hm : behindInMarks op b = false) : PE X (.Compare a [op] [b] pos) (tF ⟨X.K, cl, X.w⟩ E (m2 f ma mb)) :=
  PE_imp (pe_cmpR ho ha hb hm) fun _ _ _ h => op2_runW hf hz h
theorem tv_cmp {op : CmpOp} {r : R2} {f : D → D → Option D} (ho : OpR X (compareOp op) r) (hf : Op2 ⟨X.K, cl, X.w⟩ r f) (hz : FlatOp f) (ha : PE X a (tV ⟨X.K, cl, X.w⟩ E ma)) (hb : PE X b (tV ⟨X.K, cl, X.w⟩ E mb)) (hm : behindInMarks op b = false) : PT X (.Compare a [op] [b] pos) (tT ⟨X.K, cl, X.w⟩ E (bM (m2 f ma mb))) :=
  t_test (pt_cmpR ho ha hb hm) fun _ _ _ h => op2_runW hf hz h
theorem flat_eq : FlatOp eqD := fun a b d h => by
  unfold eqD at h
  cases z : eqB a b with
  | none => rw [z] at h; cases h
  | some k => rw [z] at h; cases h; rfl
theorem flat_ne : FlatOp neD := fun a b d h => by
  unfold neD at h
  cases z : eqB a b with
  | none => rw [z] at h; cases h
  | some k => rw [z] at h; cases h; rfl
def callVM (F : FM) (ms : AM) : RM := fun ρ => (ms ρ).bind fun ds => (F (iceL ds)).map (·.1)
theorem f_gl {v : V} (d : D) (h : ∃ u, X.mg x = some u ∧ RelV v u) (hr : ∀ P H, Ex P H → Rep ⟨X.K, cl, X.w⟩ P H d v fz) (hg : Gl X x := by rfl) (hd : (x == ("__debug__" : Str)) = false := by decide) : PE X (.Name x pos) (tF ⟨X.K, cl, X.w⟩ E (kM d)) := by
  obtain ⟨u, h1, h2⟩ := h
  exact f_glob d hg h1 h2 hr hd
theorem f_glS (s : List Nat) (h : ∃ u, X.mg x = some u ∧ RelV (.str ⟨s.toArray⟩) u) (hg : Gl X x := by rfl) (hd : (x == ("__debug__" : Str)) = false := by decide) : PE X (.Name x pos) (tF ⟨X.K, cl, X.w⟩ E (kM (.str s))) := f_gl (.str s) h (fun _ _ _ => ⟨rfl, rfl⟩) hg hd
theorem f_isi' {ty : String} {b0 : Expr} (ha : PE X a (tR ⟨X.K, cl, X.w⟩ E ma)) (hb : PE X b0 (tC (.ty ty))) (hm : X.mg "isinstance" = none) (hg : Gl X "isinstance" := by rfl)
    (hs1 : starEach [a, b0] X.env = (false, eval a X.env) :: starEach [b0] X.env := by rfl) (hs2 : starEach [b0] X.env = (false, eval b0 X.env) :: starEach [] X.env := by rfl) (hpl : (backTo pos (starEach [b0] X.env)).any (·.1) = false := by rfl) : PE X (.Call (.Name "isinstance" p) [a, b0] [] pos) (tF ⟨X.K, cl, X.w⟩ E (isiM ty ma)) :=
  f_isi hg hm (by decide +kernel) ha hb (by decide) (by decide) hs1 hs2 hpl
end
end LI

namespace LI
open PySem L2

def mvM (L : Lens) : GM := fun ρ => (L.get ρ).bind fun d => some (d, L.put ρ .gone)
def iceAt (i : Nat) (ρ : List D) : List D := match ρ[i]? with
  | some d => ρ.set i (ice d)
  | none => ρ
def iceM (i : Nat) (m : SM) : SM := fun ρ => (m ρ).map fun r => match r.1 with
  | .nx => (.nx, iceAt i r.2)
  | f => (f, r.2)
section
variable {X : Cx} {cl : Nat → Addr} {E : En} {e a b tg : Expr} {pos : Pos} {L : Lens} {m ma mb : RM}
theorem g_mv (h : PE X e (tPl ⟨X.K, cl, X.w⟩ E L)) : PE X e (tG ⟨X.K, cl, X.w⟩ E (mvM L)) := PE_imp h fun σ H Q ⟨P, S, T, ρ, d, ρ', w, hm, q⟩ => by
  unfold mvM at hm
  cases hd : L.get ρ with
  | none => rw [hd] at hm; cases hm
  | some d1 =>
    rw [hd] at hm
    cases hm
    refine ⟨P, S, T, ρ, d, w, hd, fun v Sd R l => ?_⟩
    have henv := l.put P H .gone fz (.refl P) (fun _ _ _ h => h) rfl
    refine q v H P (fa fz R) Sd ?_ (.refl P) l.rep (fun _ _ _ h => h)
    have hs := l.sum
    refine ⟨henv, fun x => ?_, fun x hx => ?_, fun x hx => ?_, w.ph, w.p0, w.fr, w.np, fun x hx => ?_, w.kp⟩
    · have := w.le x; have := hs x; simp only [fa, fz] at *; omega
    · exact w.out x (by have := hs x; simp only [fa, fz] at *; omega)
    · by_cases z : 0 < T x
      · exact w.th x z
      · exact Rep.there d v Sd l.rep x (by simp only [fa] at hx; omega)
    · exact w.ns x (by have := hs x; simp only [fa, fz] at *; omega)
theorem RepE.iceAt {c : LC} {P H : Hp} : ∀ {ρ : List D} {σ : St} {S : FP} (i : Nat), RepE c P H ρ σ S → ∃ (U R : FP), (∀ a, S a = U a + R a) ∧ (∀ a, 0 < U a → H a ≠ none) ∧
    ∀ (P2 H2 : Hp), Ex P P2 → (∀ a o, 0 < U a → H a = some o → P2 a = some o) → (∀ a o, 0 < R a → H a = some o → H2 a = some o) → RepE c P2 H2 (LI.iceAt i ρ) σ R
  | [], [], S, i, h => ⟨fz, S, fun a => by simp [fz], fun a p => by simp [fz] at p, fun P2 H2 _ _ _ => h⟩
  | d0 :: ρ, v0 :: σ, S, 0, ⟨T, U, r, rs, f⟩ => ⟨T, U, fun a => by rw [f]; rfl, r.there, fun P2 H2 e k1 k2 => by
      refine ⟨fz, U, ?_, rs.mono e ρ σ U k2, by funext a; simp [fa, fz]⟩
      cases v0 with
      | none => obtain ⟨rfl, _⟩ := r; exact ⟨rfl, rfl⟩
      | some v => exact Rep.ice e d0 v T k1 r⟩
  | d0 :: ρ, v0 :: σ, S, i + 1, ⟨T, T2, r, rs, f⟩ => by
    obtain ⟨U, R, h1, h0, h2⟩ := RepE.iceAt i rs
    refine ⟨U, fa T R, fun a => by have := h1 a; rw [f]; simp only [fa]; omega, h0, fun P2 H2 e k1 k2 => ?_⟩
    have := h2 P2 H2 e k1 (fun a o z1 z2 => k2 a o (by simp only [fa]; omega) z2)
    have e2 : LI.iceAt (i + 1) (d0 :: ρ) = d0 :: LI.iceAt i ρ := by
      simp only [LI.iceAt, List.getElem?_cons_succ]
      cases ρ[i]? <;> rfl
    rw [e2]
    exact ⟨T, R, RepO.mono e (fun a o z1 z2 => k2 a o (by simp only [fa]; omega) z2) r, this, rfl⟩
  | [], _ :: _, _, _, h => h.elim
  | _ :: _, [], _, _, h => h.elim
theorem Wd.iceAt {c : LC} {P H : Hp} {S T : FP} {σ : St} {ρ : List D} (w : Wd c E P S T σ H ρ) (i : Nat) : ∃ P' S', Wd c E P' S' T σ H (LI.iceAt i ρ) ∧ Ex P P' := by
  obtain ⟨U, R, h1, h0, h2⟩ := RepE.iceAt i w.env
  have hP : ∀ a, 0 < U a → P a = none := fun a z => w.out a (by have := h1 a; omega)
  have ex : Ex P (fun a => if 0 < U a then H a else P a) := fun a o z => by
    by_cases hu : 0 < U a
    · rw [hP a hu] at z; cases z
    · simp [hu, z]
  refine ⟨fun a => if 0 < U a then H a else P a, R, ⟨h2 _ H ex (fun a o z1 z2 => by simp [z1, z2]) (fun _ _ _ h => h), fun a => ?_, fun a z => ?_, w.th, fun a o z => ?_, w.p0.trans ex, w.fr, fun a z => ?_, fun a z => w.ns a (by have := h1 a; omega), w.kp⟩, ex⟩
  · have := w.le a; have := h1 a; omega
  · have l := w.le a; have s := h1 a
    have hu : ¬ 0 < U a := by omega
    simp only [hu, if_false]
    exact w.out a (by omega)
  · by_cases hu : 0 < U a
    · simpa [hu] using z
    · exact w.ph a o (by simpa [hu] using z)
  · by_cases hu : 0 < U a
    · exact .inr (w.ns a (by have := h1 a; omega))
    · exact w.np a (by simpa [hu] using z)
theorem s_seqI (i : Nat) {st : Stmt} {m : SM} (h : PS X st (tS ⟨X.K, cl, X.w⟩ E m)) : PS X st (tS ⟨X.K, cl, X.w⟩ E (iceM i m)) := PS_imp h fun D σ H ⟨P, S, ρ, fl, ρ', w, hm, q⟩ => by
  unfold iceM at hm
  cases eg : m ρ with
  | none => rw [eg] at hm; cases hm
  | some r =>
    obtain ⟨f1, ρ1⟩ := r
    rw [eg] at hm
    refine ⟨P, S, ρ, f1, ρ1, w, eg, ?_⟩
    cases f1 with
    | nx =>
      cases hm
      intro σ' H' P' S' w' x
      obtain ⟨P2, S2, w2, e2⟩ := w'.iceAt i
      exact q σ' H' P2 S2 w2 (x.trans e2)
    | rt d => cases hm; exact q
    | bk => cases hm; exact q
    | ct => cases hm; exact q
    | ex n fs es => cases hm; exact q

def enumFrom (n : Nat) : List D → List D
  | [] => []
  | d :: ds => .tup [.int (n : Int), d] :: enumFrom (n + 1) ds
def lstD : D → Option (List D)
  | .lst false ds => if frzL ds = true then some ds else none
  | .scr ns => some (ns.map .int)
  | _ => none
def enumM (m : RM) : AM := fun ρ => (m ρ).bind fun d => (lstD d).map (enumFrom 0)
def zipD : List D → List D → List D
  | a :: as, b :: bs => .tup [a, b] :: zipD as bs
  | _, _ => []
def zipM (m1 m2 : RM) : AM := fun ρ => (m1 ρ).bind fun d1 => (m2 ρ).bind fun d2 => (lstD d1).bind fun a => (lstD d2).map fun b => zipD a b
def revM (m : RM) : AM := fun ρ => (m ρ).bind fun d => (lstD d).map List.reverse
theorem enumFrom_get : ∀ (ds : List D) (n i : Nat) (d : D), ds[i]? = some d → (enumFrom n ds)[i]? = some (.tup [.int ((n + i : Nat) : Int), d])
  | [], n, i, d, h => by simp at h
  | d0 :: ds, n, 0, d, h => by simp at h; subst h; rfl
  | d0 :: ds, n, i + 1, d, h => by
    have := enumFrom_get ds (n + 1) i d (by simpa using h)
    simp only [enumFrom, List.getElem?_cons_succ, this]
    congr 4; omega
theorem enumFrom_len : ∀ (ds : List D) (n : Nat), (enumFrom n ds).length = ds.length
  | [], n => rfl
  | d :: ds, n => by simp [enumFrom, enumFrom_len ds]
theorem lst_sq {c : LC} {P H : Hp} {d : D} {ds : List D} {v : V} {U : FP} (h : lstD d = some ds) (r : Rep c P H d v U) : ∃ p xs, v = .ref p ∧ SqL c.K P p xs ∧ ∀ H', RepL c P H' ds xs fz := by
  unfold lstD at h
  split at h
  · split at h
    · rename_i hf
      cases h
      obtain ⟨p, xs, e1, hp, rl⟩ := r
      have z := RepL.frz0 _ xs _ hf rl
      subst z
      exact ⟨p, xs, e1, .inl (.inl hp), fun _ => repL_h rl⟩
    · cases h
  · cases h
    obtain ⟨p, e1, hp, _⟩ := r
    exact ⟨p, _, e1, hp, fun _ => repL_ints _⟩
  · cases h
theorem pair_gr {c : LC} {P H H3 : Hp} {T : Addr} {x y : V} {d1 d2 : D} (ph : Ex P H) (hT : H T = none) (e : H3 = upd H T (.tup [x, y])) (r1 : Rep c P H d1 x fz) (r2 : Rep c P H d2 y fz) :
    ∃ P3, Gr P H P3 H3 ∧ Rep c P3 H3 (.tup [d1, d2]) (.ref T) fz := by
  subst e
  have hP := none_of ph hT
  have eP : Ex P (upd P T (.tup [x, y])) := fun a o z => by rw [upd_ne (ne_of_none z hP)]; exact z
  refine ⟨upd P T (.tup [x, y]), ⟨eP, fun a o z => by rw [upd_ne (ne_of_none z hT)]; exact z, fun a o z => ?_, fun a z => ?_⟩, T, [x, y], rfl, .inl (.inl upd_same), x, [y], fz, fz, rfl, ?_, ⟨y, [], fz, fz, rfl, ?_, ⟨rfl, rfl⟩, (fa_fz fz).symm⟩, (fa_fz fz).symm⟩
  · by_cases q : a = T
    · subst q; rw [upd_same] at z ⊢; exact z
    · rw [upd_ne q] at z ⊢; exact ph a o z
  · by_cases q : a = T
    · subst q; exact .inr hT
    · rw [upd_ne q] at z; exact .inl z
  · exact Rep.mono eP d1 x fz (fun a o z _ => by simp [fz] at z) r1
  · exact Rep.mono eP d2 y fz (fun a o z _ => by simp [fz] at z) r2
theorem rep_ph {c : LC} {P P2 H H2 : Hp} {d : D} {x : V} (e : Ex P P2) (r : Rep c P H d x fz) : Rep c P2 H2 d x fz := Rep.mono e d x fz (fun a o z _ => by simp [fz] at z) r
theorem i_enum {elts : List Expr} {kk : Nat} {p tpos : Pos} (hg : Gl X "enumerate") (hm : X.mg "enumerate" = none) (h : PE X e (tR ⟨X.K, cl, X.w⟩ E m)) (hs : starEach [e] X.env = (false, eval e X.env) :: starEach [] X.env := by rfl) :
    PI X (.Tuple elts kk tpos) (.Call (.Name "enumerate" p) [e] [] pos) (tI ⟨X.K, cl, X.w⟩ E (enumM m)) := PI_imp (pi_enum hg hm (a_cons h a_nil hs) hs) fun σ H R ⟨P, S, T, ρ, ds, w, hm, q⟩ => by
  unfold enumM at hm
  cases ea : m ρ with
  | none => rw [ea] at hm; cases hm
  | some d =>
    rw [ea, Option.bind_some] at hm
    cases el : lstD d with
    | none => rw [el] at hm; cases hm
    | some es =>
      rw [el] at hm
      cases hm
      refine ⟨P, S, T, ρ, [d], w, by simp [consM, nilM, ea], fun vs H1 P1 U1 g1 ⟨y, ys, T1, T2, e1, r1, r2, f⟩ => ?_⟩
      obtain ⟨p, xs, e2, hp, rl⟩ := lst_sq el r1
      refine ⟨p, xs, by rw [e1, e2, r2.1], sql_mono g1.ph hp, q _ H1 P1 g1 ⟨_, _, by rw [enumFrom_len, (rl H1).length]; exact walk_enum (xs := xs), fun P2 H2 e1 e2 => sql_mono e2 (sql_mono e1 hp), fun i P2 H2 x H3 e1 e2 hi y => ?_⟩⟩
      obtain ⟨T, x1, y1, h1, h2, h3, h4, h5⟩ := y
      cases h4
      obtain ⟨d1, k1, k2⟩ := rep_get0 (rl H2) h5
      obtain ⟨P3, g3, r3⟩ := pair_gr (c := ⟨X.K, cl, X.w⟩) (d1 := .int ((0 + i : Nat) : Int)) e2 h2 h3 ⟨by simp, rfl⟩ (rep_ph (H2 := H2) e1 k2)
      exact ⟨P3, _, g3, enumFrom_get es 0 i d1 k1, h1 ▸ r3⟩
end
def IterV (c : LC) (P H : Hp) (J : It) (ds : List D) : Prop := ∃ (G : Hp → Prop) (Y : Nat → Hp → V → Hp → Prop), Walk J ds.length G Y ∧ (∀ P2 H2, Gr P H P2 H2 → G H2) ∧
  ∀ i P2 H2 x H3, Gr P H P2 H2 → i < ds.length → Y i H2 x H3 → ∃ P3 d, Gr P2 H2 P3 H3 ∧ ds[i]? = some d ∧ Rep c P3 H3 d x fz
def tIV (c : LC) (E : En) (m : AM) : TI := fun σ H R => ∃ P S T ρ ds, Wd c E P S T σ H ρ ∧ m ρ = some ds ∧ ∀ J H' P', Gr P H P' H' → IterV c P' H' J ds → R J H'
def itemsV : D → Option (List D)
  | .lst _ ds => if frzL ds = true then some ds else none
  | d => itemsD d
def itV (m : RM) : AM := fun ρ => (m ρ).bind itemsV
section
variable {X : Cx} {cl : Nat → Addr} {E : En} {e a b tg : Expr} {pos : Pos} {m ma mb : RM}
theorem i_up {ms : AM} (h : PI X tg e (tI ⟨X.K, cl, X.w⟩ E ms)) : PI X tg e (tIV ⟨X.K, cl, X.w⟩ E ms) := PI_imp h fun σ H R ⟨P, S, T, ρ, ds, w, hm, q⟩ =>
  ⟨P, S, T, ρ, ds, w, hm, fun J H1 P1 g1 ⟨G, Y, wk, hG, hY⟩ => q J H1 P1 g1 ⟨G, Y, wk, fun P2 H2 g2 => hG P2 H2 g2.p g2.ph, fun i P2 H2 x H3 g2 hi y => hY i P2 H2 x H3 g2.p g2.ph hi y⟩⟩
theorem i_seqV (h : PE X e (tR ⟨X.K, cl, X.w⟩ E m)) : PI X tg e (tIV ⟨X.K, cl, X.w⟩ E (itV m)) := by
  refine PI_imp (PI_or (pi_list h) (i_up (i_seq h))) fun σ H R ⟨P, S, T, ρ, ds, w, hm, q⟩ => ?_
  unfold itV at hm
  cases ea : m ρ with
  | none => rw [ea] at hm; cases hm
  | some d =>
    rw [ea] at hm
    replace hm : itemsV d = some ds := hm
    cases d with
    | lst o es =>
      replace hm : (if frzL es = true then some es else none) = some ds := hm
      split at hm
      · rename_i hf
        cases hm
        refine .inl ⟨P, S, T, ρ, _, w, ea, fun v H1 P1 U1 g1 r1 => ?_⟩
        obtain ⟨p, xs, T', e1, hp, rl, _⟩ := lst_heap g1.ph r1
        have z := RepL.frz0 _ xs _ hf rl
        subst z
        refine ⟨p, e1, ⟨xs, .inl (.inl hp)⟩, q _ H1 P1 g1 ⟨_, _, by rw [rl.length]; exact walk_list (K := X.K) (a := p) (xs := xs), fun P2 H2 g2 => Or.inl (Or.inl (g2.h _ _ hp)), fun i P2 H2 x H3 g2 hi y => ?_⟩⟩
        obtain ⟨rfl, hx⟩ := y
        obtain ⟨d, h1, h2⟩ := rep_get0 (repL_h (H' := H3) rl) hx
        exact ⟨P2, d, .refl g2.ph, h1, Rep.mono g2.p d x fz (fun a o z _ => by simp [fz] at z) h2⟩
      · cases hm
    | _ => exact .inr ⟨P, S, T, ρ, ds, w, by unfold itM; rw [ea]; exact hm, q⟩
theorem lcV_run {c : LC} {vs tl : List Nat} {f : TgM} {mc : BM} {me : RM} {ms : AM} (ht : ∀ j ∈ tl, j ∈ vs) (hk : ∀ j ∈ vs, E.kp[j]? ≠ some true) {σ : St} {H : Hp} {Q : VK} (h : tF c E (compM vs f mc me ms) σ H Q) :
    tLc (tIV c E ms) (tPG c E tl f) (tTs c E mc) (tR c E me) vs σ H Q := by
  obtain ⟨P, S, T, ρ, d, w, hm, q⟩ := h
  unfold compM at hm
  cases es : ms ρ with
  | none => rw [es] at hm; cases hm
  | some ds =>
    rw [es, Option.bind_some] at hm
    split at hm
    · rename_i hlim
      cases ec : compL f mc me (goneAt ρ vs) ds with
      | none => rw [ec] at hm; cases hm
      | some ys =>
        rw [ec] at hm
        cases hm
        refine ⟨P, S, T, ρ, ds, w, es, fun J H1 P1 g1 io => ?_⟩
        intro Dl hD
        obtain ⟨G, Y, wk, hG, hY⟩ := io
        have hP1 : P1 Dl = none := none_of g1.ph hD
        -- the invariant
        refine lc_it wk (fun i Hh => ∃ P2 zs acc, compL f mc me (goneAt ρ vs) (ds.take i) = some zs ∧ Gr P1 H1 P2 Hh ∧ P2 Dl = none ∧ Hh Dl = some (.lst acc) ∧ RepL c P2 Hh zs acc fz) ?_ ?_ ?_ ?_
        · exact ⟨P1, [], [], rfl, ⟨.refl _, ex_new hD, g1.ph.trans (ex_new hD), fun a z => .inl z⟩, hP1, upd_same, rfl, rfl⟩
        · rintro i Hh hi ⟨P2, zs, acc, h1, g2, _, _, _⟩
          exact hG P2 Hh g2
        · rintro i x Hh H3 hi ⟨P2, zs, acc, h1, g2, hD2, hDl, rl⟩ y
          obtain ⟨P3, d, g3, hd, rd⟩ := hY i P2 Hh x H3 g2 hi y
          obtain ⟨zs', ρ1, k, t1, t2, t3, t4, t5⟩ := compL_turn ec hd
          rw [h1] at t1
          cases t1
          obtain ⟨S3, w3⟩ := (((w.grow g1).grow g2).grow g3).wipe vs hk
          have w3' : Wd c E P3 S3 (fa T fz) (L2.wipe σ vs) H3 (goneAt ρ vs) := by rw [fa_fz]; exact w3
          have hD3 : P3 Dl = none := by
            cases z : P3 Dl with
            | none => rfl
            | some o =>
              rcases g3.new Dl (by rw [z]; simp) with q' | q'
              · exact absurd hD2 q'
              · rw [hDl] at q'; cases q'
          refine ⟨P3, S3, T, fz, _, d, ρ1, w3', rd, t2, fun σ' S' w4 l4 k4 => ⟨?_, P3, S', T, ρ1, k, w4, t3, fun H4 P4 g4 => ?_⟩⟩
          · rw [wipe_eq (vs := vs) l4 fun j hj => k4 j fun z => hj (ht j z)]
            exact wipe_wipe σ vs
          · have hD4 : P4 Dl = none := by
              cases z : P4 Dl with
              | none => rfl
              | some o =>
                rcases g4.new Dl (by rw [z]; simp) with q' | q'
                · exact absurd hD3 q'
                · rw [g3.h _ _ hDl] at q'; cases q'
            cases k with
            | true =>
              obtain ⟨y', e1, e2, e3⟩ := t4 rfl
              refine iteT ⟨P4, S', T, ρ1, y', w4.grow g4, e1, fun v H5 P5 U5 g5 r5 => ?_⟩
              have hU := Rep.frz0 y' v U5 e2 r5
              subst hU
              have hD5 : P5 Dl = none := by
                cases z : P5 Dl with
                | none => rfl
                | some o =>
                  rcases g5.new Dl (by rw [z]; simp) with q' | q'
                  · exact absurd hD4 q'
                  · rw [g4.h _ _ (g3.h _ _ hDl)] at q'; cases q'
              have gg := ((g2.trans g3).trans g4).trans g5
              have hDl5 : H5 Dl = some (.lst acc) := g5.h _ _ (g4.h _ _ (g3.h _ _ hDl))
              refine ⟨acc, hDl5, ?_, P5, zs ++ [y'], acc ++ [v], e3, ⟨gg.p, fun a o z => ?_, fun a o z => ?_, gg.new⟩, hD5, upd_same, ?_⟩
              · have h2 := compL_len h1
                have h3 := rl.length
                have : zs.length ≤ ds.length := Nat.le_trans h2 (by rw [List.length_take]; omega)
                have : (zs ++ [y']).length ≤ (ds.take (i + 1)).length := compL_len e3
                rw [List.length_append, List.length_take] at this
                have e4 : acc.length < LIM := by
                  simp only [List.length_cons, List.length_nil] at this
                  omega
                exact lim_lt e4
              · by_cases z2 : a = Dl
                · subst z2; rw [hD] at z; cases z
                · rw [upd_ne z2]; exact gg.h a o z
              · by_cases z2 : a = Dl
                · subst z2; rw [hD5] at z; cases z
                · rw [upd_ne z2]; exact g5.ph a o z
              · have r6 := RepL.append (repL_h (H' := upd H5 Dl (.lst (acc ++ [v]))) (((rl.gr g3).gr g4).gr g5)) (show RepL c P5 (upd H5 Dl (.lst (acc ++ [v]))) [y'] [v] fz from ⟨v, [], fz, fz, rfl, Rep.mono (.refl _) y' v fz (fun a o z _ => by simp [fz] at z) r5, ⟨rfl, rfl⟩, (fa_fz fz).symm⟩)
                rwa [fa_fz] at r6
            | false =>
              refine iteF ⟨P4, zs, acc, t5 rfl, (g2.trans g3).trans g4, hD4, g4.h _ _ (g3.h _ _ hDl), (rl.gr g3).gr g4⟩
        · rintro Hh ⟨P2, zs, acc, h1, g2, hD2, hDl, rl⟩
          rw [List.take_length, ec] at h1
          cases h1
          refine q _ Hh P2 (one Dl) (g1.trans g2) ⟨Dl, acc, fz, rfl, hDl, rl, (fa_fz _).symm⟩ one_le fun a z => ?_
          rw [one_pos z]
          refine ⟨?_, hD2⟩
          cases z : H Dl with
          | none => rfl
          | some o => rw [g1.h _ _ z] at hD; cases hD
    · cases hm
theorem f_lcV {elt tg iter : Expr} {ifs : List Expr} {scope : Scope} (own : List (Str × Nat)) {vs : List Nat} {tl : List Nat} {f : TgM} {mc : BM} {me : RM} {ms : AM} (hvs : own.map (·.2) = vs) (hc : X.calm = true) (hN : X.N.Nodup) (hi : PI X tg iter (tIV ⟨X.K, cl, X.w⟩ E ms)) (ok : BlkOk X.N X.env.scope scope own)
    (hg : ∀ (s : Shared) (H : Hp) (C : Addr) (c : List (Str × Addr)) (fp : List Addr), PG (X.blk s H scope (compEnvC scope c C X.env) fp) tg (tPG ⟨X.K, cl, X.w⟩ E tl f)) (ht : ∀ (s : Shared) (H : Hp) (C : Addr) (c : List (Str × Addr)) (fp : List Addr), PTs (X.blk s H scope (compEnvC scope c C X.env) fp) ifs (tTs ⟨X.K, cl, X.w⟩ E mc))
    (he : ∀ (s : Shared) (H : Hp) (C : Addr) (c : List (Str × Addr)) (fp : List Addr), PE (X.blk s H scope (compEnvC scope c C X.env) fp) elt (tR ⟨X.K, cl, X.w⟩ E me)) (h1 : ∀ j ∈ tl, j ∈ vs) (h2 : ∀ j ∈ vs, E.kp[j]? ≠ some true) (hs : ∀ x, foldedSetIterable iter X.env x = pure x := by intro _; rfl) :
    PE X (.ListComp elt [⟨tg, iter, ifs, 0⟩] scope pos) (tF ⟨X.K, cl, X.w⟩ E (compM vs f mc me ms)) := by
  subst hvs
  exact PE_imp (pe_lc hc hN hi ok hg ht he hs) fun _ _ _ h => lcV_run h1 h2 h
end
end LI

namespace LI
open PySem L2

theorem FQ.dK {c : LC} {P H : Hp} {Q : VK} {ks : List Key} {ds : List D} {xs : List V} (h : FQ c P H (.dK true ks ds) Q) (e : Ex P H) (n : ks.length = xs.length) (r : RepL c P H ds xs fz) : ∀ p, H p = none → Q (.ref p) (upd H p (.dK (ks.zip xs))) := fun p hp => by
  refine h _ _ P (one p) ⟨.refl _, ex_new hp, e.trans (ex_new hp), fun _ z => .inl z⟩ ⟨p, xs, fz, rfl, upd_same, n, RepL.mono (.refl _) ds xs fz (fun a o z _ => by simp [fz] at z) r, (fa_fz _).symm⟩ one_le fun a z => ?_
  rw [one_pos z]
  exact ⟨hp, none_of e hp⟩
section
variable {X : Cx} {cl : Nat → Addr} {E : En} {pos : Pos}
def dispM (mk mv : AM) : RM := fun ρ => (mk ρ).bind fun kds => (mv ρ).bind fun vds => (keyDs kds).bind fun ks => if ks.Nodup ∧ frzL vds = true ∧ ks.length ≤ 15 ∧ ks.length = vds.length then some (.dK true ks vds) else none
theorem f_dnew : PE X (.Dict [] [] pos) (tF ⟨X.K, cl, X.w⟩ E (dispM nilM nilM)) := PE_imp pe_dnewK fun σ H Q ⟨P, S, T, ρ, d, w, hm, q⟩ => by
  cases hm
  exact fun p hp => q.dK (ks := []) (ds := []) (xs := []) w.ph rfl ⟨rfl, rfl⟩ p hp
end
end LI

namespace LI
open PySem PySem.Spec PyProof.Rows L2

def Iten (x : Str) : It :=
  ⟨fun i _ => i < x.cps.size, fun i H v H' => ∃ T c, v = .ref T ∧ H T = none ∧ H' = upd H T (.tup [.int (i : Nat), .str ⟨#[c]⟩]) ∧ x.cps[i]? = some c, fun i _ => x.cps.size ≤ i⟩
theorem turn_enumS {P : Program} {w : World} {K : PySem.W.Frag} {elts : List Expr} {kk : Nat} {tpos : Pos} (x : Str) (t : Tok) (ty : String) (hty : ty = "str_ascii_iterator" ∨ ty = "str_iterator") (e it : Addr) :
    Turn P w K (.Tuple elts kk tpos) (Iten x) [e, it] e (fun i h => (∃ old, IsEnum h e it ((i : Nat) : Int) old) ∧ h.IsStrIter it ty x t i ∧ e ≠ it ∧ i ≤ x.cps.size) where
  mem := by simp
  obj := fun i h st b hb => by
    obtain ⟨⟨old, he⟩, ⟨o, ho, hc, hd⟩, _⟩ := st
    have e' : b = e ∨ b = it := by simpa using hb
    rcases e' with z | z
    · rw [z]; exact ⟨_, he, fun v q => nomatch q⟩
    · rw [z]; exact ⟨o, ho, fun v q => by rw [hd] at q; cases q⟩
  keep := fun i h h' st k => let ⟨⟨old, he⟩, ⟨o, ho, r⟩, hne⟩ := st; ⟨⟨old, k e (by simp) _ he⟩, ⟨o, k it (by simp) o ho, r⟩, hne⟩
  item := by
    intro X hP hw hK hc i pins s σ H E I hf st hg
    subst hP hw hK
    obtain ⟨⟨old, he⟩, hit, hne, _⟩ := st
    replace hg : i < x.cps.size := hg
    have hel : e < s.heap.objs.size := Heap.lt_size he
    have hil : it < s.heap.objs.size := by obtain ⟨_, q, _⟩ := hit; exact Heap.lt_size q
    have D : Draws X.prog X.w X.A.in1 it [it] x.cps.size (fun i v => ∃ c u, x.cps[i]? = some c ∧ v = .str ⟨#[c]⟩ u) (fun i h => h.IsStrIter it ty x t i) := by
      rcases hty with q | q
      · rw [q]; exact Draws.strAscii (A := X.A.in1) (I.ok.hd hc) it x t
      · rw [q]; exact Draws.strWide (A := X.A.in1) (I.ok.hd hc) it x t
    refine wpAny_pyNext_enum_itemD D he hit hg hne (by simpa using hne) fun v h' tk hv ho hit' hT hsz hk => ?_
    obtain ⟨c, u, hcx, rfl⟩ := hv
    refine ⟨_, rfl, wpAny_letOwnedTupleGo_enum (s := { s with heap := h', toks := tk + 1 }) ho fun h'' he' sb => ?_⟩
    have hT2 : h''.get? s.heap.objs.size = some { cls := .type "tuple", data := .seq #[.int i tk, .str ⟨#[c]⟩ u] } := (sb.2 _ (Nat.ne_of_gt hel)).trans hT
    have new : ObjOk X.prog X.w (upd H s.heap.objs.size (.tup [.int (i : Nat), .str ⟨#[c]⟩])) h'' s.heap.objs.size (.tup [.int (i : Nat), .str ⟨#[c]⟩]) :=
      ⟨by show 2 ≤ sizeLine; decide, [.int i tk, .str ⟨#[c]⟩ u], .cons ⟨_, rfl⟩ (.cons ⟨_, rfl⟩ .nil), ⟨_, hT2, rfl, _, rfl⟩⟩
    have I1 : Inv X pins σ (upd H s.heap.objs.size (.tup [.int (i : Nat), .str ⟨#[c]⟩])) { s with heap := h'', toks := tk + 1 } :=
      I.turnedNew (ch := [e, it]) (fun b ob hb q => (sb.2 b (fun z => hb (by simp [z]))).trans (hk b ob (fun z => hb (by simp [z])) (fun z => hb (by simp [z])) q)) hf (Nat.le_refl _) new
    obtain ⟨oi, q1, q2⟩ := hit'
    refine ⟨.ref s.heap.objs.size, _, I1, rfl, ⟨_, c, rfl, I.hok.fresh (Nat.le_refl _), rfl, hcx⟩, ⟨⟨.str ⟨#[c]⟩ u, ?_⟩, ⟨oi, (sb.2 it (Ne.symm hne)).trans q1, q2⟩, hne, hg⟩, fun b hb => ?_⟩
    · have e1 : ((i + 1 : Nat) : Int) = (i : Int) + 1 := by omega
      rw [e1]; exact he'
    · have hb' : b < s.heap.objs.size := by
        have e' : b = e ∨ b = it := by simpa using hb
        rcases e' with z | z
        · rw [z]; exact hel
        · rw [z]; exact hil
      rw [upd_ne (Nat.ne_of_lt hb')]
      exact (hf b hb).1
  done := by
    intro X hP hw hK hc i pins s σ H E I hf st hg
    subst hP hw hK
    obtain ⟨⟨old, he⟩, hit, hne, hle⟩ := st
    replace hg : x.cps.size ≤ i := hg
    have hi : i = x.cps.size := Nat.le_antisymm hle hg
    subst hi
    have D : Draws X.prog X.w X.A.in1 it [it] x.cps.size (fun i v => ∃ c u, x.cps[i]? = some c ∧ v = .str ⟨#[c]⟩ u) (fun i h => h.IsStrIter it ty x t i) := by
      rcases hty with q | q
      · rw [q]; exact Draws.strAscii (A := X.A.in1) (I.ok.hd hc) it x t
      · rw [q]; exact Draws.strWide (A := X.A.in1) (I.ok.hd hc) it x t
    obtain ⟨f0, f1, f2, f3, f4, f5⟩ := hf it (by simp)
    exact wpAny_pyNext_enum_endD D he hit fun h' eb => ⟨rfl, I.turned (t' := s.toks) (fun b o hb q => eb b o hb q) f0 f1 f3 f4 f5⟩
  self := fun A i s Q E st h => let ⟨⟨_, he⟩, _⟩ := st; wpAny_pyIter_enum he h
def iEnumS (ta : TA) : TI := fun σ H R => ta σ H fun vs H1 => ∃ x, vs = [.str x] ∧ R (Iten x) H1
theorem pi_enumS {X : Cx} {e : Expr} {ta : TA} {p pos tpos : Pos} {elts : List Expr} {kk : Nat} (hg : Gl X "enumerate") (hm : X.mg "enumerate" = none) (ha : PA X [e] ta) (hs : starEach [e] X.env = [(false, eval e X.env)] := by rfl) :
    PI X (.Tuple elts kk tpos) (.Call (.Name "enumerate" p) [e] [] pos) (iEnumS ta) := by
  refine ⟨fun pins s σ H R I h => ?_⟩
  refine Call_ (ld_blt I hg hm boot_enumerate (PyProof.Rows.callWith_type1 (thn (ha.run pos pins s σ H _ I h) fun us s1 ⟨vs, H1, I1, r1, q1⟩ => ?_) hs rfl))
  obtain ⟨x, ex, q⟩ := q1
  subst ex
  cases r1 with
  | cons r rr =>
    cases rr
    obtain ⟨t, rfl⟩ := r
    refine call_enumerate_str fun h' he hit hsz hk => wpAny_pyIter_enum he ?_
    have I2 : Inv X pins σ H1 { s1 with heap := h' } := I1.kept (t' := s1.toks) hk
    have hty : strIterType x = "str_ascii_iterator" ∨ strIterType x = "str_iterator" := by
      unfold strIterType
      split
      · exact .inl rfl
      · exact .inr rfl
    refine ⟨s1.heap.objs.size + 1, [s1.heap.objs.size + 1, s1.heap.objs.size], _, _, H1, rfl, I2, turn_enumS x t _ hty (s1.heap.objs.size + 1) s1.heap.objs.size, ⟨⟨.none, he⟩, hit, Nat.succ_ne_self _, Nat.zero_le _⟩, fun b hb => ?_, q⟩
    have e' : b = s1.heap.objs.size + 1 ∨ b = s1.heap.objs.size := by simpa using hb
    have hle : s1.heap.objs.size ≤ b := by
      rcases e' with z | z
      · rw [z]; exact Nat.le_add_right _ _
      · rw [z]; exact Nat.le_refl _
    exact I1.fpOk hle (I1.hok.fresh hle)
theorem walk_enumS {x : Str} : Walk (Iten x) x.cps.size (fun _ => True) (fun i H v H' => ∃ T c, v = .ref T ∧ H T = none ∧ H' = upd H T (.tup [.int (i : Nat), .str ⟨#[c]⟩]) ∧ x.cps[i]? = some c) :=
  ⟨fun _ _ hi _ => hi, fun _ _ => Nat.le_refl _, fun _ _ _ _ _ _ y => y⟩
def enumSM (m : RM) : AM := fun ρ => (m ρ).bind fun d => match d with
  | .str s => some (enumFrom 0 (strsD s))
  | d => (lstD d).map (enumFrom 0)
section
variable {X : Cx} {cl : Nat → Addr} {E : En} {e a b tg : Expr} {pos : Pos} {m : RM}
theorem i_enumS {elts : List Expr} {kk : Nat} {p tpos : Pos} (hg : Gl X "enumerate") (hm : X.mg "enumerate" = none) (h : PE X e (tR ⟨X.K, cl, X.w⟩ E m)) (hs : starEach [e] X.env = (false, eval e X.env) :: starEach [] X.env := by rfl) :
    PI X (.Tuple elts kk tpos) (.Call (.Name "enumerate" p) [e] [] pos) (tI ⟨X.K, cl, X.w⟩ E (enumSM m)) := PI_imp (PI_or (pi_enumS hg hm (a_cons h a_nil hs) hs) (i_enum hg hm h hs)) fun σ H R ⟨P, S, T, ρ, ds, w, hm, q⟩ => by
  unfold enumSM at hm
  cases ea : m ρ with
  | none => rw [ea] at hm; cases hm
  | some d =>
    rw [ea, Option.bind_some] at hm
    cases d with
    | str s =>
      cases hm
      refine .inl ⟨P, S, T, ρ, [.str s], w, by simp [consM, nilM, ea], fun vs H1 P1 U1 g1 ⟨y, ys, T1, T2, e1, r1, r2, f⟩ => ?_⟩
      refine ⟨⟨s.toArray⟩, by rw [e1, r1.1, r2.1], q _ H1 P1 g1 ⟨_, _, by rw [enumFrom_len, show (strsD s).length = (⟨s.toArray⟩ : Str).cps.size by simp [strsD]]; exact walk_enumS, fun _ _ _ _ => True.intro, fun i P2 H2 x H3 e1 e2 hi y => ?_⟩⟩
      obtain ⟨T, c, h1, h2, h3, h4⟩ := y
      have hk : s[i]? = some c := by simpa using h4
      obtain ⟨P3, g3, r3⟩ := pair_gr (c := ⟨X.K, cl, X.w⟩) (d1 := .int ((0 + i : Nat) : Int)) (d2 := .str [c]) e2 h2 h3 ⟨by simp, rfl⟩ ⟨rfl, rfl⟩
      exact ⟨P3, _, g3, enumFrom_get (strsD s) 0 i (.str [c]) (by simp [strsD, hk]), h1 ▸ r3⟩
    | _ => exact .inr ⟨P, S, T, ρ, ds, w, by unfold enumM; rw [ea]; exact hm, q⟩
end
end LI

namespace LI
open PySem PySem.Spec PyProof.Rows L2

def KdVals (P : Params) : List DictEntry → List (List Nat × List Nat) → Prop
  | [], [] => True
  | e :: es, kv :: kvs => (∃ t, e.key = .str ⟨kv.1.toArray⟩ t ∧ e.hash = PyData.keyHash P ⟨kv.1.toArray⟩) ∧ (∃ t, e.val = .str ⟨kv.2.toArray⟩ t) ∧ KdVals P es kvs
  | _, _ => False
theorem KdVals.lit {P : Params} : ∀ {es : List DictEntry} {kvs : List (List Nat × List Nat)}, KdVals P es kvs → PySem.W.KeysLit P es
  | [], [], _ => trivial
  | e :: es, kv :: kvs, ⟨⟨t, h1, h2⟩, _, h3⟩ => ⟨⟨_, t, h1, h2⟩, h3.lit⟩
  | [], _ :: _, h => h.elim
  | _ :: _, [], h => h.elim
def kdGet : List (List Nat × List Nat) → List Nat → Option (List Nat)
  | [], _ => none
  | kv :: kvs, z => if kv.1 = z then some kv.2 else kdGet kvs z
theorem kd_find {P : Params} (z : List Nat) : ∀ {es : List DictEntry} {kvs : List (List Nat × List Nat)}, KdVals P es kvs → (match kdGet kvs z with
    | some v => ∃ e t, es.find? (fun e => e.key.isStr ⟨z.toArray⟩) = some e ∧ e.val = .str ⟨v.toArray⟩ t
    | none => es.find? (fun e => e.key.isStr ⟨z.toArray⟩) = none) ∧ es.any (fun e => e.refKey) = false
  | [], [], _ => ⟨rfl, rfl⟩
  | e :: es, kv :: kvs, ⟨⟨t, h1, h2⟩, ⟨t2, h4⟩, h3⟩ => by
    obtain ⟨i1, i2⟩ := kd_find z h3
    have hs : e.key.isStr ⟨z.toArray⟩ = decide (kv.1 = z) := by
      rw [h1]
      show ((⟨kv.1.toArray⟩ : Str) == ⟨z.toArray⟩) = _
      rw [str_beq, Bool.eq_iff_iff]; simp
    refine ⟨?_, ?_⟩
    · unfold kdGet
      by_cases h : kv.1 = z
      · rw [if_pos h]
        exact ⟨e, t2, by rw [List.find?_cons_of_pos (by rw [hs]; simp [h])], h4⟩
      · rw [if_neg h, List.find?_cons_of_neg (by rw [hs]; simp [h])]
        exact i1
    · rw [List.any_cons, i2, Bool.or_false]
      unfold DictEntry.refKey
      rw [h1]
  | [], _ :: _, h => h.elim
  | _ :: _, [], h => h.elim
structure GlKd (K : PySem.W.Frag) (mg : Str → Option Value) (w : World) (x : Str) (kvs : List (List Nat × List Nat)) : Prop where
  ex : ∃ d es n, mg x = some (.ref d) ∧ K.lookup d = some ⟨.type "dict", none, .dict es n, #[]⟩ ∧ (d == sysModules) = false ∧ KdVals w.params es.toList kvs
theorem GlKd.get {K : PySem.W.Frag} {mg : Str → Option Value} {w : World} {x : Str} {kvs : List (List Nat × List Nat)} (G : GlKd K mg w x kvs) : ∃ d es n, mg x = some (.ref d) ∧ KDict K w d es n ∧ ∀ z : List Nat, match kdGet kvs z with
    | some v => ∃ t, PySem.W.nsIn K d ⟨z.toArray⟩ = some (some (.str ⟨v.toArray⟩ t))
    | none => PySem.W.nsIn K d ⟨z.toArray⟩ = some none := by
  obtain ⟨d, es, n, h1, h2, h3, h4⟩ := G.ex
  refine ⟨d, es, n, h1, ⟨h2, h4.lit, h3⟩, fun z => ?_⟩
  obtain ⟨i1, i2⟩ := kd_find z h4
  unfold PySem.W.nsIn
  rw [h2]
  cases hz : kdGet kvs z with
  | some v =>
    rw [hz] at i1
    obtain ⟨e, t, e1, e2⟩ := i1
    refine ⟨t, ?_⟩
    show (match es.toList.find? (fun e => e.key.isStr ⟨z.toArray⟩) with
      | some e => some (some e.val)
      | none => if es.toList.any (fun e => e.refKey) = true then none else some none) = _
    rw [e1, ← e2]
  | none =>
    rw [hz] at i1
    show (match es.toList.find? (fun e => e.key.isStr ⟨z.toArray⟩) with
      | some e => some (some e.val)
      | none => if es.toList.any (fun e => e.refKey) = true then none else some none) = _
    rw [i1, i2]; rfl
def inK (kvs : List (List Nat × List Nat)) : D → Option D
  | .str z => some (.bl (kdGet kvs z).isSome)
  | _ => none
def ninK (kvs : List (List Nat × List Nat)) : D → Option D
  | .str z => some (.bl (!(kdGet kvs z).isSome))
  | _ => none
def ixK (kvs : List (List Nat × List Nat)) : D → Option D
  | .str z => (kdGet kvs z).map .str
  | _ => none
theorem ix_kd {X : Cx} {d : Addr} {es : Array DictEntry} {n : Nat} (D : KDict X.K X.w d es n) : IxR X (fun x y H Q => ∃ (z : Str) (u0 : Value) (v0 : V), x = .ref d ∧ y = .str z ∧ PySem.W.nsIn X.K d z = some (some u0) ∧ RelV v0 u0 ∧ Q v0 H) := by
  intro value slice pins s σ H x y v u Q I rx ry h hs
  have hx := h
  obtain ⟨z, u0, v0, ex, ey, e, r, q⟩ := hx
  have hT := kd_type D I
  subst ex
  cases rx
  exact tail_any hT PySem.F.slot_dict_getitem.lookup (op_item_kd D pins s σ H (.ref d) y (.ref d) u Q I rfl ry h) hs
section
variable {X : Cx} {cl : Nat → Addr} {E : En} {e a b : Expr} {pos p : Pos} {m : RM} {x : Str} {kvs : List (List Nat × List Nat)}
theorem m1_some {f : D → Option D} {ρ : List D} {d : D} (h : m1 f m ρ = some d) : ∃ da, m ρ = some da ∧ f da = some d := by
  unfold m1 at h
  cases ea : m ρ with
  | none => rw [ea] at h; cases h
  | some da => rw [ea] at h; exact ⟨da, rfl, h⟩
theorem f_ixK (hb : PE X b (tR ⟨X.K, cl, X.w⟩ E m)) (hg : Gl X x) (G : GlKd X.K X.mg X.w x kvs) (hs : PlainIx b := by intro _ _; rfl) (hd : (x == ("__debug__" : Str)) = false := by decide) : PE X (.Subscript (.Name x p) b pos) (tF ⟨X.K, cl, X.w⟩ E (m1 (ixK kvs) m)) := by
  obtain ⟨d, es, n, h1, D, hget⟩ := G.get
  refine PE_imp (pe_ix (ix_kd D) (pe_glob (v := .ref d) (u := .ref d) hg h1 rfl hd) hb hs) fun σ H Q ⟨P, S, T, ρ, dd, w, hm, q⟩ => ?_
  obtain ⟨da, e1, e2⟩ := m1_some hm
  cases da with
  | str z =>
    replace e2 : (kdGet kvs z).map LI.D.str = some dd := e2
    refine ⟨P, S, T, ρ, .str z, w, e1, fun v H1 P1 U1 g1 r1 => ?_⟩
    have hz := hget z
    cases hk : kdGet kvs z with
    | some u =>
      rw [hk] at hz e2
      cases e2
      obtain ⟨t, hz⟩ := hz
      exact ⟨_, _, .str ⟨u.toArray⟩, rfl, r1.1, hz, ⟨t, rfl⟩, (q.grow g1).flat g1.ph ⟨rfl, rfl⟩⟩
    | none => rw [hk] at e2; cases e2
  | _ => cases e2
theorem t_inK (ha : PE X a (tR ⟨X.K, cl, X.w⟩ E m)) (hg : Gl X x) (G : GlKd X.K X.mg X.w x kvs) (hd : (x == ("__debug__" : Str)) = false := by decide) (hm : behindInMarks .In (Expr.Name x p) = false := by rfl) : PT X (.Compare a [.In] [.Name x p] pos) (tT ⟨X.K, cl, X.w⟩ E (bM (m1 (inK kvs) m))) := by
  obtain ⟨d, es, n, h1, D, hget⟩ := G.get
  refine t_test (m := m1 (inK kvs) m) (pt_cmpR (op_in_kd D) ha (pe_glob (v := .ref d) (u := .ref d) hg h1 rfl hd) hm) fun σ H Q ⟨P, S, T, ρ, dd, w, hm, q⟩ => ?_
  obtain ⟨da, e1, e2⟩ := m1_some hm
  cases da with
  | str z =>
    cases e2
    refine ⟨P, S, T, ρ, .str z, w, e1, fun v H1 P1 U1 g1 r1 => ?_⟩
    have hz := hget z
    have fin : Q (.bl (kdGet kvs z).isSome) H1 := (q.grow g1).flat g1.ph ⟨rfl, rfl⟩
    cases hk : kdGet kvs z with
    | some u =>
      rw [hk] at hz fin
      obtain ⟨t, hz⟩ := hz
      exact ⟨_, _, r1.1, rfl, hz, fin⟩
    | none =>
      rw [hk] at hz fin
      exact ⟨_, _, r1.1, rfl, hz, fin⟩
  | _ => cases e2
end
end LI

namespace LI
open PySem L2
def binVG (f : D → D → Option D) (i : Nat) (g : GM) : GM := fun ρ => (vM i ρ).bind fun _ => (g ρ).bind fun r => (vM i r.2).bind fun x => (f x r.1).map fun d => (d, r.2)
section
variable {X : Cx} {cl : Nat → Addr} {E : En} {a b : Expr} {pos p : Pos} {g : GM} {r : R2} {f : D → D → Option D}
theorem vM_some {i : Nat} {ρ : List D} {d : D} (h : vM i ρ = some d) : ρ[i]? = some d ∧ notGone d = true := by
  unfold vM at h
  cases e : ρ[i]? with
  | none => rw [e] at h; cases h
  | some d1 =>
    rw [e, Option.bind_some] at h
    split at h
    · rename_i hn; cases h; exact ⟨rfl, hn⟩
    · cases h
theorem slot_val {c : LC} {P H : Hp} {S : FP} {ρ : List D} {σ : St} {i : Nat} {d : D} (h : RepE c P H ρ σ S) (e : ρ[i]? = some d) (n : notGone d = true) : ∃ v T, σ[i]? = some (some v) ∧ Rep c P H d v T := by
  obtain ⟨ov, T, h1, h2, _⟩ := h.get e
  cases ov with
  | none => rw [h2.1] at n; cases n
  | some v => exact ⟨v, T, h1, h2⟩
theorem g_binV (i : Nat) {x : Str} {op : Operator} (ho : OpR X (binaryOp op) r) (hf : Op2 ⟨X.K, cl, X.w⟩ r f) (hb : PE X b (tG ⟨X.K, cl, X.w⟩ E g)) (hN : X.N[i]? = some x := by rfl) (hv : Vis X.env.scope x := by first | exact Or.inl rfl | exact Or.inr (Or.inl rfl) | exact Or.inr (Or.inr rfl)) (hd : (x == ("__debug__" : Str)) = false := by decide)
    (hcd : (x == ("__classdict__" : Str)) = false := by decide) : PE X (.BinOp (.Name x p) op b pos) (tG ⟨X.K, cl, X.w⟩ E (binVG f i g)) :=
  PE_imp (pe_op ho (pe_var hN hv hd hcd) hb) fun σ H Q ⟨P, S, T, ρ, d, ρ', w, hm, q⟩ => by
    unfold binVG at hm
    cases e1 : vM i ρ with
    | none => rw [e1] at hm; cases hm
    | some d0 =>
      rw [e1, Option.bind_some] at hm
      cases e2 : g ρ with
      | none => rw [e2] at hm; cases hm
      | some rr =>
        obtain ⟨db, ρ1⟩ := rr
        rw [e2, Option.bind_some] at hm
        cases e3 : vM i ρ1 with
        | none => rw [e3] at hm; cases hm
        | some da =>
          rw [e3, Option.bind_some] at hm
          cases e4 : f da db with
          | none => rw [e4] at hm; cases hm
          | some d1 =>
            rw [e4] at hm
            cases hm
            obtain ⟨k1, k2⟩ := vM_some e1
            obtain ⟨v, T0, hs, _⟩ := slot_val w.env k1 k2
            refine ⟨v, hs, P, S, T, ρ, db, _, w, e2, fun y H1 P1 S1 U1 w1 x1 ry kT => ?_⟩
            obtain ⟨j1, j2⟩ := vM_some e3
            obtain ⟨v', T1, hs', rx⟩ := slot_val w1.env j1 j2
            rw [hs] at hs'
            cases hs'
            refine hf P1 H1 w1.ph da db d v y T1 U1 e4 rx ry Q fun z H2 P2 U2 g2 rz u1 u2 => ?_
            exact q z H2 P2 S1 U2 ((w1.drop).aside g2 u1 u2 (Rep.there d z U2 rz)) (x1.trans g2.p) rz fun a o h1 h2 => g2.h a o (kT a o h1 h2)
end
end LI

namespace LI
open PySem L2

def rng1D : D → Option (List D) := fun d => match d with | .int j => if -(2 ^ 62) ≤ j ∧ j < 2 ^ 62 then some (upD 0 j.toNat) else none | _ => none
def rng2D : D → D → Option (List D) := fun x y => match x, y with | .int i, .int j => if -(2 ^ 62) ≤ i ∧ i < 2 ^ 62 ∧ -(2 ^ 62) ≤ j ∧ j < 2 ^ 62 then some (upD i (j - i).toNat) else none | _, _ => none
section
variable {ρ : List D} {i n : Nat} {d : D} {m ma mb mc : RM} {ms : AM} {f : D → D → Option D} {g : D → Option D} {F : FM}
@[simp] theorem ev_v : vM i ρ = (ρ[i]?).bind fun d => if notGone d = true then some d else none := (rfl)
@[simp] theorem ev_k : kM d ρ = some d := (rfl)
@[simp] theorem ev_m2 : m2 f ma mb ρ = (ma ρ).bind fun x => (mb ρ).bind fun y => f x y := (rfl)
@[simp] theorem ev_m1 : m1 g ma ρ = (ma ρ).bind g := (rfl)
@[simp] theorem ev_nil : nilM ρ = some [] := (rfl)
@[simp] theorem ev_cons : consM m ms ρ = (m ρ).bind fun d => (ms ρ).map fun ds => d :: ds := (rfl)
@[simp] theorem ev_tup : tupM ms ρ = (ms ρ).bind fun ds => if frzL ds = true ∧ ds.length ≤ LIM then some (.tup ds) else none := (rfl)
@[simp] theorem ev_lst : lstM ms ρ = (ms ρ).bind fun ds => if frzL ds = true ∧ ds.length ≤ LIM then some (.lst true ds) else none := (rfl)
@[simp] theorem ev_call : callM F ms ρ = (ms ρ).bind fun ds => (F (iceL ds)).bind fun r => if frzL ds = true ∨ noIce r.1 = true then some r.1 else none := (rfl)
@[simp] theorem ev_callV : callVM F ms ρ = (ms ρ).bind fun ds => (F (iceL ds)).map (·.1) := (rfl)
@[simp] theorem ev_upF : upF m ρ = (m ρ).map fun d => (d, ρ) := (rfl)
@[simp] theorem ev_upR : upR m ρ = (m ρ).bind fun d => if frz d = true then some (d, ρ) else none := (rfl)
@[simp] theorem ev_cold : coldM m ρ = (m ρ).map ice := (rfl)
@[simp] theorem ev_fr : frM m ρ = (m ρ).bind fun d => if frz d = true then some d else none := (rfl)
@[simp] theorem ev_tru : truM m ρ = (m ρ).bind truD := (rfl)
@[simp] theorem ev_bM : bM m ρ = (m ρ).bind fun d => match d with | .bl b => some b | _ => none := (rfl)
@[simp] theorem ev_notB {b : BM} : notB b ρ = (b ρ).map not := (rfl)
@[simp] theorem ev_andB {a b : BM} : andB a b ρ = (a ρ).bind fun k => if k = true then b ρ else some false := (rfl)
@[simp] theorem ev_orB {a b : BM} : orB a b ρ = (a ρ).bind fun k => if k = true then some true else b ρ := (rfl)
@[simp] theorem ev_notD : notD m ρ = ((m ρ).bind truD).map fun k => .bl (!k) := (rfl)
@[simp] theorem ev_andM : andM ma mb ρ = (bM ma ρ).bind fun k => if k = true then mb ρ else some (.bl false) := (rfl)
@[simp] theorem ev_orM : orM ma mb ρ = (bM ma ρ).bind fun k => if k = true then some (.bl true) else mb ρ := (rfl)
@[simp] theorem ev_iteM {b : BM} : iteM b ma mb ρ = (b ρ).bind fun k => if k = true then ma ρ else mb ρ := (rfl)
@[simp] theorem ev_ch {f g : D → D → Option D} : chM f g ma mb mc ρ = (ma ρ).bind fun x => (mb ρ).bind fun y => (f x y).bind fun z => match z with | .bl true => (mc ρ).bind fun u => g y u | .bl false => some (.bl false) | _ => none := (rfl)
@[simp] theorem ev_mA {f : List D → Option D} : mA f ms ρ = (ms ρ).bind f := (rfl)
@[simp] theorem ev_isi {ty : String} : isiM ty m ρ = (m ρ).bind fun d => (tyD d).bind fun t => (kitB t ty).map .bl := (rfl)
@[simp] theorem ev_noM : noM ρ = some none := (rfl)
@[simp] theorem ev_soM : soM m ρ = (m ρ).bind fun d => match d with | .int i => some (some i) | _ => none := (rfl)
@[simp] theorem ev_slM {lo hi : OM} : slM m lo hi ρ = (m ρ).bind fun d => (lo ρ).bind fun l => (hi ρ).bind fun h => slD l h d := (rfl)
@[simp] theorem ev_it : itM m ρ = (m ρ).bind itemsD := (rfl)
@[simp] theorem ev_itV : itV m ρ = (m ρ).bind itemsV := (rfl)
@[simp] theorem ev_disp {mk mv : AM} : dispM mk mv ρ = (mk ρ).bind fun kds => (mv ρ).bind fun vds => (keyDs kds).bind fun ks => if ks.Nodup ∧ frzL vds = true ∧ ks.length ≤ 15 ∧ ks.length = vds.length then some (.dK true ks vds) else none := (rfl)
@[simp] theorem keyDs_nil : keyDs [] = some [] := (rfl)
@[simp] theorem keyDs_cons {d : D} {ds : List D} : keyDs (d :: ds) = (keyD d).bind fun k => (keyDs ds).map fun ks => k :: ks := (rfl)
@[simp] theorem keyD_int {i : Int} : keyD (.int i) = some (.inl i) := (rfl)
@[simp] theorem keyD_str {s : List Nat} : keyD (.str s) = some (.inr ⟨s.toArray⟩) := (rfl)
@[simp] theorem ev_enumS : enumSM m ρ = (m ρ).bind fun d => match d with | .str s => some (enumFrom 0 (strsD s)) | d => (lstD d).map (enumFrom 0) := (rfl)
@[simp] theorem ev_binV {g : GM} : binVG f i g ρ = (vM i ρ).bind fun _ => (g ρ).bind fun r => (vM i r.2).bind fun x => (f x r.1).map fun d => (d, r.2) := (rfl)
@[simp] theorem ev_rng1 : rng1M m ρ = (m ρ).bind rng1D := (rfl)
@[simp] theorem ev_rng2 : rng2M ma mb ρ = (ma ρ).bind fun x => (mb ρ).bind fun y => rng2D x y := (rfl)
@[simp] theorem ev_enum : enumM m ρ = (m ρ).bind fun d => (lstD d).map (enumFrom 0) := (rfl)
@[simp] theorem ev_zip : zipM ma mb ρ = (ma ρ).bind fun d1 => (mb ρ).bind fun d2 => (lstD d1).bind fun a => (lstD d2).map fun b => zipD a b := (rfl)
@[simp] theorem ev_rev : revM m ρ = (m ρ).bind fun d => (lstD d).map List.reverse := (rfl)
@[simp] theorem ev_comp {vs : List Nat} {f : TgM} {mc : BM} : compM vs f mc m ms ρ = (ms ρ).bind fun ds => if ds.length ≤ LIM then (compL f mc m (goneAt ρ vs) ds).map (.lst true) else none := (rfl)
@[simp] theorem ev_yes : yesB ρ = some true := (rfl)
@[simp] theorem ev_name : nameT i d ρ = some (ρ.set i d) := (rfl)
@[simp] theorem ev_tupT {f : List D → List D → Option (List D)} {ds : List D} : tupT f (.tup ds) ρ = f ds ρ := (rfl)
@[simp] theorem ev_consT {f : TgM} {g : List D → List D → Option (List D)} {ds : List D} : consT f g (d :: ds) ρ = (f d ρ).bind fun ρ => g ds ρ := (rfl)
@[simp] theorem ev_nilT : nilT [] ρ = some ρ := (rfl)
@[simp] theorem ev_gone0 : goneAt ρ [] = ρ := (rfl)
@[simp] theorem ev_gone1 {v : Nat} {vs : List Nat} : goneAt ρ (v :: vs) = (goneAt ρ vs).set v .gone := (rfl)
@[simp] theorem ev_vLget : (vL i).get ρ = (ρ[i]?).bind fun d => if notGone d = true then some d else none := (rfl)
@[simp] theorem ev_vLput : (vL i).put ρ d = ρ.set i d := (rfl)
@[simp] theorem ev_mv {L : Lens} : mvM L ρ = (L.get ρ).bind fun d => some (d, L.put ρ .gone) := (rfl)
@[simp] theorem ev_app {L : Lens} : appL L m ρ = (L.get ρ).bind fun d => (m ρ).bind fun y => match d with | .lst true ds => if ds.length < LIM then some (.non, L.put ρ (.lst true (ds ++ [y]))) else none | _ => none := (rfl)
@[simp] theorem ev_iceAt : iceAt i ρ = match ρ[i]? with | some d => ρ.set i (ice d) | none => ρ := (rfl)
@[simp] theorem ev_spNx {ρ' : List D} : maskL [] ρ' = [] := (rfl)
@[simp] theorem ev_mask {b : Bool} {bs : List Bool} {ds : List D} : maskL (b :: bs) (d :: ds) = (if b = true then d else .gone) :: maskL bs ds := (rfl)
@[simp] theorem ev_mask0 {b : Bool} {bs : List Bool} : maskL (b :: bs) [] = .gone :: maskL bs [] := (rfl)
end
@[simp] theorem ng_non : notGone .non = true := (rfl)
@[simp] theorem ng_gone : notGone .gone = false := (rfl)
@[simp] theorem ng_bl {b} : notGone (.bl b) = true := (rfl)
@[simp] theorem ng_int {b} : notGone (.int b) = true := (rfl)
@[simp] theorem ng_str {b} : notGone (.str b) = true := (rfl)
@[simp] theorem ng_scr {b} : notGone (.scr b) = true := (rfl)
@[simp] theorem ng_kst {b} : notGone (.kst b) = true := (rfl)
@[simp] theorem ng_tup {b} : notGone (.tup b) = true := (rfl)
@[simp] theorem ng_lst {o b} : notGone (.lst o b) = true := (rfl)
@[simp] theorem ng_dK {o k b} : notGone (.dK o k b) = true := (rfl)
@[simp] theorem ng_dT {o k b} : notGone (.dT o k b) = true := (rfl)
@[simp] theorem ng_dN {o k b} : notGone (.dN o k b) = true := (rfl)
@[simp] theorem ng_obj {o k f b} : notGone (.obj o k f b) = true := (rfl)
@[simp] theorem fl_non : isFlat .non = true := (rfl)
@[simp] theorem fl_bl {b} : isFlat (.bl b) = true := (rfl)
@[simp] theorem fl_int {b} : isFlat (.int b) = true := (rfl)
@[simp] theorem fl_str {b} : isFlat (.str b) = true := (rfl)

@[simp] theorem inK_str {kvs z} : inK kvs (.str z) = some (.bl (kdGet kvs z).isSome) := (rfl)
@[simp] theorem ninK_str {kvs z} : ninK kvs (.str z) = some (.bl (!(kdGet kvs z).isSome)) := (rfl)
@[simp] theorem ixK_str {kvs z} : ixK kvs (.str z) = (kdGet kvs z).map D.str := (rfl)
@[simp] theorem fz_gone : frz .gone = true := (rfl)
@[simp] theorem fz_non : frz .non = true := (rfl)
@[simp] theorem fz_bl {b} : frz (.bl b) = true := (rfl)
@[simp] theorem fz_int {b} : frz (.int b) = true := (rfl)
@[simp] theorem fz_str {b} : frz (.str b) = true := (rfl)
@[simp] theorem fz_scr {b} : frz (.scr b) = true := (rfl)
@[simp] theorem fz_kst {b} : frz (.kst b) = true := (rfl)
@[simp] theorem fz_tup {b} : frz (.tup b) = frzL b := (rfl)
@[simp] theorem fz_lst {o b} : frz (.lst o b) = (!o && frzL b) := (rfl)
@[simp] theorem fz_dK {o k b} : frz (.dK o k b) = (!o && frzL b) := (rfl)
@[simp] theorem fz_dT {o k b} : frz (.dT o k b) = (!o && frzL b) := (rfl)
@[simp] theorem fz_dN {o k b} : frz (.dN o k b) = (!o && frzL b) := (rfl)
@[simp] theorem fz_obj {o k f b} : frz (.obj o k f b) = (!o && frzL b) := (rfl)
@[simp] theorem fzL_nil : frzL [] = true := (rfl)
@[simp] theorem fzL_cons {d ds} : frzL (d :: ds) = (frz d && frzL ds) := (rfl)
@[simp] theorem frzL_map {α : Type} {f : α → D} {xs : List α} : frzL (xs.map f) = true ↔ ∀ x ∈ xs, frz (f x) = true := by simp [frzL_iff]
@[simp] theorem frzL_app {a b : List D} : frzL (a ++ b) = (frzL a && frzL b) := by
  rw [Bool.eq_iff_iff]; simp only [frzL_iff, List.mem_append, Bool.and_eq_true]
  exact ⟨fun h => ⟨fun d q => h d (.inl q), fun d q => h d (.inr q)⟩, fun h d q => q.elim (h.1 d) (h.2 d)⟩
@[simp] theorem ice_gone : ice .gone = .gone := (rfl)
@[simp] theorem ice_non : ice .non = .non := (rfl)
@[simp] theorem ice_bl {b} : ice (.bl b) = .bl b := (rfl)
@[simp] theorem ice_int {b} : ice (.int b) = .int b := (rfl)
@[simp] theorem ice_str {b} : ice (.str b) = .str b := (rfl)
@[simp] theorem ice_scr {b} : ice (.scr b) = .scr b := (rfl)
@[simp] theorem ice_kst {b} : ice (.kst b) = .kst b := (rfl)
@[simp] theorem ice_tup {b} : ice (.tup b) = .tup (iceL b) := (rfl)
@[simp] theorem ice_lst {o b} : ice (.lst o b) = .lst false (iceL b) := (rfl)
@[simp] theorem ice_dK {o k b} : ice (.dK o k b) = .dK false k (iceL b) := (rfl)
@[simp] theorem ice_dT {o k b} : ice (.dT o k b) = .dT false k (iceL b) := (rfl)
@[simp] theorem ice_dN {o k b} : ice (.dN o k b) = .dN false k (iceL b) := (rfl)
@[simp] theorem ice_obj {o k f b} : ice (.obj o k f b) = .obj false k f (iceL b) := (rfl)
@[simp] theorem iceL_nil : iceL [] = [] := (rfl)
@[simp] theorem iceL_cons {d ds} : iceL (d :: ds) = ice d :: iceL ds := (rfl)
theorem iceL_eq : ∀ {ds : List D}, iceL ds = ds.map ice
  | [] => rfl
  | d :: ds => by simp [iceL_eq (ds := ds)]
mutual
theorem ice_frz : ∀ d : D, frz d = true → ice d = d
  | .gone, _ | .non, _ | .bl _, _ | .int _, _ | .str _, _ | .scr _, _ | .kst _, _ | .key _, _ => rfl
  | .tup ds, h => by rw [ice_tup, iceL_frz ds h]
  | .lst true ds, h => by simp at h
  | .lst false ds, h => by rw [ice_lst, iceL_frz ds (by simpa using h)]
  | .dK true k ds, h => by simp at h
  | .dK false k ds, h => by rw [ice_dK, iceL_frz ds (by simpa using h)]
  | .dT true k ds, h => by simp at h
  | .dT false k ds, h => by rw [ice_dT, iceL_frz ds (by simpa using h)]
  | .dN true k ds, h => by simp at h
  | .dN false k ds, h => by rw [ice_dN, iceL_frz ds (by simpa using h)]
  | .obj true k f ds, h => by simp at h
  | .obj false k f ds, h => by rw [ice_obj, iceL_frz ds (by simpa using h)]
theorem iceL_frz : ∀ ds : List D, frzL ds = true → iceL ds = ds
  | [], _ => rfl
  | d :: ds, h => by
    simp at h
    rw [iceL_cons, ice_frz d h.1, iceL_frz ds h.2]
end
@[simp] theorem iceL_map {α : Type} {f : α → D} {xs : List α} : iceL (xs.map f) = xs.map fun x => ice (f x) := by rw [iceL_eq, List.map_map]; rfl
@[simp] theorem iceL_app {a b : List D} : iceL (a ++ b) = iceL a ++ iceL b := by simp [iceL_eq]
mutual
theorem toP_ice : ∀ d : D, toP (ice d) = toP d
  | .gone | .non | .bl _ | .int _ | .str _ | .scr _ | .kst _ | .key _ => rfl
  | .tup ds => by simp only [ice_tup, toP, toPL_iceL ds]
  | .lst _ ds => by simp only [ice_lst, toP, toPL_iceL ds]
  | .dK _ k ds => rfl
  | .dT _ k ds => rfl
  | .dN _ k ds => rfl
  | .obj _ k f ds => rfl
theorem toPL_iceL : ∀ ds : List D, toPL (iceL ds) = toPL ds
  | [] => rfl
  | d :: ds => by simp only [iceL_cons, toPL, toP_ice d, toPL_iceL ds]
end
def good (n : Nat) (d : D) : Bool := match toP d with
  | some p => p.canLay0 && decide (p.depth ≤ n)
  | none => false
@[simp] theorem good_non {n} : good n .non = true := by simp [good, toP, PyData.canLay0, PyData.depth]
@[simp] theorem good_bl {n b} : good n (.bl b) = true := by simp [good, toP, PyData.canLay0, PyData.depth]
@[simp] theorem good_int {n b} : good n (.int b) = true := by simp [good, toP, PyData.canLay0, PyData.depth]
@[simp] theorem eqB_int {a b : Int} : eqB (.int a) (.int b) = some (a == b) := by simp [eqB, toP, SeqAt.shaped, PyData.canLay0, PyData.depth, PyData.eqv]
@[simp] theorem eqD_int {a b : Int} : eqD (.int a) (.int b) = some (.bl (a == b)) := by simp [eqD]
@[simp] theorem neD_int {a b : Int} : neD (.int a) (.int b) = some (.bl (a != b)) := by simp [neD, bne]
@[simp] theorem good_str {n : Nat} {b : List Nat} : good n (.str b) = b.all (fun k => decide (k < 0x110000)) := by
  simp [good, toP, PyData.canLay0, PyData.depth, PyData.strOk]
@[simp] theorem add_int {a b : Int} : addD (.int a) (.int b) = some (.int (a + b)) := (rfl)
@[simp] theorem sub_int {a b : Int} : subD (.int a) (.int b) = some (.int (a - b)) := (rfl)
@[simp] theorem add_str {a b : List Nat} : addD (.str a) (.str b) = if a.length + b.length ≤ LIM then some (.str (a ++ b)) else none := (rfl)
@[simp] theorem add_lst {o p : Bool} {a b : List D} : addD (.lst o a) (.lst p b) = if (frzL a && frzL b) = true ∧ a.length + b.length ≤ LIM then some (.lst true (a ++ b)) else none := (rfl)
@[simp] theorem add_tup {a b : List D} : addD (.tup a) (.tup b) = if (frzL a && frzL b) = true ∧ a.length + b.length ≤ LIM then some (.tup (a ++ b)) else none := (rfl)
@[simp] theorem mul_int {a b : Int} : mulD (.int a) (.int b) = if (-(2 ^ 64) < a ∧ a < 2 ^ 64) ∨ (-(2 ^ 64) < b ∧ b < 2 ^ 64) then some (.int (a * b)) else none := (rfl)
@[simp] theorem mul_lst {o : Bool} {a : List D} {k : Int} : mulD (.lst o a) (.int k) = if frzL a = true ∧ k ≤ 1000000 ∧ -1000000 ≤ k ∧ a.length * k.toNat ≤ LIM then some (.lst true (List.replicate k.toNat a).flatten) else none := (rfl)
@[simp] theorem mul_str {a : List Nat} {k : Int} : mulD (.str a) (.int k) = if k ≤ 1000000 ∧ -1000000 ≤ k ∧ a.length * k.toNat ≤ LIM then some (.str (List.replicate k.toNat a).flatten) else none := (rfl)
@[simp] theorem fdiv_int {a b : Int} : fdivD (.int a) (.int b) = if 0 < b ∧ b.natAbs.log2 < 9000 then some (.int (a / b)) else none := (rfl)
@[simp] theorem mod_int {a b : Int} : modD (.int a) (.int b) = if 0 < b then some (.int (a % b)) else none := (rfl)
@[simp] theorem pow_int {a b : Int} : powD (.int a) (.int b) = if 0 ≤ b ∧ b ≤ 1000000 ∧ a.natAbs < 2 ^ 64 then some (.int (a ^ b.toNat)) else none := (rfl)
@[simp] theorem neg_int {a : Int} : negD (.int a) = some (.int (-a)) := (rfl)
@[simp] theorem lt_int {a b : Int} : ltD (.int a) (.int b) = some (.bl (decide (a < b))) := (rfl)
@[simp] theorem le_int {a b : Int} : leD (.int a) (.int b) = some (.bl (decide (a ≤ b))) := (rfl)
@[simp] theorem gt_int {a b : Int} : gtD (.int a) (.int b) = some (.bl (decide (b < a))) := (rfl)
@[simp] theorem ge_int {a b : Int} : geD (.int a) (.int b) = some (.bl (decide (b ≤ a))) := (rfl)
@[simp] theorem lt_str {a b : List Nat} : ltD (.str a) (.str b) = some (.bl (decide (a < b))) := (rfl)
@[simp] theorem le_str {a b : List Nat} : leD (.str a) (.str b) = some (.bl (!decide (b < a))) := (rfl)
@[simp] theorem ix_lst {o : Bool} {ds : List D} {i : Int} : ixD (.lst o ds) (.int i) = atI ds i := (rfl)
@[simp] theorem ix_tup {ds : List D} {i : Int} : ixD (.tup ds) (.int i) = atI ds i := (rfl)
@[simp] theorem ix_scr {ds : List Int} {i : Int} : ixD (.scr ds) (.int i) = (atI ds i).map .int := (rfl)
@[simp] theorem ix_str {s : List Nat} {i : Int} : ixD (.str s) (.int i) = if s.length ≤ LIM then (atI s i).map fun k => .str [k] else none := (rfl)
theorem atI_at {α : Type} {xs : List α} {i : Int} (h : 0 ≤ i) (hl : i.toNat < xs.length) : atI xs i = some (xs[i.toNat]) := by
  unfold atI ixN
  have h1 : ¬ i < 0 := by omega
  have h2 : i < xs.length := by omega
  simp [h1, h, h2, hl]
@[simp] theorem atI_0 {α : Type} {x : α} {xs : List α} : atI (x :: xs) 0 = some x := by rw [atI_at (by omega) (by simp)]; rfl
@[simp] theorem atI_1 {α : Type} {x y : α} {xs : List α} : atI (x :: y :: xs) 1 = some y := by rw [atI_at (by omega) (by simp)]; rfl
@[simp] theorem atI_2 {α : Type} {x y z : α} {xs : List α} : atI (x :: y :: z :: xs) 2 = some z := by rw [atI_at (by omega) (by simp)]; rfl
@[simp] theorem atI_3 {α : Type} {x y z u : α} {xs : List α} : atI (x :: y :: z :: u :: xs) 3 = some u := by rw [atI_at (by omega) (by simp)]; rfl
@[simp] theorem atI_4 {α : Type} {x y z u v : α} {xs : List α} : atI (x :: y :: z :: u :: v :: xs) 4 = some v := by rw [atI_at (by omega) (by simp)]; rfl
@[simp] theorem len_tup {ds : List D} : lenD [.tup ds] = some (.int ds.length) := (rfl)
@[simp] theorem len_lst {o : Bool} {ds : List D} : lenD [.lst o ds] = some (.int ds.length) := (rfl)
@[simp] theorem len_scr {ds : List Int} : lenD [.scr ds] = some (.int ds.length) := (rfl)
@[simp] theorem len_dK {o k ds} : lenD [.dK o k ds] = some (.int k.length) := (rfl)
@[simp] theorem len_str {s : List Nat} : lenD [.str s] = if s.length ≤ LIM then some (.int s.length) else none := (rfl)
@[simp] theorem max2_int {i j : Int} : max2D [.int i, .int j] = some (.int (if j > i then j else i)) := (rfl)
@[simp] theorem min2_int {i j : Int} : min2D [.int i, .int j] = some (.int (if j < i then j else i)) := (rfl)
@[simp] theorem intD_int {i : Int} : intD [.int i] = some (.int i) := (rfl)
@[simp] theorem intD_bl {b : Bool} : intD [.bl b] = some (.int (if b then 1 else 0)) := (rfl)
@[simp] theorem sum_lst {o : Bool} {ds : List D} : sumD [.lst o ds] = (intsD ds).map fun is => .int is.sum := (rfl)
@[simp] theorem ints_nil : intsD [] = some [] := (rfl)
@[simp] theorem ints_cons {i : Int} {ds : List D} : intsD (.int i :: ds) = (intsD ds).map fun is => i :: is := (rfl)
@[simp] theorem ints_map {α : Type} {f : α → Int} : ∀ {xs : List α}, intsD (xs.map fun x => .int (f x)) = some (xs.map f)
  | [] => rfl
  | x :: xs => by simp [ints_map (xs := xs)]
@[simp] theorem list_lst {o : Bool} {ds : List D} : listD [.lst o ds] = if frzL ds = true then some (.lst true ds) else none := (rfl)
@[simp] theorem list_tup {ds : List D} : listD [.tup ds] = if frzL ds = true then some (.lst true ds) else none := (rfl)
@[simp] theorem list_scr {ns : List Int} : listD [.scr ns] = some (.lst true (ns.map .int)) := (rfl)
@[simp] theorem tru_bl {b : Bool} : truD (.bl b) = some b := (rfl)
@[simp] theorem tru_non : truD .non = some false := (rfl)
@[simp] theorem tru_int {i : Int} : truD (.int i) = some (i != 0) := (rfl)
@[simp] theorem tru_str {s : List Nat} : truD (.str s) = if s.length ≤ LIM then some (!s.isEmpty) else none := (rfl)
@[simp] theorem tru_tup {s : List D} : truD (.tup s) = some (!s.isEmpty) := (rfl)
@[simp] theorem tru_lst {o : Bool} {s : List D} : truD (.lst o s) = some (!s.isEmpty) := (rfl)
@[simp] theorem tru_scr {s : List Int} : truD (.scr s) = some (!s.isEmpty) := (rfl)
@[simp] theorem ty_non : tyD .non = some "NoneType" := (rfl)
@[simp] theorem ty_bl {b} : tyD (.bl b) = some "bool" := (rfl)
@[simp] theorem ty_int {b} : tyD (.int b) = some "int" := (rfl)
@[simp] theorem ty_str {b} : tyD (.str b) = some "str" := (rfl)
@[simp] theorem ty_scr {b} : tyD (.scr b) = some "list" := (rfl)
@[simp] theorem ty_lst {o b} : tyD (.lst o b) = some "list" := (rfl)
@[simp] theorem ty_tup {b} : tyD (.tup b) = some "tuple" := (rfl)
@[simp] theorem ty_dK {o k b} : tyD (.dK o k b) = some "dict" := (rfl)
@[simp] theorem ty_dT {o k b} : tyD (.dT o k b) = some "dict" := (rfl)
@[simp] theorem in_1 {k : Nat} {z : List Nat} : inB (.str [k]) (.str z) = some (decide (k ∈ z)) := (rfl)
@[simp] theorem inD_eq {x y : D} : inD x y = (inB x y).map .bl := (rfl)
@[simp] theorem ninD_eq {x y : D} : ninD x y = (inB x y).map fun k => .bl (!k) := (rfl)
@[simp] theorem itemsV_lst {o : Bool} {ds : List D} : itemsV (.lst o ds) = if frzL ds = true then some ds else none := (rfl)
@[simp] theorem itemsV_tup {ds : List D} : itemsV (.tup ds) = if frzL ds = true then some ds else none := (rfl)
@[simp] theorem itemsV_scr {ds : List Int} : itemsV (.scr ds) = some (ds.map .int) := (rfl)
@[simp] theorem itemsV_str {s : List Nat} : itemsV (.str s) = some (s.map fun k => .str [k]) := (rfl)
@[simp] theorem items_lst {ds : List D} : itemsD (.lst false ds) = if frzL ds = true then some ds else none := (rfl)
@[simp] theorem items_tup {ds : List D} : itemsD (.tup ds) = if frzL ds = true then some ds else none := (rfl)
@[simp] theorem items_scr {ds : List Int} : itemsD (.scr ds) = some (ds.map .int) := (rfl)
@[simp] theorem items_str {s : List Nat} : itemsD (.str s) = some (s.map fun k => .str [k]) := (rfl)
@[simp] theorem lstD_lst {ds : List D} : lstD (.lst false ds) = if frzL ds = true then some ds else none := (rfl)
@[simp] theorem lstD_scr {ds : List Int} : lstD (.scr ds) = some (ds.map .int) := (rfl)
@[simp] theorem sl_lst {o : Bool} {lo hi : Option Int} {ds : List D} : slD lo hi (.lst o ds) = if frzL ds = true then some (.lst true (cutL ds lo hi)) else none := (rfl)
@[simp] theorem sl_tup {lo hi : Option Int} {ds : List D} : slD lo hi (.tup ds) = if frzL ds = true then some (.tup (cutL ds lo hi)) else none := (rfl)
@[simp] theorem sl_scr {lo hi : Option Int} {ds : List Int} : slD lo hi (.scr ds) = some (.lst true ((cutL ds lo hi).map .int)) := (rfl)
@[simp] theorem sl_str {lo hi : Option Int} {ds : List Nat} : slD lo hi (.str ds) = if ds.length ≤ LIM then some (.str (cutL ds lo hi)) else none := (rfl)
theorem cut_to {α : Type} {xs : List α} {k : Int} (h : 0 ≤ k) : cutL xs none (some k) = xs.take k.toNat := by
  have : HT.sIx xs.length xs.length (some k) = min k.toNat xs.length := by
    unfold HT.sIx
    split <;> rename_i e <;> cases e <;> first | omega | (simp; omega) | skip
  unfold cutL
  rw [this]
  have e0 : HT.sIx xs.length 0 none = 0 := rfl
  rw [e0, List.drop_zero, Nat.sub_zero]
  rcases Nat.le_total k.toNat xs.length with q | q
  · rw [Nat.min_eq_left q]
  · rw [Nat.min_eq_right q, List.take_length, List.take_of_length_le q]
theorem cut_from {α : Type} {xs : List α} {k : Int} (h : 0 ≤ k) : cutL xs (some k) none = xs.drop k.toNat := by
  have : HT.sIx xs.length 0 (some k) = min k.toNat xs.length := by
    unfold HT.sIx
    split <;> rename_i e <;> cases e <;> first | omega | (simp; omega) | skip
  unfold cutL
  rw [this]
  have e0 : HT.sIx xs.length xs.length none = xs.length := rfl
  rw [e0]
  rcases Nat.le_total k.toNat xs.length with q | q
  · rw [Nat.min_eq_left q]; exact List.take_of_length_le (by simp)
  · rw [Nat.min_eq_right q]; simp [List.drop_of_length_le q]
theorem cut_fromto {α : Type} {xs : List α} {k j : Int} (h : 0 ≤ k) (h2 : 0 ≤ j) : cutL xs (some k) (some j) = (xs.drop k.toNat).take (j.toNat - k.toNat) := by
  have e1 : HT.sIx xs.length 0 (some k) = min k.toNat xs.length := by
    unfold HT.sIx
    split <;> rename_i e <;> cases e <;> first | omega | (simp; omega) | skip
  have e2 : HT.sIx xs.length xs.length (some j) = min j.toNat xs.length := by
    unfold HT.sIx
    split <;> rename_i e <;> cases e <;> first | omega | (simp; omega) | skip
  unfold cutL
  rw [e1, e2]
  rcases Nat.le_total k.toNat xs.length with q | q
  · rw [Nat.min_eq_left q]
    rcases Nat.le_total j.toNat xs.length with q2 | q2
    · rw [Nat.min_eq_left q2]
    · rw [Nat.min_eq_right q2, List.take_of_length_le (by simp), List.take_of_length_le (by simp; omega)]
  · rw [Nat.min_eq_right q]; simp [List.drop_of_length_le q]

section
variable {f : TgM} {body : SM} {kl : List Nat}
end

end LI

namespace LI
open PySem L2

theorem upD_eq (lo : Int) (n : Nat) : upD lo n = (List.range n).map fun (k : Nat) => D.int (lo + (k : Int)) := rfl
theorem for_at {f : TgM} {body : SM} {kl : List Nat} {ms : AM} {ρ ds : List D} (h : ms ρ = some ds) : forM f body kl ms ρ = forL f body kl ds ρ := by
  unfold forM; rw [h]; rfl
theorem upD0 (n : Nat) : upD 0 n = (List.range n).map fun (k : Nat) => D.int (k : Int) := by
  rw [upD_eq]; simp
theorem atI_nat {α : Type} {xs : List α} {k : Nat} (h : k < xs.length) : atI xs (k : Int) = some xs[k] := atI_at (by omega) (by simpa using h)
theorem if_F {mc : BM} {a b : SM} {ρ : List D} (h : mc ρ = some false) : ifM mc a b ρ = b ρ := by unfold ifM; rw [h]; rfl
theorem if_T {mc : BM} {a b : SM} {ρ : List D} (h : mc ρ = some true) : ifM mc a b ρ = a ρ := by unfold ifM; rw [h]; rfl
@[simp] theorem kit_int_int : kitB "int" "int" = some true := by decide +kernel
@[simp] theorem kit_int_bool : kitB "int" "bool" = some false := by decide +kernel
@[simp] theorem kit_int_str : kitB "int" "str" = some false := by decide +kernel
@[simp] theorem kit_int_list : kitB "int" "list" = some false := by decide +kernel
@[simp] theorem kit_int_tuple : kitB "int" "tuple" = some false := by decide +kernel
@[simp] theorem kit_int_dict : kitB "int" "dict" = some false := by decide +kernel
@[simp] theorem kit_bool_int : kitB "bool" "int" = some true := by decide +kernel
@[simp] theorem kit_bool_bool : kitB "bool" "bool" = some true := by decide +kernel
@[simp] theorem kit_bool_str : kitB "bool" "str" = some false := by decide +kernel
@[simp] theorem kit_bool_list : kitB "bool" "list" = some false := by decide +kernel
@[simp] theorem kit_bool_tuple : kitB "bool" "tuple" = some false := by decide +kernel
@[simp] theorem kit_bool_dict : kitB "bool" "dict" = some false := by decide +kernel
@[simp] theorem kit_str_int : kitB "str" "int" = some false := by decide +kernel
@[simp] theorem kit_str_bool : kitB "str" "bool" = some false := by decide +kernel
@[simp] theorem kit_str_str : kitB "str" "str" = some true := by decide +kernel
@[simp] theorem kit_str_list : kitB "str" "list" = some false := by decide +kernel
@[simp] theorem kit_str_tuple : kitB "str" "tuple" = some false := by decide +kernel
@[simp] theorem kit_str_dict : kitB "str" "dict" = some false := by decide +kernel
@[simp] theorem kit_list_int : kitB "list" "int" = some false := by decide +kernel
@[simp] theorem kit_list_bool : kitB "list" "bool" = some false := by decide +kernel
@[simp] theorem kit_list_str : kitB "list" "str" = some false := by decide +kernel
@[simp] theorem kit_list_list : kitB "list" "list" = some true := by decide +kernel
@[simp] theorem kit_list_tuple : kitB "list" "tuple" = some false := by decide +kernel
@[simp] theorem kit_list_dict : kitB "list" "dict" = some false := by decide +kernel
@[simp] theorem kit_tuple_int : kitB "tuple" "int" = some false := by decide +kernel
@[simp] theorem kit_tuple_bool : kitB "tuple" "bool" = some false := by decide +kernel
@[simp] theorem kit_tuple_str : kitB "tuple" "str" = some false := by decide +kernel
@[simp] theorem kit_tuple_list : kitB "tuple" "list" = some false := by decide +kernel
@[simp] theorem kit_tuple_tuple : kitB "tuple" "tuple" = some true := by decide +kernel
@[simp] theorem kit_tuple_dict : kitB "tuple" "dict" = some false := by decide +kernel
@[simp] theorem kit_dict_int : kitB "dict" "int" = some false := by decide +kernel
@[simp] theorem kit_dict_bool : kitB "dict" "bool" = some false := by decide +kernel
@[simp] theorem kit_dict_str : kitB "dict" "str" = some false := by decide +kernel
@[simp] theorem kit_dict_list : kitB "dict" "list" = some false := by decide +kernel
@[simp] theorem kit_dict_tuple : kitB "dict" "tuple" = some false := by decide +kernel
@[simp] theorem kit_dict_dict : kitB "dict" "dict" = some true := by decide +kernel
@[simp] theorem kit_NoneType_int : kitB "NoneType" "int" = some false := by decide +kernel
@[simp] theorem kit_NoneType_bool : kitB "NoneType" "bool" = some false := by decide +kernel
@[simp] theorem kit_NoneType_str : kitB "NoneType" "str" = some false := by decide +kernel
@[simp] theorem kit_NoneType_list : kitB "NoneType" "list" = some false := by decide +kernel
@[simp] theorem kit_NoneType_tuple : kitB "NoneType" "tuple" = some false := by decide +kernel
@[simp] theorem kit_NoneType_dict : kitB "NoneType" "dict" = some false := by decide +kernel
@[simp] theorem lim_ge (n : Nat) : (OfNat.ofNat n : Nat) ≤ LIM ↔ n ≤ 4000000 := Iff.rfl
@[simp] theorem lim_0 : 0 ≤ LIM := by decide
@[simp] theorem lim_1 : 1 ≤ LIM := by decide
end LI

namespace LI
open PySem L2

section
variable {X : Cx} {cl : Nat → Addr} {E : En} {e e0 a b o tg : Expr} {es : List Expr} {pos pos' p apos : Pos} {m mo ma mb : RM} {g : GM} {ms : AM} {n : Nat} {f nm x : Str} {L : Lens} {σ : L2.St}
def frzM (i : Nat) (m : SM) : SM := fun ρ => m (iceAt i ρ)
theorem s_frz (i : Nat) {m : SM} {sts : List Stmt} (h : PSs X sts (tS ⟨X.K, cl, X.w⟩ E m)) : PSs X sts (tS ⟨X.K, cl, X.w⟩ E (frzM i m)) := PSs_imp h fun D σ H ⟨P, S, ρ, fl, ρ', w, hm, q⟩ => by
  obtain ⟨P', S', w', ex⟩ := w.iceAt i
  exact ⟨P', S', _, fl, ρ', w', hm, q.mono ex⟩
end
end LI

namespace LI
open PySem L2

section
variable {X : Cx} {cl : Nat → Addr} {E : En} {e e0 a b o i tg : Expr} {es : List Expr} {pos pos' p apos : Pos} {m mo ma mb mi : RM} {g : GM} {ms ms1 ms2 : AM} {n : Nat} {f nm x : Str} {L : Lens} {σ : L2.St} {CX : CXT} {k : Nat} {fad : Addr} {fd : FuncData} {ps : List Str} {F : FM} {XE : XK}
def tAL (c : LC) (E : En) (ms1 : AM) (L : Lens) (ms2 : AM) : TA := fun σ H Q => ∃ P S T ρ ds1 d ds2, Wd c E P S T σ H ρ ∧ ms1 ρ = some ds1 ∧ L.get ρ = some d ∧ ms2 ρ = some ds2 ∧
  ∀ vs1 v vs2 H' P' U1 U2 Sd R, Gr P H P' H' → RepL c P' H' ds1 vs1 U1 → Loc c L P' H' σ ρ S v d Sd R → RepL c P' H' ds2 vs2 U2 → Q (vs1 ++ v :: vs2) H'
theorem al_here (he : PE X e (tPl ⟨X.K, cl, X.w⟩ E L)) (ha : PA X es (tAR ⟨X.K, cl, X.w⟩ E ms2)) (hs : starEach (e :: es) X.env = (false, eval e X.env) :: starEach es X.env := by rfl) : PA X (e :: es) (tAL ⟨X.K, cl, X.w⟩ E nilM L ms2) :=
  PA_imp (pa_cons he ha hs) fun σ H Q ⟨P, S, T, ρ, ds1, d, ds2, w, e1, e2, e3, q⟩ => by
    cases e1
    exact ⟨P, S, T, ρ, d, w, e2, fun v Sd R l => ⟨P, S, T, ρ, ds2, w, e3, fun vs H1 P1 U1 g1 r1 => q [] v vs H1 P1 fz U1 Sd R g1 ⟨rfl, rfl⟩ (l.grow g1) r1⟩⟩
theorem al_next (he : PE X e (tR ⟨X.K, cl, X.w⟩ E m)) (ha : PA X es (tAL ⟨X.K, cl, X.w⟩ E ms1 L ms2)) (hs : starEach (e :: es) X.env = (false, eval e X.env) :: starEach es X.env := by rfl) : PA X (e :: es) (tAL ⟨X.K, cl, X.w⟩ E (consM m ms1) L ms2) :=
  PA_imp (pa_cons he ha hs) fun σ H Q ⟨P, S, T, ρ, ds1, d, ds2, w, e1, e2, e3, q⟩ => by
    rw [ev_cons] at e1
    cases z1 : m ρ with
    | none => rw [z1] at e1; cases e1
    | some d0 =>
      cases z2 : ms1 ρ with
      | none => rw [z1, z2] at e1; cases e1
      | some ds0 =>
        rw [z1, z2] at e1
        cases e1
        refine ⟨P, S, T, ρ, d0, w, z1, fun v0 H1 P1 U0 g1 r0 => ⟨P1, S, T, ρ, ds0, d, ds2, w.grow g1, z2, e2, e3, fun vs1 v vs2 H2 P2 U1 U2 Sd R g2 r1 l r2 => ?_⟩⟩
        exact q (v0 :: vs1) v vs2 H2 P2 (fa U0 U1) U2 Sd R (g1.trans g2) ⟨v0, vs1, U0, U1, rfl, r0.gr g2, r1, rfl⟩ l r2
def lendM (F : FM) (ms1 : AM) (L : Lens) (ms2 : AM) : GM := fun ρ => (ms1 ρ).bind fun ds1 => (L.get ρ).bind fun d => (ms2 ρ).bind fun ds2 => if frzL ds1 = true ∧ frzL ds2 = true then (F (ds1 ++ d :: ds2)).bind fun r => (r.2[ds1.length]?).map fun d' => (r.1, L.put ρ d') else none
theorem lend_split {ρ : List D} {r : D × List D} (h : lendM F ms1 L ms2 ρ = some r) : ∃ ds1 d ds2 d1 ds' d', ms1 ρ = some ds1 ∧ L.get ρ = some d ∧ ms2 ρ = some ds2 ∧ frzL ds1 = true ∧ frzL ds2 = true ∧ F (ds1 ++ d :: ds2) = some (d1, ds') ∧ ds'[ds1.length]? = some d' ∧ r = (d1, L.put ρ d') := by
  unfold lendM at h
  cases e1 : ms1 ρ with
  | none => rw [e1] at h; cases h
  | some ds1 =>
    cases e2 : L.get ρ with
    | none => rw [e1, e2] at h; cases h
    | some d =>
      cases e3 : ms2 ρ with
      | none => rw [e1, e2, e3] at h; cases h
      | some ds2 =>
        rw [e1, e2, e3, Option.bind_some, Option.bind_some, Option.bind_some] at h
        split at h
        · rename_i hc
          cases e4 : F (ds1 ++ d :: ds2) with
          | none => rw [e4] at h; cases h
          | some rr =>
            obtain ⟨d1, ds'⟩ := rr
            rw [e4, Option.bind_some] at h
            dsimp only at h
            cases e5 : ds'[ds1.length]? with
            | none => rw [e5] at h; cases h
            | some d' => rw [e5] at h; cases h; exact ⟨ds1, d, ds2, d1, ds', d', rfl, rfl, rfl, hc.1, hc.2, e4, e5, rfl⟩
        · cases h
theorem g_lend (G : FnOk X.prog X.w X.K X.mg X.base CX k fad fd ps (spD ⟨X.K, cl, X.w⟩ F)) (hr : Room k X.A) (hg : Gl X x) (hm : X.mg x = some (.ref fad)) (hk : PySem.W.keepIn X.K (.ref fad) = true) (hb : Binds X.K fd ps []) (hx : Passes CX X XE)
    (ha : PA X (e :: es) (tAL ⟨X.K, cl, X.w⟩ E ms1 L ms2)) (hdb : (x == ("__debug__" : Str)) = false := by decide) (he : starEach (e :: es) X.env = (false, eval e X.env) :: starEach es X.env := by rfl) (hpl : (backTo pos (starEach es X.env)).any (·.1) = false := by rfl) :
    PE X (.Call (.Name x p) (e :: es) [] pos) (tG ⟨X.K, cl, X.w⟩ E (lendM F ms1 L ms2)) := PE_imp (pe_call G hr hg hm hk hb .nil hx ha hdb he hpl) fun σ H Q ⟨P, S, T, ρ, d1, ρ', w, hm, q⟩ => by
  obtain ⟨ds1, d, ds2, d2, ds', d', e1, e2, e3, z1, z2, e4, e5, e6⟩ := lend_split hm
  cases e6
  refine ⟨P, S, T, ρ, ds1, d, ds2, w, e1, e2, e3, fun vs1 v vs2 H1 P1 U1 U2 Sd R g1 r1 l r2 => ?_⟩
  have y1 := RepL.frz0 ds1 vs1 U1 z1 r1
  have y2 := RepL.frz0 ds2 vs2 U2 z2 r2
  subst y1; subst y2
  have w1 := w.grow g1
  show spD ⟨X.K, cl, X.w⟩ F ((vs1 ++ v :: vs2) ++ []) H1 Q XE
  rw [List.append_nil]
  have rall : RepL ⟨X.K, cl, X.w⟩ P1 H1 (ds1 ++ d :: ds2) (vs1 ++ v :: vs2) (fa fz (fa Sd fz)) := RepL.append r1 ⟨v, vs2, Sd, fz, rfl, l.rep, r2, rfl⟩
  rw [fa_fz, fz_fa] at rall
  refine ⟨P1, Sd, _, _, ds', rall, g1.ph, fun b => by have := w.le b; have := l.sum b; omega, fun b hb => w1.out b (by have := l.sum b; omega), e4, fun v2 H2 P2 U S' st rd rl => ?_⟩
  obtain ⟨v', Sd', R', h1, h2, h3, _⟩ := rl.focus e5
  have hv : v' = v := by
    rw [r1.length, List.getElem?_append_right (Nat.le_refl _), Nat.sub_self] at h1
    simpa using h1.symm
  subst hv
  have henv := l.put P2 H2 d' Sd' st.p0 (fun b u hb hu => st.fr b u (by have := w.le b; have := l.sum b; omega) hu) h2
  have w2 := w1.through l.sum st henv (U := U) (fun b => by have := h3 b; simp only [fa]; omega) (Rep.there d1 v2 U rd)
  exact q v2 H2 P2 _ U w2 (g1.p.trans st.p0) rd fun b u hb hu => st.fr b u (by have := w.le b; have := l.sum b; omega) (g1.h b u hu)
end
end LI

namespace LI
open PySem L2

section
variable {X : Cx} {cl : Nat → Addr} {E : En} {e a b o i : Expr} {pos p apos cpos : Pos} {g ga gb : GM} {m ma mb mc mk mv : RM} {r : R2} {f : D → D → Option D}
def bin2G (f : D → D → Option D) (ga gb : GM) : GM := fun ρ => (ga ρ).bind fun r => (gb r.2).bind fun s => (f r.1 s.1).map fun d => (d, s.2)
theorem bin2_run (hf : Op2 ⟨X.K, cl, X.w⟩ r f) {σ : L2.St} {H : Hp} {Q : VK} (h : tG ⟨X.K, cl, X.w⟩ E (bin2G f ga gb) σ H Q) : tOp r (tG ⟨X.K, cl, X.w⟩ E ga) (tG ⟨X.K, cl, X.w⟩ E gb) σ H Q := by
  obtain ⟨P, S, T, ρ, d, ρ', w, hm, q⟩ := h
  unfold bin2G at hm
  cases ea : ga ρ with
  | none => rw [ea] at hm; cases hm
  | some ra =>
    obtain ⟨da, ρ1⟩ := ra
    rw [ea, Option.bind_some] at hm
    cases eb : gb ρ1 with
    | none => rw [eb] at hm; cases hm
    | some rb =>
      obtain ⟨db, ρ2⟩ := rb
      rw [eb, Option.bind_some] at hm
      cases ed : f da db with
      | none => rw [ed] at hm; cases hm
      | some d1 =>
        rw [ed] at hm
        cases hm
        refine ⟨P, S, T, ρ, da, ρ1, w, ea, fun x H1 P1 S1 U1 w1 x1 r1 k1 => ⟨P1, S1, fa T U1, ρ1, db, ρ2, w1, eb, fun y H2 P2 S2 U2 w2 x2 r2 k2 => ?_⟩⟩
        refine hf P2 H2 w2.ph da db d x y U1 U2 ed (Rep.mono x2 da x U1 (fun b u z1 z2 => k2 b u (by simp only [fa]; omega) z2) r1) r2 Q fun z H3 P3 U3 g3 r3 u1 u2 => ?_
        have w3 := ((w2.drop).drop).aside g3 u1 u2 (Rep.there d z U3 r3)
        exact q z H3 P3 S2 U3 w3 ((x1.trans x2).trans g3.p) r3 fun b u z1 z2 => g3.h b u (k2 b u (by simp only [fa]; omega) (k1 b u z1 z2))
theorem g_bin2 {op : Operator} (ho : OpR X (binaryOp op) r) (hf : Op2 ⟨X.K, cl, X.w⟩ r f) (ha : PE X a (tG ⟨X.K, cl, X.w⟩ E ga)) (hb : PE X b (tG ⟨X.K, cl, X.w⟩ E gb)) : PE X (.BinOp a op b pos) (tG ⟨X.K, cl, X.w⟩ E (bin2G f ga gb)) :=
  PE_imp (pe_op ho ha hb) fun _ _ _ h => bin2_run hf h
def truG (g : GM) : BGM := fun ρ => (g ρ).bind fun r => (truD r.1).map fun k => (k, r.2)
theorem tg_val (ha : PE X a (tG ⟨X.K, cl, X.w⟩ E g)) (he : ∀ whole, isTrue a X.env whole = (do let v ← whole; standAt a.pos; holding [v] (truthy v)) := by intro _; rfl) : PT X a (tTG ⟨X.K, cl, X.w⟩ E (truG g)) :=
  PT_imp (pt_truth ha he) fun σ H Q ⟨P, S, T, ρ, k, ρ', w, hm, q⟩ => by
    unfold truG at hm
    cases ea : g ρ with
    | none => rw [ea] at hm; cases hm
    | some r =>
      obtain ⟨d, ρ1⟩ := r
      rw [ea, Option.bind_some] at hm
      cases ed : truD d with
      | none => rw [ed] at hm; cases hm
      | some j =>
        rw [ed] at hm
        cases hm
        exact ⟨P, S, T, ρ, d, _, w, ea, fun v H' P' S' U w' x r kT => ⟨_, truD_v w'.ph ed r, q H' P' S' w'.drop x kT⟩⟩
def notG (m : BGM) : BGM := fun ρ => (m ρ).map fun r => (!r.1, r.2)
def orG (ma mb : BGM) : BGM := fun ρ => (ma ρ).bind fun r => if r.1 = true then some (true, r.2) else mb r.2
theorem tg_not {m : BGM} (h : PT X a (tTG ⟨X.K, cl, X.w⟩ E m)) : PT X (.UnaryOp .Not a pos) (tTG ⟨X.K, cl, X.w⟩ E (notG m)) := PT_imp (pt_not h) fun σ H Q ⟨P, S, T, ρ, b, ρ', w, hm, q⟩ => by
  unfold notG at hm
  cases ea : m ρ with
  | none => rw [ea] at hm; cases hm
  | some r =>
    obtain ⟨k, ρ1⟩ := r
    rw [ea] at hm
    cases hm
    exact ⟨P, S, T, ρ, k, _, w, ea, fun H' P' S' w' x kT => q H' P' S' w' x kT⟩
theorem wg_or1 {m : BGM} (h : PT X a (tTG ⟨X.K, cl, X.w⟩ E m)) : PW X (.BoolOp .Or [a] pos) (tTG ⟨X.K, cl, X.w⟩ E m) := pw_or1 h
theorem wg_or {ma mb : BGM} {rest : List Expr} (h : PT X a (tTG ⟨X.K, cl, X.w⟩ E ma)) (k : PW X (.BoolOp .Or (b :: rest) pos) (tTG ⟨X.K, cl, X.w⟩ E mb)) : PW X (.BoolOp .Or (a :: b :: rest) pos) (tTG ⟨X.K, cl, X.w⟩ E (orG ma mb)) :=
  PW_imp (pw_or h k) fun σ H Q ⟨P, S, T, ρ, j, ρ', w, hm, q⟩ => by
    unfold orG at hm
    cases ea : ma ρ with
    | none => rw [ea] at hm; cases hm
    | some r =>
      obtain ⟨ka, ρ1⟩ := r
      rw [ea, Option.bind_some] at hm
      refine ⟨P, S, T, ρ, ka, ρ1, w, ea, fun H' P' S' w' x kT => ?_⟩
      cases ka with
      | true =>
        cases hm
        exact iteT (q H' P' S' w' x kT)
      | false =>
        replace hm : mb ρ1 = some (j, ρ') := hm
        exact iteF ⟨P', S', T, ρ1, j, ρ', w', hm, fun H2 P2 S2 w2 x2 kT2 => q H2 P2 S2 w2 (x.trans x2) fun b u z1 z2 => kT2 b u z1 (kT b u z1 z2)⟩
theorem tg_w {m : BGM} (h : PW X a (tTG ⟨X.K, cl, X.w⟩ E m)) : PT X a (tTG ⟨X.K, cl, X.w⟩ E m) := h.pt
end
end LI

namespace LI
open PySem L2

section
variable {c : LC} {P H : Hp}
end
section
variable {X : Cx} {cl : Nat → Addr} {E : En} {e a b o i f0 : Expr} {pos p apos cpos pos' : Pos} {m ma mb mc mk mv mi : RM} {g : GM} {L : Lens}
end
end LI

namespace LI
open PySem L2

theorem Wd.iceL {c : LC} {P H : Hp} {S T : FP} {σ : L2.St} {ρ : List D} {L : Lens} {v : V} {d : D} {Sd R : FP} (w : Wd c E P S T σ H ρ) (l : Loc c L P H σ ρ S v d Sd R) : ∃ P' S', Wd c E P' S' T σ H (L.put ρ (ice d)) ∧ Ex P P' := by
  have h1 := l.sum
  have hP : ∀ a, 0 < Sd a → P a = none := fun a z => w.out a (by have := h1 a; omega)
  have ex : Ex P (fun a => if 0 < Sd a then H a else P a) := fun a o z => by
    by_cases hu : 0 < Sd a
    · rw [hP a hu] at z; cases z
    · simp [hu, z]
  have hr : Rep c (fun a => if 0 < Sd a then H a else P a) H (ice d) v fz := Rep.ice ex d v Sd (fun a o z1 z2 => by simp [z1, z2]) l.rep
  have henv := l.put _ H _ fz ex (fun _ _ _ h => h) hr
  rw [fz_fa] at henv
  refine ⟨fun a => if 0 < Sd a then H a else P a, R, ⟨henv, fun a => ?_, fun a z => ?_, w.th, fun a o z => ?_, w.p0.trans ex, w.fr, fun a z => ?_, fun a z => w.ns a (by have := h1 a; omega), w.kp⟩, ex⟩
  · have := w.le a; have := h1 a; omega
  · have l2 := w.le a; have s := h1 a
    have hu : ¬ 0 < Sd a := by omega
    simp only [hu, if_false]
    exact w.out a (by omega)
  · by_cases hu : 0 < Sd a
    · simpa [hu] using z
    · exact w.ph a o (by simpa [hu] using z)
  · by_cases hu : 0 < Sd a
    · exact .inr (w.ns a (by have := h1 a; omega))
    · exact w.np a (by simpa [hu] using z)
def coldG (g : GM) : GM := fun ρ => (g ρ).map fun r => (ice r.1, r.2)
theorem g_cold {X : Cx} {cl : Nat → Addr} {E : En} {e : Expr} {g : GM} (h : PE X e (tG ⟨X.K, cl, X.w⟩ E g)) : PE X e (tG ⟨X.K, cl, X.w⟩ E (coldG g)) := PE_imp h fun σ H Q ⟨P, S, T, ρ, d, ρ', w, hm, q⟩ => by
  unfold coldG at hm
  cases e1 : g ρ with
  | none => rw [e1] at hm; cases hm
  | some r =>
    obtain ⟨d1, ρ1⟩ := r
    rw [e1] at hm
    cases hm
    refine ⟨P, S, T, ρ, d1, ρ1, w, e1, fun v H' P' S' U w' x r kT => ?_⟩
    have hP : ∀ a, 0 < U a → P' a = none := fun a z => w'.out a (by simp only [fa]; omega)
    have ex : Ex P' (fun a => if 0 < U a then H' a else P' a) := fun a o z => by
      by_cases hu : 0 < U a
      · rw [hP a hu] at z; cases z
      · simp [hu, z]
    have hr : Rep ⟨X.K, cl, X.w⟩ (fun a => if 0 < U a then H' a else P' a) H' (ice d1) v fz := Rep.ice ex d1 v U (fun a o z1 z2 => by simp [z1, z2]) r
    refine q v H' _ S' fz ?_ (x.trans ex) hr kT
    rw [fa_fz]
    refine ⟨RepE.mono ex _ _ _ (fun _ _ _ h => h) w'.env, fun a => ?_, fun a z => ?_, fun a z => w'.th a (by simp only [fa]; omega), fun a o z => ?_, w'.p0.trans ex, fun a o z1 z2 => w'.fr a o z1 z2, fun a z => ?_, fun a z => w'.ns a (by first | exact z | (simp only [fa]; omega)), w'.kp⟩
    · have := w'.le a; simp only [fa] at *; omega
    · have l := w'.le a
      have hu : ¬ 0 < U a := by simp only [fa] at l; omega
      simp only [hu, if_false]
      exact w'.out a (by simp only [fa]; omega)
    · by_cases hu : 0 < U a
      · simpa [hu] using z
      · exact w'.ph a o (by simpa [hu] using z)
    · by_cases hu : 0 < U a
      · exact .inr (w'.ns a (by simp only [fa]; omega))
      · exact w'.np a (by simpa [hu] using z)
abbrev AGM := List D → Option (List D × List D)
section
variable {X : Cx} {cl : Nat → Addr} {E : En} {e : Expr} {es : List Expr} {pos p : Pos} {g : GM} {ms : AGM} {CX : CXT} {k : Nat} {f : Addr} {fd : FuncData} {ps : List Str} {F : FM} {XE : XK} {x : Str}
end
end LI

namespace LI
open PySem L2

section
variable {X : Cx} {cl : Nat → Addr} {E : En} {e a b : Expr} {pos : Pos} {m ma mb mi : RM} {L : Lens}
end
end LI
namespace LI
open PySem L2
section
variable {X : Cx} {cl : Nat → Addr} {E : En} {e : Expr} {es : List Expr} {pos p : Pos} {g : GM} {ms : AGM}
end
end LI

namespace LI
open PySem L2

section
variable {X : Cx} {cl : Nat → Addr} {E : En} {e a b o i : Expr} {es : List Expr} {pos p apos : Pos} {m ma mb : RM} {ms : AM} {L : Lens}
theorem FQ.key {c : LC} {P H : Hp} {Q : VK} {ks : List Key} (h : FQ c P H (.key ks) Q) (e : Ex P H) : ∀ p, H p = none → Q (.ref p) (upd H p (.tup (ks.map kV))) := fun p hp => by
  have hP := none_of e hp
  refine h _ _ (upd P p (.tup (ks.map kV))) fz ⟨ex_new hP, ex_new hp, fun a o z => ?_, fun a z => ?_⟩ ⟨p, rfl, upd_same, rfl⟩ (fun _ => Nat.zero_le _) (fun a z => by simp [fz] at z)
  · by_cases q : a = p
    · subst q; rw [upd_same] at z ⊢; exact z
    · rw [upd_ne q] at z ⊢; exact e a o z
  · by_cases q : a = p
    · subst q; exact .inr hp
    · rw [upd_ne q] at z; exact .inl z
end
end LI

namespace LI
open PySem L2

abbrev Ts := List Char
def eU : Unit → D := fun _ => .non
def eI : Int → D := .int
def eB : Bool → D := .bl
def eS (s : Ts) : D := .str (s.map Char.toNat)
def eC : List Int → D := .scr
def eO {α : Type} (e : α → D) : Option α → D
  | none => .non
  | some x => e x
def eL {α : Type} (o : Bool) (e : α → D) (xs : List α) : D := .lst o (xs.map e)
def e1 {α : Type} (a : α → D) (t : α) : D := .tup [a t]
def e2 {α β : Type} (a : α → D) (b : β → D) (t : α × β) : D := .tup [a t.1, b t.2]
def e3 {α β γ : Type} (a : α → D) (b : β → D) (c : γ → D) (t : α × β × γ) : D := .tup [a t.1, b t.2.1, c t.2.2]
def e4 {α β γ δ : Type} (a : α → D) (b : β → D) (c : γ → D) (d : δ → D) (t : α × β × γ × δ) : D := .tup [a t.1, b t.2.1, c t.2.2.1, d t.2.2.2]
def e5 {α β γ δ ε : Type} (a : α → D) (b : β → D) (c : γ → D) (d : δ → D) (e : ε → D) (t : α × β × γ × δ × ε) : D := .tup [a t.1, b t.2.1, c t.2.2.1, d t.2.2.2.1, e t.2.2.2.2]
structure An where
  d : D
  ng : notGone d = true
  fz : frz d = true
def eA (a : An) : D := a.d

class Ng {α : Type} (e : α → D) : Prop where
  ng : ∀ x, notGone (e x) = true
class Fz {α : Type} (e : α → D) : Prop where
  fz : ∀ x, frz (e x) = true
class Ic {α : Type} (e : α → D) (e' : outParam (α → D)) : Prop where
  ic : ∀ x, ice (e x) = e' x
class Nic {α : Type} (e : α → D) : Prop where
  ni : ∀ x, noIce (e x) = true
section
variable {α β γ δ ε ζ : Type} {a : α → D} {b : β → D} {c : γ → D} {d : δ → D} {e : ε → D} {f : ζ → D} {a' : α → D} {b' : β → D} {c' : γ → D} {d' : δ → D} {e' : ε → D} {f' : ζ → D} {o : Bool}
instance : Ng eU := ⟨fun _ => rfl⟩
instance : Ng eI := ⟨fun _ => rfl⟩
instance : Ng eB := ⟨fun _ => rfl⟩
instance : Ng eS := ⟨fun _ => rfl⟩
instance : Ng eC := ⟨fun _ => rfl⟩
instance [Ng a] : Ng (eO a) := ⟨fun x => by cases x with | none => rfl | some x => exact Ng.ng x⟩
instance : Ng (eL o a) := ⟨fun _ => rfl⟩
instance : Ng (e1 a) := ⟨fun _ => rfl⟩
instance : Ng (e3 a b c) := ⟨fun _ => rfl⟩
instance : Ng eA := ⟨fun x => x.ng⟩
instance : Nic eS := ⟨fun _ => rfl⟩
instance : Fz eU := ⟨fun _ => rfl⟩
instance : Fz eI := ⟨fun _ => rfl⟩
instance : Fz eB := ⟨fun _ => rfl⟩
instance : Fz eS := ⟨fun _ => rfl⟩
instance : Fz eC := ⟨fun _ => rfl⟩
instance : Fz eA := ⟨fun x => x.fz⟩
instance [Fz a] : Fz (eL false a) := ⟨fun x => by simp [eL, Fz.fz]⟩
instance [Fz a] : Fz (e1 a) := ⟨fun x => by simp [e1, Fz.fz]⟩
instance [Fz a] [Fz b] [Fz c] : Fz (e3 a b c) := ⟨fun x => by simp [e3, Fz.fz]⟩
instance : Ic eI eI := ⟨fun _ => rfl⟩
instance : Ic eS eS := ⟨fun _ => rfl⟩
instance : Ic eC eC := ⟨fun _ => rfl⟩
instance : Ic eA eA := ⟨fun x => ice_frz _ x.fz⟩
instance [Ic a a'] : Ic (eL o a) (eL false a') := ⟨fun x => by simp [eL, Ic.ic (e := a)]⟩
instance [Ic a a'] [Ic b b'] [Ic c c'] : Ic (e3 a b c) (e3 a' b' c') := ⟨fun x => by simp [e3, Ic.ic (e := a), Ic.ic (e := b), Ic.ic (e := c)]⟩
end

theorem icFst {α β : Type} {a a' : α → D} [Ic a a'] : Ic (fun p : α × β => a p.1) (fun p => a' p.1) := ⟨fun p => Ic.ic (e := a) p.1⟩

theorem toNat_lt (c : Char) : c.toNat < 1114112 := by
  rcases c.valid with h | ⟨_, h⟩
  · have : c.toNat < 55296 := h
    omega
  · exact h
theorem toNat_inj {a b : Char} (h : a.toNat = b.toNat) : a = b := Char.toNat_inj.mp h
class Pe {α : Type} (e : α → D) (n : outParam Nat) where
  p : α → PyData
  to : ∀ x, toP (e x) = some (p x)
  lay : ∀ x, (p x).canLay0 = true
  dep : ∀ x, (p x).depth ≤ n
  eq : ∀ x y, (p x).eqv (p y) = true ↔ x = y
instance : Pe eI 0 := ⟨.int, fun _ => rfl, fun _ => by simp [PyData.canLay0], fun _ => by simp [PyData.depth], fun _ _ => by simp [PyData.eqv]⟩
theorem ts_map_inj {x y : Ts} : x.map Char.toNat = y.map Char.toNat ↔ x = y :=
  ⟨fun h => List.map_inj_right (fun _ _ => toNat_inj) |>.mp h, fun h => by rw [h]⟩
instance : Pe eS 0 := ⟨fun s => .str ⟨(s.map Char.toNat).toArray⟩, fun _ => rfl, fun s => by
    simp [PyData.canLay0, PyData.strOk, toNat_lt], fun _ => by simp [PyData.depth], fun x y => by
    have : ((⟨(x.map Char.toNat).toArray⟩ : Str) == ⟨(y.map Char.toNat).toArray⟩) = (x.map Char.toNat == y.map Char.toNat) := str_beq _ _
    simp only [PyData.eqv, this, beq_iff_eq, ts_map_inj]⟩
theorem pe_toL {α : Type} {e : α → D} {n : Nat} [Pe e n] : ∀ xs : List α, toPL (xs.map e) = some (xs.map (Pe.p e))
  | [] => rfl
  | x :: xs => by simp [toPL, Pe.to (e := e) x, pe_toL xs]
theorem pe_lays {α : Type} {e : α → D} {n : Nat} [Pe e n] : ∀ xs : List α, PyData.canLayAll0 (xs.map (Pe.p e)) = true
  | [] => rfl
  | x :: xs => by simp [PyData.canLayAll0, Pe.lay (e := e) x, pe_lays xs]
theorem pe_deps {α : Type} {e : α → D} {n : Nat} [Pe e n] : ∀ xs : List α, PyData.depthAll (xs.map (Pe.p e)) ≤ n
  | [] => Nat.zero_le _
  | x :: xs => by have := Pe.dep (e := e) x; have := pe_deps (e := e) xs; simp [PyData.depthAll]; omega
theorem pe_eqs {α : Type} {e : α → D} {n : Nat} [Pe e n] : ∀ xs ys : List α, PyData.eqvAll (xs.map (Pe.p e)) (ys.map (Pe.p e)) = true ↔ xs = ys
  | [], [] => by simp [PyData.eqvAll]
  | [], y :: ys => by simp [PyData.eqvAll]
  | x :: xs, [] => by simp [PyData.eqvAll]
  | x :: xs, y :: ys => by simp [PyData.eqvAll, Pe.eq (e := e), pe_eqs xs ys]
instance {α : Type} {e : α → D} {n : Nat} {o : Bool} [Pe e n] : Pe (eL o e) (n + 1) := ⟨fun xs => .list (xs.map (Pe.p e)), fun xs => by simp [eL, toP, pe_toL], fun xs => by simp [PyData.canLay0, pe_lays], fun xs => by
  have := pe_deps (e := e) xs; simp [PyData.depth]; omega, fun x y => by simp [PyData.eqv, pe_eqs]⟩
section
variable {α β γ δ ε ζ : Type} {a : α → D} {b : β → D} {c : γ → D} {d : δ → D} {e : ε → D} {f : ζ → D} {na nb nc nd ne nf : Nat}
instance [Pe a na] [Pe b nb] [Pe c nc] : Pe (e3 a b c) (max na (max nb nc) + 1) := ⟨fun t => .tuple [Pe.p a t.1, Pe.p b t.2.1, Pe.p c t.2.2], fun t => by simp [e3, toP, toPL, Pe.to (e := a), Pe.to (e := b), Pe.to (e := c)], fun t => by simp [PyData.canLay0, PyData.canLayAll0, Pe.lay (e := a), Pe.lay (e := b), Pe.lay (e := c)], fun t => by
  have h1 := Pe.dep (e := a) t.1; have h2 := Pe.dep (e := b) t.2.1; have h3 := Pe.dep (e := c) t.2.2; simp [PyData.depth, PyData.depthAll]; omega, fun x y => by simp [PyData.eqv, PyData.eqvAll, Pe.eq (e := a), Pe.eq (e := b), Pe.eq (e := c), Prod.ext_iff]⟩
end
theorem eqB_ice (x y : D) : eqB x y = eqB (ice x) (ice y) := by unfold eqB; rw [toP_ice, toP_ice]
theorem eqB_pe {α : Type} [DecidableEq α] {e1 e2 e' : α → D} {n : Nat} [Ic e1 e'] [Ic e2 e'] [Pe e' n] (hn : n ≤ 64) (x y : α) : eqB (e1 x) (e2 y) = some (decide (x = y)) := by
  rw [eqB_ice, Ic.ic (e := e1), Ic.ic (e := e2)]
  unfold eqB
  have s : ∀ z, SeqAt.shaped (Pe.p e' z) = true := fun z => by
    have := Pe.dep (e := e') z
    simp [SeqAt.shaped, Pe.lay (e := e') z]; omega
  have q : (Pe.p e' x).eqv (Pe.p e' y) = decide (x = y) := by
    rw [Bool.eq_iff_iff, Pe.eq, decide_eq_true_iff]
  simp only [Pe.to (e := e'), Option.bind_some, s, and_self, if_true, q]
end LI

namespace LI
open PySem L2

def Ev {α : Type} (e : α → D) (m : RM) (ρ : List D) (o : Option α) : Prop := ∀ x, o = some x → m ρ = some (e x)
def Et (m : BM) (ρ : List D) (o : Option Bool) : Prop := ∀ x, o = some x → m ρ = some x
def Eg {α : Type} (e : α → D) (env : α → List D) (g : GM) (ρ : List D) (o : Option α) : Prop := ∀ x, o = some x → g ρ = some (e x, env x)
structure Ea {τ : Type} (e e' : τ → List D) (z : Bool) (ms : AM) (ρ : List D) (o : Option τ) : Prop where
  run : ∀ x, o = some x → ms ρ = some (e x)
  ic : ∀ x, iceL (e x) = e' x
  fz : z = true → ∀ x, frzL (e x) = true
def Ei {α : Type} (e : α → D) (ms : AM) (ρ : List D) (o : Option (List α)) : Prop := ∀ xs, o = some xs → ms ρ = some (xs.map e)
def Eo (m : OM) (ρ : List D) (o : Option (Option Int)) : Prop := ∀ x, o = some x → m ρ = some x

theorem ob_some {α β : Type} {o : Option α} {k : α → Option β} {z : β} (h : o.bind k = some z) : ∃ x, o = some x ∧ k x = some z := by
  cases o with
  | none => cases h
  | some x => exact ⟨x, rfl, h⟩

section
variable {α β γ δ : Type} {a : α → D} {b : β → D} {c : γ → D} {e : α → D} {e' : α → D} {m ma mb mc : RM} {ρ : List D} {o oa : Option α} {ob : Option β} {oc : Option γ}
theorem x_v {i : Nat} (e : α → D) (x : α) [Ng e] (h : ρ[i]? = some (e x)) : Ev e (vM i) ρ (some x) := fun y hy => by
  cases hy; rw [LI.ev_v, h]; simp [Ng.ng]
theorem x_k {d : D} (e : α → D) (x : α) (h : d = e x) : Ev e (kM d) ρ (some x) := fun y hy => by cases hy; rw [LI.ev_k, h]
theorem x_map {e : α → D} {f : β → D} (k : α → β) (hk : ∀ x, f (k x) = e x) (h : Ev e m ρ o) : Ev f m ρ (o.bind fun x => some (k x)) := fun y hy => by
  obtain ⟨x, h1, h2⟩ := ob_some hy; cases h2; rw [h x h1, hk]
theorem x_un {o : Option (Option α)} (h : Ev (eO e) m ρ o) : Ev e m ρ (o.bind fun x => x) := fun y hy => by
  obtain ⟨x, h1, h2⟩ := ob_some hy; rw [h x h1, h2]; rfl
def an {α : Type} (e : α → D) [Ng e] [Fz e] (x : α) : An := ⟨e x, Ng.ng x, Fz.fz x⟩
theorem x_fr [Fz e] (h : Ev e m ρ o) : Ev e (frM m) ρ o := fun y hy => by rw [LI.ev_fr, h y hy]; simp [Fz.fz]
theorem x_cold [Ic e e'] (h : Ev e m ρ o) : Ev e' (coldM m) ρ o := fun y hy => by rw [LI.ev_cold, h y hy, Option.map_some, Ic.ic]

def O2 (f : D → D → Option D) (a : α → D) (b : β → D) (c : γ → D) (g : α → β → Option γ) : Prop := ∀ x y z, g x y = some z → f (a x) (b y) = some (c z)
def O1 (f : D → Option D) (a : α → D) (c : γ → D) (g : α → Option γ) : Prop := ∀ x z, g x = some z → f (a x) = some (c z)
theorem x_m2 {f : D → D → Option D} {g : α → β → Option γ} (hf : O2 f a b c g) (ha : Ev a ma ρ oa) (hb : Ev b mb ρ ob) : Ev c (m2 f ma mb) ρ (oa.bind fun x => ob.bind fun y => g x y) := fun z hz => by
  obtain ⟨x, h1, h2⟩ := ob_some hz
  obtain ⟨y, h3, h4⟩ := ob_some h2
  rw [LI.ev_m2, ha x h1, Option.bind_some, hb y h3, Option.bind_some, hf x y z h4]
theorem x_m1 {f : D → Option D} {g : α → Option γ} (hf : O1 f a c g) (ha : Ev a ma ρ oa) : Ev c (m1 f ma) ρ (oa.bind g) := fun z hz => by
  obtain ⟨x, h1, h2⟩ := ob_some hz
  rw [LI.ev_m1, ha x h1, Option.bind_some, hf x z h2]
theorem x_a1 {f : List D → Option D} {g : α → Option γ} (hf : O1 (fun d => f [d]) a c g) (ha : Ev a ma ρ oa) : Ev c (mA f (consM ma nilM)) ρ (oa.bind g) := fun z hz => by
  obtain ⟨x, h1, h2⟩ := ob_some hz
  have := hf x z h2
  simp only [ev_mA, LI.ev_cons, ha x h1, Option.bind_some, LI.ev_nil, Option.map_some]
  exact this
theorem o2_tot {f : D → D → Option D} {g : α → β → γ} (h : ∀ x y, f (a x) (b y) = some (c (g x y))) : O2 f a b c (fun x y => some (g x y)) := fun x y z hz => by cases hz; exact h x y
theorem o1_tot {f : D → Option D} {g : α → γ} (h : ∀ x, f (a x) = some (c (g x))) : O1 f a c (fun x => some (g x)) := fun x z hz => by cases hz; exact h x
end

def catS (x y : Ts) : Option Ts := if x.length + y.length ≤ LIM then some (x ++ y) else none
def catL {α : Type} (x y : List α) : Option (List α) := if x.length + y.length ≤ LIM then some (x ++ y) else none
def mulT (x y : Int) : Option Int := if (-(2 ^ 64) < x ∧ x < 2 ^ 64) ∨ (-(2 ^ 64) < y ∧ y < 2 ^ 64) then some (x * y) else none
def modT (x y : Int) : Option Int := if 0 < y then some (x % y) else none
theorem o2_addI : O2 addD eI eI eI (fun x y => some (x + y)) := o2_tot fun _ _ => rfl
theorem o2_catS : O2 addD eS eS eS catS := fun x y z h => by
  unfold catS at h; split at h
  · cases h; simp [eS, addD, *]
  · cases h
theorem o2_catL {α : Type} {a : α → D} [Fz a] {o p : Bool} : O2 addD (eL o a) (eL p a) (eL true a) catL := fun x y z h => by
  unfold catL at h; split at h
  · cases h; simp [eL, addD, *, Fz.fz]
  · cases h
theorem o2_mul : O2 mulD eI eI eI mulT := fun x y z h => by
  unfold mulT at h; split at h
  · cases h; rename_i q; exact if_pos q
  · cases h
theorem o2_mod : O2 modD eI eI eI modT := fun x y z h => by
  unfold modT at h; split at h
  · cases h; rename_i q; exact if_pos q
  · cases h
section
variable {α β : Type} {e : α → D} {m ma mb : RM} {ρ : List D} {oa ob : Option Int}
def b64 (k : Int) : Bool := decide (-18446744073709551616 < k) && decide (k < 18446744073709551616)
theorem b64_in {k : Int} (h : b64 k = true) : -(2 ^ 64) < k ∧ k < 2 ^ 64 := by
  unfold b64 at h; simp at h; exact ⟨by omega, by omega⟩
theorem x_mulR (k : Int) (hk : b64 k = true) (ha : Ev eI ma ρ oa) : Ev eI (m2 mulD ma (kM (.int k))) ρ (oa.bind fun x => some (x * k)) := fun z hz => by
  obtain ⟨x, h1, h2⟩ := ob_some hz; cases h2
  rw [LI.ev_m2, ha x h1]; exact if_pos (.inr (b64_in hk))
theorem log_lt {k : Int} (h : b64 k = true) : k.natAbs.log2 < 9000 := by
  have := b64_in h
  by_cases z : k.natAbs = 0
  · rw [z]; decide
  · have h1 : k.natAbs < 2 ^ 9000 := Nat.lt_of_lt_of_le (show k.natAbs < 2 ^ 65 by omega) (Nat.pow_le_pow_right (by decide) (by decide))
    exact (Nat.log2_lt z).mpr h1
theorem x_modP (k : Int) {mk : RM} (hk : decide (0 < k) = true) (ha : Ev eI ma ρ oa) (hm : Ev eI mk ρ (some k)) : Ev eI (m2 modD ma mk) ρ (oa.bind fun x => some (x % k)) := fun z hz => by
  obtain ⟨x, h1, h2⟩ := ob_some hz; cases h2
  rw [LI.ev_m2, ha x h1, hm k rfl]; exact if_pos (of_decide_eq_true hk)
theorem x_fdivP (k : Int) {mk : RM} (hk : (decide (0 < k) && b64 k) = true) (ha : Ev eI ma ρ oa) (hm : Ev eI mk ρ (some k)) : Ev eI (m2 fdivD ma mk) ρ (oa.bind fun x => some (x / k)) := fun z hz => by
  obtain ⟨x, h1, h2⟩ := ob_some hz; cases h2
  simp only [Bool.and_eq_true] at hk
  rw [LI.ev_m2, ha x h1, hm k rfl]; exact if_pos ⟨of_decide_eq_true hk.1, log_lt hk.2⟩
theorem x_pow (x y c : Int) (h : (decide (0 ≤ y) && decide (y ≤ 1000000) && b64 x && (x ^ y.toNat == c)) = true) : Ev eI (m2 powD (kM (.int x)) (kM (.int y))) ρ (some c) := fun z hz => by
  cases hz
  simp only [Bool.and_eq_true, beq_iff_eq] at h
  obtain ⟨⟨⟨h1, h2⟩, h3⟩, h4⟩ := h
  have := b64_in h3
  rw [LI.ev_m2, LI.ev_k, LI.ev_k, Option.bind_some, Option.bind_some, pow_int, if_pos ⟨of_decide_eq_true h1, of_decide_eq_true h2, by omega⟩, h4]; rfl
end

def ltS (x y : Ts) : Bool := decide (x.map Char.toNat < y.map Char.toNat)
theorem o2_ltI : O2 ltD eI eI eB (fun x y => some (decide (x < y))) := o2_tot fun _ _ => rfl
theorem o2_gtI : O2 gtD eI eI eB (fun x y => some (decide (y < x))) := o2_tot fun _ _ => rfl
theorem o2_leS : O2 leD eS eS eB (fun x y => some (!ltS y x)) := o2_tot fun _ _ => rfl
theorem o2_eq {α : Type} [DecidableEq α] {a b e' : α → D} {n : Nat} [Ic a e'] [Ic b e'] [Pe e' n] (hn : n ≤ 64) : O2 eqD a b eB (fun x y => some (decide (x = y))) := o2_tot fun x y => by
  unfold eqD; rw [eqB_pe (e' := e') hn]; rfl
theorem o2_ne {α : Type} [DecidableEq α] {a b e' : α → D} {n : Nat} [Ic a e'] [Ic b e'] [Pe e' n] (hn : n ≤ 64) : O2 neD a b eB (fun x y => some (!decide (x = y))) := o2_tot fun x y => by
  unfold neD; rw [eqB_pe (e' := e') hn]; rfl
def eqA (x y : An) : Option Bool := eqB x.d y.d
theorem o2_eqA : O2 eqD eA eA eB eqA := fun x y z h => by unfold eqA at h; simp [eqD, eA, h]; rfl
class No {α : Type} (e : α → D) : Prop where
  no : ∀ x, isNo (e x) = some false
section
variable {α β γ δ ε ζ : Type} {a : α → D} {b : β → D} {c : γ → D} {d : δ → D} {e : ε → D} {f : ζ → D} {o : Bool}
instance : No (e3 a b c) := ⟨fun _ => rfl⟩
theorem o2_nisN [No a] : O2 nisD (eO a) eU eB (fun x _ => some x.isSome) := o2_tot fun x y => by
  cases x with
  | none => rfl
  | some x => simp [eO, eU, nisD, No.no]; rfl
theorem o2_nisU : O2 nisD eU eU eB (fun _ _ => some false) := o2_tot fun _ _ => rfl
end

section
variable {α : Type} {e : α → D} {m ma mb mc : RM} {ρ : List D} {o : Option α} {x y : Bool} {ta tb : BM} {oa ob : Option Bool}
theorem et_b {o : Option Bool} (h : Ev eB m ρ o) : Et (bM m) ρ o := fun z hz => by rw [ev_bM, h z hz]; rfl
theorem et_not (h : Et ta ρ oa) : Et (notB ta) ρ (oa.bind fun b => some (!b)) := fun z hz => by
  obtain ⟨x, h1, h2⟩ := ob_some hz; cases h2; rw [ev_notB, h x h1]; rfl
theorem et_and (h : Et ta ρ oa) (k : Et tb ρ ob) : Et (andB ta tb) ρ (oa.bind fun b => if b = true then ob else some false) := fun z hz => by
  obtain ⟨x, h1, h2⟩ := ob_some hz
  rw [ev_andB, h x h1, Option.bind_some]
  cases x with
  | true => rw [if_pos rfl] at h2 ⊢; exact k z h2
  | false => simpa using h2
theorem et_or (h : Et ta ρ oa) (k : Et tb ρ ob) : Et (orB ta tb) ρ (oa.bind fun b => if b = true then some true else ob) := fun z hz => by
  obtain ⟨x, h1, h2⟩ := ob_some hz
  rw [ev_orB, h x h1, Option.bind_some]
  cases x with
  | true => simpa using h2
  | false => simp at h2 ⊢; exact k z h2
theorem et_orT (h : Et ta ρ (some x)) (k : Et tb ρ (some y)) : Et (orB ta tb) ρ (some (x || y)) := fun z hz => by
  cases hz; rw [ev_orB, h x rfl, Option.bind_some]; cases x <;> simp [k y rfl]
theorem x_and (h : Ev eB ma ρ oa) (k : Ev eB mb ρ ob) : Ev eB (andM ma mb) ρ (oa.bind fun b => if b = true then ob else some false) := fun z hz => by
  obtain ⟨x, h1, h2⟩ := ob_some hz
  rw [ev_andM, et_b h x h1, Option.bind_some]
  cases x with
  | true => rw [if_pos rfl] at h2 ⊢; exact k z h2
  | false => simp at h2; subst h2; rfl
theorem x_andT (h : Ev eB ma ρ (some x)) (k : Ev eB mb ρ (some y)) : Ev eB (andM ma mb) ρ (some (x && y)) := fun z hz => by
  cases hz; rw [ev_andM, et_b h x rfl, Option.bind_some]; cases x <;> simp [k y rfl] <;> rfl
class Tr {α : Type} (e : α → D) (t : outParam (α → Option Bool)) : Prop where
  tr : ∀ x z, t x = some z → truD (e x) = some z
instance : Tr eB (fun x => some x) := ⟨fun x z h => by cases h; rfl⟩
theorem et_tru {t : α → Option Bool} [Tr e t] (h : Ev e m ρ o) : Et (truM m) ρ (o.bind t) := fun z hz => by
  obtain ⟨x, h1, h2⟩ := ob_some hz; rw [ev_tru, h x h1]; exact Tr.tr x z h2
theorem x_not {t : α → Option Bool} [Tr e t] (h : Ev e m ρ o) : Ev eB (notD m) ρ ((o.bind t).bind fun b => some (!b)) := fun z hz => by
  obtain ⟨y, h1, h2⟩ := ob_some hz; cases h2
  have := et_tru (t := t) h y h1
  rw [ev_tru] at this
  rw [ev_notD, this]; rfl
end
section
variable {α β γ : Type} {a : α → D} {b : β → D} {c : γ → D} {f g : D → D → Option D} {ma mb mc : RM} {ρ : List D} {oa : Option α} {ob : Option β} {oc : Option γ}
theorem x_ch {p : α → β → Option Bool} {q : β → γ → Option Bool} (hf : O2 f a b eB p) (hg : O2 g b c eB q) (ha : Ev a ma ρ oa) (hb : Ev b mb ρ ob) (hc : Ev c mc ρ oc) :
    Ev eB (chM f g ma mb mc) ρ (oa.bind fun x => ob.bind fun y => (p x y).bind fun k => if k = true then oc.bind fun z => q y z else some false) := fun z hz => by
  obtain ⟨x, h1, h2⟩ := ob_some hz
  obtain ⟨y, h3, h4⟩ := ob_some h2
  obtain ⟨k, h5, h6⟩ := ob_some h4
  rw [LI.ev_ch, ha x h1, Option.bind_some, hb y h3, Option.bind_some, hf x y k h5, Option.bind_some]
  cases k with
  | false => simp at h6; subst h6; rfl
  | true =>
    rw [if_pos rfl] at h6
    obtain ⟨u, h7, h8⟩ := ob_some h6
    show (mc ρ).bind _ = _
    rw [hc u h7, Option.bind_some, hg y u z h8]
theorem x_chT {p : α → β → Bool} {q : β → γ → Bool} {x : α} {y : β} {z : γ} (hf : O2 f a b eB (fun x y => some (p x y))) (hg : O2 g b c eB (fun x y => some (q x y))) (ha : Ev a ma ρ (some x)) (hb : Ev b mb ρ (some y)) (hc : Ev c mc ρ (some z)) :
    Ev eB (chM f g ma mb mc) ρ (some (p x y && q y z)) := fun u hu => by
  cases hu
  have := x_ch hf hg ha hb hc (p x y && q y z) (by cases h : p x y <;> simp [h])
  exact this
end

def ixS (s : Ts) (i : Int) : Option Ts := if s.length ≤ LIM then (atI s i).map fun c => [c] else none
theorem o2_ixL {α : Type} {a : α → D} {o : Bool} : O2 ixD (eL o a) eI a (fun xs i => atI xs i) := fun x y z h => by
  show atI (x.map a) y = _
  rw [atI_map]; simp [h]
theorem o2_ixC : O2 ixD eC eI eI (fun xs i => atI xs i) := fun x y z h => by show (atI x y).map D.int = _; simp [h]; rfl
theorem o2_ixS : O2 ixD eS eI eS ixS := fun x y z h => by
  unfold ixS at h; split at h
  · rename_i q
    cases w : atI x y with
    | none => rw [w] at h; cases h
    | some c =>
      rw [w] at h; cases h
      show (if (x.map Char.toNat).length ≤ LIM then (atI (x.map Char.toNat) y).map fun k => D.str [k] else none) = _
      rw [if_pos (by simpa using q), atI_map, w]; rfl
  · cases h
theorem x_pr {α β : Type} {e : α → D} {f : β → D} {m : RM} {ρ : List D} {o : Option α} (k : Int) (p : α → β) (hp : ∀ x, ixD (e x) (.int k) = some (f (p x))) (h : Ev e m ρ o) : Ev f (m2 ixD m (kM (.int k))) ρ (o.bind fun x => some (p x)) := fun z hz => by
  obtain ⟨x, h1, h2⟩ := ob_some hz; cases h2
  rw [LI.ev_m2, h x h1, Option.bind_some, LI.ev_k, Option.bind_some, hp]
theorem eo_no {ρ : List D} : Eo noM ρ (some none) := fun x h => by cases h; rfl
theorem eo_so {m : RM} {ρ : List D} {o : Option Int} (h : Ev eI m ρ o) : Eo (soM m) ρ (o.bind fun x => some (some x)) := fun z hz => by
  obtain ⟨x, h1, h2⟩ := ob_some hz; cases h2
  rw [ev_soM, h x h1]; rfl
def slS (lo hi : Option Int) (s : Ts) : Option Ts := if s.length ≤ LIM then some (cutL s lo hi) else none
class Sl {α : Type} {β : outParam Type} (e : α → D) (f : outParam (β → D)) (g : outParam (Option Int → Option Int → α → Option β)) : Prop where
  sl : ∀ lo hi x z, g lo hi x = some z → slD lo hi (e x) = some (f z)
instance : Sl eC (eL true eI) (fun lo hi xs => some (cutL xs lo hi)) := ⟨fun lo hi x z h => by cases h; rfl⟩
instance : Sl eS eS slS := ⟨fun lo hi x z h => by
  unfold slS at h; split at h
  · cases h; simp [eS, slD, *, cutL_map]
  · cases h⟩
theorem x_sl {α β : Type} {e : α → D} {f : β → D} {g : Option Int → Option Int → α → Option β} [Sl e f g] {m : RM} {lo hi : OM} {ρ : List D} {o : Option α} {ol oh : Option (Option Int)} (h : Ev e m ρ o) (hl : Eo lo ρ ol) (hh : Eo hi ρ oh) :
    Ev f (slM m lo hi) ρ (o.bind fun x => ol.bind fun l => oh.bind fun h => g l h x) := fun z hz => by
  obtain ⟨x, h1, h2⟩ := ob_some hz
  obtain ⟨y, h3, h4⟩ := ob_some h2
  obtain ⟨u, h5, h6⟩ := ob_some h4
  rw [ev_slM, h x h1, Option.bind_some, hl y h3, Option.bind_some, hh u h5, Option.bind_some, Sl.sl y u x z h6]
def eV {α : Type} (e : α → D) (xs : List α) : D := .tup (xs.map e)
def inS (x z : Ts) : Option Bool := match x with | [c] => some (decide (c ∈ z)) | _ => none
theorem mem_toNat {c : Char} {z : Ts} : c.toNat ∈ z.map Char.toNat ↔ c ∈ z := by
  rw [List.mem_map]
  exact ⟨fun ⟨x, h1, h2⟩ => toNat_inj h2 ▸ h1, fun h => ⟨c, h, rfl⟩⟩
theorem inB_S {x z : Ts} {k : Bool} (h : inS x z = some k) : inB (eS x) (eS z) = some k := by
  unfold inS at h
  split at h
  · cases h
    show some (decide (Char.toNat _ ∈ z.map Char.toNat)) = _
    congr 1
    exact decide_eq_decide.mpr mem_toNat
  · cases h
def memT {α : Type} [DecidableEq α] (x : α) (xs : List α) : Bool := decide (x ∈ xs)
class In {α β : Type} (a : α → D) (b : β → D) (g : outParam (α → β → Option Bool)) : Prop where
  is : ∀ x y k, g x y = some k → inB (a x) (b y) = some k
instance : In eS eS inS := ⟨fun _ _ _ h => inB_S h⟩
class Ef {α : Type} (e : α → D) : Prop where
  fl : ∀ x, flatD (e x) = true
  eq : ∀ x y, eqF (e x) (e y) = true ↔ x = y
instance : Ef eS := ⟨fun _ => rfl, fun x y => by simp [eS, eqF]; exact ts_map_inj⟩
theorem in_flat {α : Type} [DecidableEq α] {e : α → D} [Ef e] (x : α) (xs : List α) : ((xs.map e).any fun y => eqF y (e x)) = decide (x ∈ xs) := by
  rw [Bool.eq_iff_iff]
  simp only [List.any_eq_true, List.mem_map, decide_eq_true_iff]
  exact ⟨fun ⟨_, ⟨y, h1, h2⟩, h3⟩ => by rw [← h2, Ef.eq] at h3; rw [← h3]; exact h1, fun h => ⟨_, ⟨x, h, rfl⟩, (Ef.eq x x).mpr rfl⟩⟩
instance {α : Type} [DecidableEq α] {e : α → D} [Ef e] : In e (eV e) (fun x xs => some (memT x xs)) := ⟨fun x y k h => by
  cases h; unfold memT
  have q : inB (e x) (eV e y) = if flatD (e x) = true ∧ (y.map e).all flatD = true then some ((y.map e).any fun z => eqF z (e x)) else none := by
    unfold eV
    cases h : e x <;> try rfl
    rename_i s
    rcases s with _ | ⟨c, _ | ⟨c2, t⟩⟩ <;> rfl
  rw [q, if_pos ⟨Ef.fl x, by simp [Ef.fl]⟩, in_flat]⟩
theorem o2_in {α β : Type} {a : α → D} {b : β → D} {g : α → β → Option Bool} [In a b g] : O2 inD a b eB g := fun x y z h => by
  unfold inD; rw [In.is x y z h]; rfl
theorem o2_nin {α β : Type} {a : α → D} {b : β → D} {g : α → β → Option Bool} [In a b g] : O2 ninD a b eB (fun x y => (g x y).bind fun k => some (!k)) := fun x y z h => by
  obtain ⟨k, h1, h2⟩ := ob_some h; cases h2
  unfold ninD; rw [In.is x y k h1]; rfl
def lenS (s : Ts) : Option Int := if s.length ≤ LIM then some (s.length : Int) else none
theorem o1_lenL {α : Type} {a : α → D} {o : Bool} : O1 (fun d => lenD [d]) (eL o a) eI (fun xs => some (xs.length : Int)) := o1_tot fun x => by simp [eL, lenD]; rfl
theorem o1_lenC : O1 (fun d => lenD [d]) eC eI (fun xs => some (xs.length : Int)) := o1_tot fun x => rfl
theorem o1_lenS : O1 (fun d => lenD [d]) eS eI lenS := fun x z h => by
  unfold lenS at h; split at h
  · cases h; simp [eS, lenD, *]; rfl
  · cases h
theorem o1_lenK {α : Type} {a : α → D} {n : Int} (h : ∀ x, lenD [a x] = some (.int n)) : O1 (fun d => lenD [d]) a eI (fun _ => some n) := o1_tot fun x => h x
def joinT (sep : Ts) : List Ts → Ts
  | [] => []
  | [s] => s
  | s :: ss => s ++ sep ++ joinT sep ss
def joinS (sep : Ts) (ss : List Ts) : Option Ts := if (ss.map List.length).sum + ss.length * sep.length ≤ LIM then some (joinT sep ss) else none
theorem strsOf_ts : ∀ ss : List Ts, strsOf (ss.map eS) = some (ss.map fun s => s.map Char.toNat)
  | [] => rfl
  | s :: ss => by show (strsOf (ss.map eS)).map _ = _; rw [strsOf_ts ss]; rfl
theorem joinT_map (sep : Ts) : ∀ ss : List Ts, TL.joinL (sep.map Char.toNat) (ss.map fun s => s.map Char.toNat) = (joinT sep ss).map Char.toNat
  | [] => rfl
  | [s] => rfl
  | s :: t :: ss => by
    have := joinT_map sep (t :: ss)
    simp only [List.map_cons] at this ⊢
    simp [TL.joinL, joinT, this]
theorem o2_join {o : Bool} : O2 joinD2 eS (eL o eS) eS joinS := fun x y z h => by
  unfold joinS at h; split at h
  · rename_i q
    cases h
    show (strsOf (y.map eS)).bind _ = _
    rw [strsOf_ts, Option.bind_some, if_pos, joinT_map]
    · rfl
    · have : (y.map fun s => s.map Char.toNat).map List.length = y.map List.length := by rw [List.map_map]; apply List.map_congr_left; intro s _; simp
      rw [this, List.length_map, List.length_map]; exact q
  · cases h
theorem x_isi {α : Type} {e : α → D} {ty : String} {m : RM} {ρ : List D} {o : Option α} (k : α → Bool) (hk : ∀ x, ((tyD (e x)).bind fun t => kitB t ty) = some (k x)) (h : Ev e m ρ o) : Ev eB (isiM ty m) ρ (o.bind fun x => some (k x)) := fun z hz => by
  obtain ⟨x, h1, h2⟩ := ob_some hz; cases h2
  have := hk x
  rw [LI.ev_isi, h x h1, Option.bind_some]
  cases w : tyD (e x) with
  | none => rw [w] at this; cases this
  | some t => rw [w, Option.bind_some] at this; rw [Option.bind_some, this]; rfl
def isiA (ty : String) (x : An) : Option Bool := (tyD x.d).bind fun t => kitB t ty
theorem x_isiA {ty : String} {m : RM} {ρ : List D} {o : Option An} (h : Ev eA m ρ o) : Ev eB (isiM ty m) ρ (o.bind fun x => isiA ty x) := fun z hz => by
  obtain ⟨x, h1, h2⟩ := ob_some hz
  unfold isiA at h2
  rw [LI.ev_isi, h x h1, Option.bind_some]
  show ((tyD x.d).bind fun t => (kitB t ty).map D.bl) = _
  cases w : tyD x.d with
  | none => rw [w] at h2; cases h2
  | some t => rw [w, Option.bind_some] at h2; rw [Option.bind_some, h2]; rfl

section
variable {α τ β : Type} {e e' : α → D} {et et' : τ → List D} {z : Bool} {m : RM} {ms : AM} {ρ : List D} {o : Option α} {os : Option τ}
theorem ea_nil : Ea (τ := Unit) (fun _ => []) (fun _ => []) true nilM ρ (some ()) := ⟨fun x h => by cases h; rfl, fun _ => rfl, fun _ _ => rfl⟩
theorem ea_cons [Ic e e'] [Fz e] (h : Ev e m ρ o) (hs : Ea et et' z ms ρ os) : Ea (fun t : α × τ => e t.1 :: et t.2) (fun t => e' t.1 :: et' t.2) z (consM m ms) ρ (o.bind fun x => os.bind fun xs => some (x, xs)) :=
  ⟨fun x hx => by
    obtain ⟨y, h1, h2⟩ := ob_some hx
    obtain ⟨ys, h3, h4⟩ := ob_some h2
    cases h4
    rw [LI.ev_cons, h y h1, Option.bind_some, hs.run ys h3]; rfl, fun x => by rw [iceL_cons, Ic.ic (e := e), hs.ic], fun hz x => by rw [fzL_cons, Fz.fz, hs.fz hz]; rfl⟩
theorem x_tup {f : β → D} (k : τ → β) (hs : Ea et et' true ms ρ os) (hk : ∀ t, f (k t) = .tup (et t)) (hl : ∀ t, (et t).length ≤ LIM) : Ev f (tupM ms) ρ (os.bind fun t => some (k t)) := fun x hx => by
  obtain ⟨t, h1, h2⟩ := ob_some hx; cases h2
  rw [LI.ev_tup, hs.run t h1, Option.bind_some, if_pos ⟨hs.fz rfl t, hl t⟩, hk]
theorem x_lst {f : β → D} (k : τ → β) (hs : Ea et et' true ms ρ os) (hk : ∀ t, f (k t) = .lst true (et t)) (hl : ∀ t, (et t).length ≤ LIM) : Ev f (lstM ms) ρ (os.bind fun t => some (k t)) := fun x hx => by
  obtain ⟨t, h1, h2⟩ := ob_some hx; cases h2
  rw [LI.ev_lst, hs.run t h1, Option.bind_some, if_pos ⟨hs.fz rfl t, hl t⟩, hk]
def Tf {σ : Type} (et' : τ → List D) (er : σ → D) (F : FM) (t : τ → Option σ) : Prop := ∀ x r, t x = some r → ∃ ds', F (et' x) = some (er r, ds')
theorem x_call {σ : Type} {er : σ → D} {F : FM} {t : τ → Option σ} (hT : Tf et' er F t) (hs : Ea et et' true ms ρ os) : Ev er (callM F ms) ρ (os.bind t) := fun r hr => by
  obtain ⟨x, h1, h2⟩ := ob_some hr
  obtain ⟨ds', h3⟩ := hT x r h2
  rw [LI.ev_call, hs.run x h1, Option.bind_some, hs.ic, h3, Option.bind_some, if_pos (.inl (hs.fz rfl x))]
end

def rngT (n : Int) : Option (List Int) := if -(2 ^ 62) ≤ n ∧ n < 2 ^ 62 then some ((List.range n.toNat).map fun (k : Nat) => (k : Int)) else none
def enumT {α : Type} (n : Nat) : List α → List (Int × α)
  | [] => []
  | x :: xs => ((n : Int), x) :: enumT (n + 1) xs
theorem enum_map {α : Type} (e : α → D) : ∀ (n : Nat) (xs : List α), enumFrom n (xs.map e) = (enumT n xs).map (e2 eI e)
  | _, [] => rfl
  | n, x :: xs => by rw [List.map_cons, enumFrom, enum_map e (n + 1) xs]; rfl
class It1 {α : Type} {β : outParam Type} (e : α → D) (f : outParam (β → D)) (g : outParam (α → List β)) : Prop where
  it : ∀ x, itemsV (e x) = some ((g x).map f)
  fr : ∀ x, frz (e x) = true → itemsD (e x) = some ((g x).map f)
def chars (s : Ts) : List Ts := s.map fun c => [c]
instance {α : Type} {a : α → D} [Fz a] {o : Bool} : It1 (eL o a) a (fun x => x) := ⟨fun x => by simp [eL, itemsV, Fz.fz], fun x h => by
  cases o with
  | true => simp [eL] at h
  | false => simp [eL, itemsD, Fz.fz]⟩
theorem chars_map (s : Ts) : strsD (s.map Char.toNat) = (chars s).map eS := by
  unfold strsD chars; rw [List.map_map, List.map_map]; rfl
instance : It1 eS eS chars := ⟨fun x => by show some (strsD _) = _; rw [chars_map], fun x _ => by show some (strsD _) = _; rw [chars_map]⟩
section
variable {α β γ δ : Type} {e : α → D} {f : β → D} {g : α → List β} {m ma mb : RM} {ρ : List D} {o : Option α}
theorem ei_it [It1 e f g] [Fz e] (h : Ev e m ρ o) : Ei f (itM m) ρ (o.bind fun x => some (g x)) := fun z hz => by
  obtain ⟨x, h1, h2⟩ := ob_some hz; cases h2
  rw [ev_it, h x h1]; exact It1.fr x (Fz.fz x)
theorem ei_itV [It1 e f g] (h : Ev e m ρ o) : Ei f (itV m) ρ (o.bind fun x => some (g x)) := fun z hz => by
  obtain ⟨x, h1, h2⟩ := ob_some hz; cases h2
  rw [ev_itV, h x h1]; exact It1.it x
theorem ei_rng1 {o : Option Int} (h : Ev eI m ρ o) : Ei eI (rng1M m) ρ (o.bind rngT) := fun z hz => by
  obtain ⟨x, h1, h2⟩ := ob_some hz
  unfold rngT at h2; split at h2
  · rename_i q
    cases h2
    rw [ev_rng1, h x h1]
    show rng1D (.int x) = _
    show (if -(2 ^ 62) ≤ x ∧ x < 2 ^ 62 then some (upD 0 x.toNat) else none) = _
    rw [if_pos q, upD0, List.map_map]; rfl
  · cases h2
theorem ei_enumS {o : Option Ts} (h : Ev eS m ρ o) : Ei (e2 eI eS) (enumSM m) ρ (o.bind fun x => some (enumT 0 (chars x))) := fun z hz => by
  obtain ⟨x, h1, h2⟩ := ob_some hz; cases h2
  rw [ev_enumS, h x h1, Option.bind_some]
  show some (enumFrom 0 (strsD (x.map Char.toNat))) = _
  rw [chars_map, enum_map]
end
def compG {α β : Type} (p : α → Option Bool) (g : α → Option β) : List α → Option (List β)
  | [] => some []
  | x :: xs => (p x).bind fun k => if k = true then (g x).bind fun y => (compG p g xs).bind fun ys => some (y :: ys) else compG p g xs
def compT {α β : Type} (p : α → Option Bool) (g : α → Option β) (xs : List α) : Option (List β) := if xs.length ≤ LIM then compG p g xs else none
theorem compL_T {α β : Type} {e : α → D} {f : β → D} [Fz f] {t : TgM} {mc : BM} {me : RM} {ρ0 : List D} {env : α → List D} {p : α → Option Bool} {g : α → Option β} (ht : ∀ x, t (e x) ρ0 = some (env x)) (hc : ∀ x, Et mc (env x) (p x)) (he : ∀ x, Ev f me (env x) (g x)) :
    ∀ (xs : List α) (ys : List β), compG p g xs = some ys → compL t mc me ρ0 (xs.map e) = some (ys.map f)
  | [], ys, h => by cases h; rfl
  | x :: xs, ys, h => by
    obtain ⟨k, h1, h2⟩ := ob_some h
    rw [List.map_cons, compL, ht, Option.bind_some, hc x k h1, Option.bind_some]
    cases k with
    | true =>
      rw [if_pos rfl] at h2 ⊢
      obtain ⟨y, h3, h4⟩ := ob_some h2
      obtain ⟨zs, h5, h6⟩ := ob_some h4
      cases h6
      rw [he x y h3, Option.bind_some, if_pos (Fz.fz y), compL_T ht hc he xs zs h5]; rfl
    | false =>
      simp only [if_neg Bool.false_ne_true] at h2 ⊢
      exact compL_T ht hc he xs ys h2
theorem x_comp {α β : Type} {e : α → D} {f : β → D} [Fz f] {vs : List Nat} {t : TgM} {mc : BM} {me : RM} {ms : AM} {ρ : List D} {p : α → Option Bool} {g : α → Option β} {o : Option (List α)} (env : α → List D) (hi : Ei e ms ρ o) (ht : ∀ x, t (e x) (goneAt ρ vs) = some (env x)) (hc : ∀ x, Et mc (env x) (p x)) (he : ∀ x, Ev f me (env x) (g x)) :
    Ev (eL true f) (compM vs t mc me ms) ρ (o.bind fun xs => compT p g xs) := fun ys hy => by
  obtain ⟨xs, h1, h2⟩ := ob_some hy
  unfold compT at h2; split at h2
  · rename_i q
    rw [LI.ev_comp, hi xs h1, Option.bind_some, if_pos (by simpa using q), compL_T ht hc he xs ys h2]; rfl
  · cases h2
theorem et_yes {ρ : List D} : Et yesB ρ (some true) := fun x h => by cases h; rfl
end LI

namespace LI
open PySem L2

def Bk {τ : Type} (Q : Fl → List D → τ → Prop) (m : SM) (ρ : List D) (o : Option τ) : Prop := ∀ t, o = some t → ∃ fl ρ', m ρ = some (fl, ρ') ∧ Q fl ρ' t
def nxB : Fl → Bool
  | .nx => true | _ => false
def goB : Fl → Bool
  | .nx => true | .ct => true | _ => false
def rtB : Fl → Bool
  | .rt _ => true | .ex _ _ _ => true | _ => false
def Qn {τ : Type} (Q : Fl → List D → τ → Prop) : Fl → List D → τ → Prop := fun fl ρ t => nxB fl = false ∧ Q fl ρ t
def Qj {σ : Type} (kl : List Nat) (env : σ → List D) : Fl → List D → σ → Prop := fun fl ρ s => nxB fl = true ∧ goneAt ρ kl = env s
def Qm {σ τ : Type} (kl : List Nat) (env : σ → List D) (Q : Fl → List D → τ → Prop) : Fl → List D → σ ⊕ τ → Prop := fun fl ρ t => match t with
  | .inl s => nxB fl = true ∧ goneAt ρ kl = env s
  | .inr t => nxB fl = false ∧ Q fl ρ t
def Ql {σ : Type} (kl : List Nat) (env : σ → List D) : Fl → List D → σ → Prop := fun fl ρ s => goB fl = true ∧ goneAt ρ kl = env s
inductive St (σ τ : Type) where
  | nx (s : σ) | bk (s : σ) | rt (t : τ)
def Qs {σ τ : Type} (kl : List Nat) (env : σ → List D) (Q : Fl → List D → τ → Prop) : Fl → List D → St σ τ → Prop := fun fl ρ t => match t with
  | .nx s => goB fl = true ∧ goneAt ρ kl = env s
  | .bk s => fl = .bk ∧ goneAt ρ kl = env s
  | .rt t => rtB fl = true ∧ Q fl ρ t
def Qf {τ : Type} (e : τ → D) (kp : List Bool) (mk : τ → List D) : Fl → List D → τ → Prop := fun fl ρ r => (fl = .rt (e r) ∨ (fl = .nx ∧ e r = .non)) ∧ maskL kp ρ = mk r

def seqT {σ τ : Type} (u : σ ⊕ τ) (k : σ → Option τ) : Option τ := match u with
  | .inl s => k s
  | .inr t => some t
theorem nxB_nx {fl : Fl} (h : nxB fl = true) : fl = .nx := by cases fl <;> first | rfl | cases h
section
variable {α β σ τ : Type} {Q : Fl → List D → τ → Prop} {e e' : α → D} {env : α → List D} {m r a b : SM} {g : GM} {mm : RM} {ρ : List D} {o : Option α} {oc : Option Bool} {c : BM} {k : α → Option τ}
theorem eg_f (h : Ev e mm ρ o) : Eg e (fun _ => ρ) (upF mm) ρ o := fun x hx => by rw [ev_upF, h x hx]; rfl
theorem eg_r [Fz e] (h : Ev e mm ρ o) : Eg e (fun _ => ρ) (upR mm) ρ o := fun x hx => by rw [ev_upR, h x hx, Option.bind_some, if_pos (Fz.fz x)]
theorem eg_mv {L : Lens} (e : α → D) (x : α) (ρ' : List D) (h : L.get ρ = some (e x)) (h2 : L.put ρ .gone = ρ') : Eg e (fun _ => ρ') (mvM L) ρ (some x) := fun y hy => by
  cases hy; rw [LI.ev_mv, h, Option.bind_some, h2]
theorem b_asg {f : TgM} (env2 : α → List D) (h : Eg e env g ρ o) (hf : ∀ x, f (e x) (env x) = some (env2 x)) (h2 : ∀ x, Bk Q m (env2 x) (k x)) : Bk Q (seqM (asgM f g) m) ρ (o.bind k) := fun t ht => by
  obtain ⟨x, h3, h4⟩ := ob_some ht
  obtain ⟨fl, ρ', h5, h6⟩ := h2 x t h4
  refine ⟨fl, ρ', ?_, h6⟩
  unfold seqM asgM
  rw [h x h3, Option.bind_some, hf]
  exact h5
theorem b_asgI {f : TgM} {i : Nat} (env2 : α → List D) (h : Eg e env g ρ o) (hf : ∀ x, (f (e x) (env x)).map (iceAt i) = some (env2 x)) (h2 : ∀ x, Bk Q m (env2 x) (k x)) : Bk Q (seqM (iceM i (asgM f g)) m) ρ (o.bind k) := fun t ht => by
  obtain ⟨x, h3, h4⟩ := ob_some ht
  obtain ⟨fl, ρ', h5, h6⟩ := h2 x t h4
  refine ⟨fl, ρ', ?_, h6⟩
  have := hf x
  cases w : f (e x) (env x) with
  | none => rw [w] at this; cases this
  | some ρ1 =>
    rw [w] at this
    have e2 : iceAt i ρ1 = env2 x := Option.some.inj this
    rw [← e2] at h5
    unfold seqM iceM asgM
    rw [h x h3, Option.bind_some, w]
    exact h5
theorem b_expr (h : Eg e env g ρ o) (h2 : ∀ x, Bk Q m (env x) (k x)) : Bk Q (seqM (exprM g) m) ρ (o.bind k) := fun t ht => by
  obtain ⟨x, h3, h4⟩ := ob_some ht
  obtain ⟨fl, ρ', h5, h6⟩ := h2 x t h4
  refine ⟨fl, ρ', ?_, h6⟩
  unfold seqM exprM
  rw [h x h3]
  exact h5
theorem b_ret {k : α → τ} (h : Eg e env g ρ o) (h2 : ∀ x, Q (.rt (e x)) (env x) (k x)) : Bk Q (seqM (retM g) m) ρ (o.bind fun x => some (k x)) := fun t ht => by
  obtain ⟨x, h3, h4⟩ := ob_some ht
  cases h4
  refine ⟨_, _, ?_, h2 x⟩
  unfold seqM retM
  rw [h x h3]; rfl
theorem b_retI {e : τ → D} {env : τ → List D} {o : Option τ} (h : Eg e env g ρ o) (h2 : ∀ x, Q (.rt (e x)) (env x) x) : Bk Q (seqM (retM g) m) ρ o := fun t ht => by
  refine ⟨_, _, ?_, h2 t⟩
  unfold seqM retM
  rw [h t ht]; rfl
theorem b_nil {t : τ} (h : Q .nx ρ t) : Bk Q skipM ρ (some t) := fun t' ht => by cases ht; exact ⟨_, _, rfl, h⟩
theorem b_never {a : SM} : Bk Q a ρ none := fun t ht => by cases ht
theorem b_ifT {oa ob : Option τ} (hc : Et c ρ oc) (ha : Bk (Qn Q) a ρ oa) (hr : Bk Q r ρ ob) : Bk Q (seqM (ifM c a skipM) r) ρ (oc.bind fun k => if k = true then oa else ob) := fun t ht => by
  obtain ⟨x, h1, h2⟩ := ob_some ht
  cases x with
  | true =>
    rw [if_pos rfl] at h2
    obtain ⟨fl, ρ', h3, h4, h5⟩ := ha t h2
    refine ⟨fl, ρ', ?_, h5⟩
    unfold seqM ifM
    rw [hc _ h1, Option.bind_some, if_pos rfl, h3]
    cases fl <;> first | rfl | cases h4
  | false =>
    simp at h2
    obtain ⟨fl, ρ', h3, h4⟩ := hr t h2
    refine ⟨fl, ρ', ?_, h4⟩
    unfold seqM ifM
    rw [hc _ h1, Option.bind_some, if_neg Bool.false_ne_true]
    exact h3
theorem b_join {kl : List Nat} (env : σ → List D) {oa ob : Option σ} {k : σ → Option τ} (hc : Et c ρ oc) (ha : Bk (Qj kl env) a ρ oa) (hb : Bk (Qj kl env) b ρ ob) (hr : ∀ s, Bk Q r (env s) (k s)) : Bk Q (seqM (ifM c a b) (killM kl r)) ρ (oc.bind fun x => (if x = true then oa else ob).bind k) := fun t ht => by
  obtain ⟨x, h1, h2⟩ := ob_some ht
  obtain ⟨s, h3, h4⟩ := ob_some h2
  obtain ⟨fl, ρ', h5, h6⟩ := hr s t h4
  have main : ∀ m : SM, Bk (Qj kl env) m ρ (if x = true then oa else ob) → ifM c a b ρ = m ρ → ∃ fl ρ', seqM (ifM c a b) (killM kl r) ρ = some (fl, ρ') ∧ Q fl ρ' t := fun m hm he => by
    obtain ⟨f2, ρ2, h7, h8, h9⟩ := hm s h3
    refine ⟨fl, ρ', ?_, h6⟩
    unfold seqM
    rw [he, h7, nxB_nx h8]
    show r (goneAt ρ2 kl) = _
    rw [h9]; exact h5
  cases x with
  | true => exact main a ha (if_T (hc _ h1))
  | false => exact main b hb (if_F (hc _ h1))
end

def foldT {σ α : Type} (g : σ → α → Option σ) : List α → σ → Option σ
  | [], s => some s
  | x :: xs, s => (g s x).bind fun s => foldT g xs s
def forT {σ α τ : Type} (g : σ → α → Option (St σ τ)) : List α → σ → Option (σ ⊕ τ)
  | [], s => some (.inl s)
  | x :: xs, s => (g s x).bind fun u => match u with
    | .nx s => forT g xs s
    | .bk s => some (.inl s)
    | .rt t => some (.inr t)
def whileT {σ : Type} (p : σ → Option Bool) (g : σ → Option σ) : Nat → σ → Option σ
  | 0, _ => none
  | n + 1, s => (p s).bind fun k => if k = true then (g s).bind fun s => whileT p g n s else some s
section
variable {α σ τ : Type} {Q : Fl → List D → τ → Prop} {e : α → D} {r body : SM} {ρ : List D} {oxs : Option (List α)} {c : BM} {k : σ → Option τ} {ms : AM} {f : TgM} {kl : List Nat}
theorem for_fold1 (env : σ → List D) (env1 : σ → α → List D) {g : σ → α → Option σ} (hf : ∀ s x, f (e x) (env s) = some (env1 s x)) (hb : ∀ s x, Bk (Ql kl env) body (env1 s x) (g s x)) : ∀ (xs : List α) (s s' : σ), foldT g xs s = some s' → forL f body kl (xs.map e) (env s) = some (.nx, env s')
  | [], s, s', h => by cases h; rfl
  | x :: xs, s, s', h => by
    obtain ⟨s1, h1, h2⟩ := ob_some h
    obtain ⟨fl, ρ', h3, h4, h5⟩ := hb s x s1 h1
    rw [List.map_cons]; unfold forL
    rw [hf, Option.bind_some, h3, Option.bind_some]
    have ih := for_fold1 env env1 hf hb xs s1 s' h2
    cases fl with
    | nx => simp only [h5]; exact ih
    | ct => simp only [h5]; exact ih
    | bk => cases h4
    | rt d => cases h4
    | ex n fs es => cases h4
theorem b_for (env : σ → List D) (s0 : σ) (env1 : σ → α → List D) {g : σ → α → Option σ} (hi : Ei e ms ρ oxs) (hρ : ρ = env s0) (hf : ∀ s x, f (e x) (env s) = some (env1 s x)) (hb : ∀ s x, Bk (Ql kl env) body (env1 s x) (g s x)) (hr : ∀ s, Bk Q r (env s) (k s)) :
    Bk Q (seqM (forM f body kl ms) r) ρ (oxs.bind fun xs => (foldT g xs s0).bind k) := fun t ht => by
  obtain ⟨xs, h1, h2⟩ := ob_some ht
  obtain ⟨s, h3, h4⟩ := ob_some h2
  obtain ⟨fl, ρ', h5, h6⟩ := hr s t h4
  refine ⟨fl, ρ', ?_, h6⟩
  unfold seqM
  rw [for_at (hi xs h1), hρ, for_fold1 env env1 hf hb xs s0 s h3]
  exact h5
theorem for_step1 (env : σ → List D) (env1 : σ → α → List D) {g : σ → α → Option (St σ τ)} (hf : ∀ s x, f (e x) (env s) = some (env1 s x)) (hb : ∀ s x, Bk (Qs kl env Q) body (env1 s x) (g s x)) : ∀ (xs : List α) (s : σ) (u : σ ⊕ τ), forT g xs s = some u →
    ∃ fl ρ', forL f body kl (xs.map e) (env s) = some (fl, ρ') ∧ match u with | .inl s => fl = .nx ∧ ρ' = env s | .inr t => rtB fl = true ∧ Q fl ρ' t
  | [], s, u, h => by cases h; exact ⟨_, _, rfl, rfl, rfl⟩
  | x :: xs, s, u, h => by
    obtain ⟨v, h1, h2⟩ := ob_some h
    obtain ⟨fl, ρ', h3, h4⟩ := hb s x v h1
    rw [List.map_cons]; unfold forL
    rw [hf, Option.bind_some, h3, Option.bind_some]
    cases v with
    | nx s1 =>
      obtain ⟨f2, ρ2, h5, h6⟩ := for_step1 env env1 hf hb xs s1 u h2
      refine ⟨f2, ρ2, ?_, h6⟩
      cases fl with
      | nx => simp only [h4.2]; exact h5
      | ct => simp only [h4.2]; exact h5
      | bk => cases h4.1
      | rt d => cases h4.1
      | ex n fs es => cases h4.1
    | bk s1 =>
      cases h2
      rw [h4.1]
      exact ⟨_, _, rfl, rfl, h4.2⟩
    | rt t =>
      cases h2
      cases fl with
      | rt d => exact ⟨_, _, rfl, h4⟩
      | ex n fs es => exact ⟨_, _, rfl, h4⟩
      | _ => cases h4.1
theorem b_forR (env : σ → List D) (s0 : σ) (env1 : σ → α → List D) {g : σ → α → Option (St σ τ)} (hi : Ei e ms ρ oxs) (hρ : ρ = env s0) (hf : ∀ s x, f (e x) (env s) = some (env1 s x)) (hb : ∀ s x, Bk (Qs kl env Q) body (env1 s x) (g s x)) (hr : ∀ s, Bk Q r (env s) (k s)) :
    Bk Q (seqM (forM f body kl ms) r) ρ (oxs.bind fun xs => (forT g xs s0).bind fun u => seqT u k) := fun t ht => by
  obtain ⟨xs, h1, h2⟩ := ob_some ht
  obtain ⟨u, h3, h4⟩ := ob_some h2
  obtain ⟨f2, ρ2, h7, h8⟩ := for_step1 env env1 hf hb xs s0 u h3
  unfold seqM
  rw [for_at (hi xs h1), hρ, h7, Option.bind_some]
  cases u with
  | inl s =>
    obtain ⟨rfl, rfl⟩ := h8
    exact hr s t h4
  | inr t2 =>
    cases h4
    cases f2 with
    | rt d => exact ⟨_, _, rfl, h8.2⟩
    | ex n fs es => exact ⟨_, _, rfl, h8.2⟩
    | _ => cases h8.1
theorem while_fold1 (env : σ → List D) {p : σ → Option Bool} {g : σ → Option σ} (hc : ∀ s, Et c (env s) (p s)) (hb : ∀ s, Bk (Ql kl env) body (env s) (g s)) : ∀ (n : Nat) (s s' : σ), whileT p g n s = some s' → whileL c body kl n (env s) = some (.nx, env s')
  | 0, s, s', h => by cases h
  | n + 1, s, s', h => by
    obtain ⟨b, h1, h2⟩ := ob_some h
    unfold whileL
    rw [hc s b h1, Option.bind_some]
    cases b with
    | false => simp at h2; rw [h2]; rfl
    | true =>
      rw [if_pos rfl] at h2 ⊢
      obtain ⟨s1, h3, h4⟩ := ob_some h2
      obtain ⟨fl, ρ', h5, h6, h7⟩ := hb s s1 h3
      rw [h5, Option.bind_some]
      have ih := while_fold1 env hc hb n s1 s' h4
      cases fl with
      | nx => simp only [h7]; exact ih
      | ct => simp only [h7]; exact ih
      | bk => cases h6
      | rt d => cases h6
      | ex n fs es => cases h6
theorem b_while {n : Nat} (env : σ → List D) (s0 : σ) {p : σ → Option Bool} {g : σ → Option σ} (hρ : ρ = env s0) (hc : ∀ s, Et c (env s) (p s)) (hb : ∀ s, Bk (Ql kl env) body (env s) (g s)) (hr : ∀ s, Bk Q r (env s) (k s)) :
    Bk Q (seqM (whileM n c body kl) r) ρ ((whileT p g n s0).bind k) := fun t ht => by
  obtain ⟨s, h3, h4⟩ := ob_some ht
  obtain ⟨fl, ρ', h5, h6⟩ := hr s t h4
  refine ⟨fl, ρ', ?_, h6⟩
  unfold seqM whileM
  rw [hρ, while_fold1 env hc hb n s0 s h3]
  exact h5
end

theorem run_T {τ : Type} {e : τ → D} {n : Nat} {kp : List Bool} {m : SM} {ds : List D} {mk : τ → List D} {o : Option τ} {r : τ} (hl : (ds.length == kp.length) = true) (hb : Bk (Qf e kp mk) m (ds ++ List.replicate (n - ds.length) .gone) o) (h : o = some r) : runM n kp m ds = some (e r, mk r) := by
  obtain ⟨fl, ρ', h1, h2, h3⟩ := hb r h
  unfold runM
  rw [if_pos (by simpa using hl), h1, Option.bind_some]
  rcases h2 with rfl | ⟨rfl, h2⟩
  · rw [← h3]
  · rw [← h3, h2]
end LI

namespace LI
open PySem L2

theorem icL {α : Type} {e e' : α → D} [Ic e e'] (xs : List α) : xs.map (fun x => ice (e x)) = xs.map e' := List.map_congr_left fun x _ => Ic.ic x
theorem fzL {α : Type} {e : α → D} [Fz e] (xs : List α) : frzL (xs.map e) = true := frzL_map.mpr fun x _ => Fz.fz x
section
variable {α β γ τ σ : Type} {e : α → D} {env : α → List D} {m mo : RM} {ms : AM} {g : GM} {ρ : List D} {o : Option α} {L : Lens}
theorem ev_get {x : α} (h : L.get ρ = some (e x)) : Ev e L.get ρ (some x) := fun y hy => by cases hy; exact h
def appT {α : Type} (xs : List α) (x : α) : Option (List α) := if xs.length < LIM then some (xs ++ [x]) else none
theorem eg_app {a : α → D} {xs : List α} {env : List α → List D} (h : L.get ρ = some (eL true a xs)) (hx : Ev a m ρ o) (hp : ∀ ys, L.put ρ (eL true a ys) = env ys) : Eg (fun _ => .non) env (appL L m) ρ (o.bind fun x => appT xs x) := fun ys hy => by
  obtain ⟨x, h1, h2⟩ := ob_some hy
  unfold appT at h2
  split at h2
  · rename_i q
    cases h2
    rw [LI.ev_app, h, Option.bind_some, hx x h1, Option.bind_some]
    show (if (xs.map a).length < LIM then _ else none) = _
    rw [if_pos (by simpa using q), ← hp]
    simp [eL]
  · cases h2
theorem eg_ext {a : β → D} {i : Nat} {xs0 : List β} {xs ys : α → List β} {o' : Bool} {env0 : α → List D} {env : α × List β → List D} [Fz a] (h0 : ρ[i]? = some (eL true a xs0)) (hg : Eg e env0 g ρ o) (he : ∀ x, e x = eL o' a (ys x)) (h1 : ∀ x, (env0 x)[i]? = some (eL true a (xs x))) (hp : ∀ p, (env0 p.1).set i (eL true a p.2) = env p) :
    Eg (fun _ => .non) env (extS i g) ρ (o.bind fun x => (catL (xs x) (ys x)).bind fun z => some (x, z)) := fun p hy => by
  obtain ⟨x, h2, h3⟩ := ob_some hy
  obtain ⟨z, h4, h5⟩ := ob_some h3
  cases h5
  unfold catL at h4
  split at h4
  · rename_i q
    cases h4
    unfold extS
    rw [h0]
    show (g ρ).bind _ = _
    rw [hg x h2, Option.bind_some]
    simp only [he, h1]
    show (if frzL ((ys x).map a) = true ∧ ((xs x).map a).length + ((ys x).map a).length ≤ LIM then _ else none) = _
    rw [if_pos ⟨fzL _, by simpa using q⟩, ← hp]
    simp [eL]
  · cases h4
theorem eg_binV {f : D → D → Option D} {i : Nat} {a0 : γ} {ec ec0 : γ → D} {x0 : α → γ} {er : β → D} {op : γ → γ → Option β} {ea : γ → D} (hf : O2 f ec ea er op) (hg : Eg e env g ρ o) (y0 : α → γ) (he : ∀ x, e x = ea (y0 x)) [Ng ec] [Ng ec0] (h0 : ρ[i]? = some (ec0 a0)) (h1 : ∀ x, (env x)[i]? = some (ec (x0 x))) :
    Eg (fun p : β × α => er p.1) (fun p => env p.2) (binVG f i g) ρ (o.bind fun x => (op (x0 x) (y0 x)).bind fun z => some (z, x)) := fun p hy => by
  obtain ⟨x, h2, h3⟩ := ob_some hy
  obtain ⟨z, h4, h5⟩ := ob_some h3
  cases h5
  rw [LI.ev_binV, LI.ev_v, h0, Option.bind_some, if_pos (Ng.ng _), Option.bind_some, hg x h2, Option.bind_some, LI.ev_v, h1, Option.bind_some, if_pos (Ng.ng _), Option.bind_some, he, hf _ _ _ h4]; rfl
theorem b_fld {Q : Fl → List D → τ → Prop} {r : SM} {k : α → Option τ} {n : Nat} {f : Str} (env2 : α → List D) (h : Eg e env g ρ o) (hp : ∀ x, ((L.get (env x)).bind fun self => (setFD n f (e x) self).map fun self' => L.put (env x) self') = some (env2 x)) (h2 : ∀ x, Bk Q r (env2 x) (k x)) : Bk Q (seqM (fldM n f L g) r) ρ (o.bind k) := fun t ht => by
  obtain ⟨x, h3, h4⟩ := ob_some ht
  obtain ⟨fl, ρ', h5, h6⟩ := h2 x t h4
  refine ⟨fl, ρ', ?_, h6⟩
  have := hp x
  unfold seqM fldM
  rw [h x h3, Option.bind_some]
  cases w1 : L.get (env x) with
  | none => rw [w1] at this; cases this
  | some self =>
    rw [w1, Option.bind_some] at this
    simp only [w1, Option.bind_some]
    cases w2 : setFD n f (e x) self with
    | none => rw [w2] at this; cases this
    | some s2 =>
      rw [w2] at this
      have e2 : L.put (env x) s2 = env2 x := Option.some.inj this
      rw [Option.map_some, e2]
      exact h5
def Tm {κ : Type} (ec : κ → D) (et : τ → List D) (er : σ → D) (slf : σ → κ) (F : FM) (t : κ → τ → Option σ) : Prop := ∀ x p r, t x p = some r → ∃ ds', F (ec x :: et p) = some (er r, ec (slf r) :: ds')
def To {κ : Type} (ec : κ → D) (et : τ → List D) (er : σ → D) (F : FM) (t : κ → τ → Option σ) : Prop := ∀ x p r, t x p = some r → ∃ ds', F (ec x :: et p) = some (er r, ec x :: ds')
def Tn {κ : Type} (n : Nat) (et : τ → List D) (ec : κ → D) (F : FM) (t : τ → Option κ) : Prop := ∀ p r, t p = some r → ∃ ds', F (.obj true n [] [] :: et p) = some (.non, ec r :: ds')
theorem eg_meth {κ : Type} {ec : κ → D} {x : κ} {et et' : τ → List D} {er : σ → D} {slf : σ → κ} {F : FM} {t : κ → τ → Option σ} {n : Nat} {nm : Str} {env : σ → List D} {os : Option τ} (hT : Tm ec et er slf F t) (hg : L.get ρ = some (ec x)) (hk : isObjK n nm (ec x) = true) (hs : Ea et et' true ms ρ os) (hp : ∀ r, L.put ρ (ec (slf r)) = env r) :
    Eg er env (methM n nm L F ms) ρ (os.bind fun p => t x p) := fun r hr => by
  obtain ⟨p, h1, h2⟩ := ob_some hr
  obtain ⟨ds', h3⟩ := hT x p r h2
  unfold methM
  rw [hg, Option.bind_some, hs.run p h1, Option.bind_some, if_pos ⟨hk, hs.fz rfl p⟩, h3, Option.bind_some]
  show some (er r, L.put ρ (ec (slf r))) = _
  rw [hp]
theorem x_lookF {κ : Type} {ec ec' : κ → D} {et et' : τ → List D} {er : σ → D} {F : FM} {t : κ → τ → Option σ} {n : Nat} {nm : Str} {os : Option τ} {ok : Option κ} {z : Bool} [Nic er] [Ic ec ec'] (hk : ∀ x, isObjK n nm (ec x) = true) (hT : To ec' et' er F t) (ho : Ev ec mo ρ ok) (hs : Ea et et' z ms ρ os) :
    Ev er (lookM n nm mo F ms) ρ (ok.bind fun x => os.bind fun p => t x p) := fun r hr => by
  obtain ⟨x, h1, h2⟩ := ob_some hr
  obtain ⟨p, h3, h4⟩ := ob_some h2
  obtain ⟨ds', h5⟩ := hT x p r h4
  unfold lookM
  rw [ho x h1, Option.bind_some, hs.run p h3, Option.bind_some, if_pos (hk x), iceL_cons, Ic.ic (e := ec), hs.ic, h5, Option.bind_some, if_pos (.inr (Nic.ni r))]
theorem x_mk {κ : Type} {ec : κ → D} {et et' : τ → List D} {F : FM} {t : τ → Option κ} {n : Nat} {os : Option τ} (hT : Tn n et ec F t) (hs : Ea et et' true ms ρ os) : Ev ec (mkM n F ms) ρ (os.bind t) := fun r hr => by
  obtain ⟨p, h1, h2⟩ := ob_some hr
  obtain ⟨ds', h3⟩ := hT p r h2
  unfold mkM
  rw [hs.run p h1, Option.bind_some, if_pos (hs.fz rfl p), h3, Option.bind_some]
end
def kdS : List (Ts × Ts) → Ts → Option Ts
  | [], _ => none
  | kv :: kvs, z => if kv.1 = z then some kv.2 else kdS kvs z
def kdN (kvs : List (Ts × Ts)) : List (List Nat × List Nat) := kvs.map fun kv => (kv.1.map Char.toNat, kv.2.map Char.toNat)
theorem kdN_get : ∀ (kvs : List (Ts × Ts)) (z : Ts), kdGet (kdN kvs) (z.map Char.toNat) = (kdS kvs z).map fun s => s.map Char.toNat
  | [], z => rfl
  | kv :: kvs, z => by
    show (if kv.1.map Char.toNat = z.map Char.toNat then some (kv.2.map Char.toNat) else kdGet (kdN kvs) (z.map Char.toNat)) = _
    unfold kdS
    by_cases h : kv.1 = z
    · rw [if_pos (by rw [h]), if_pos h]; rfl
    · rw [if_neg (fun q => h (ts_map_inj.mp q)), if_neg h, kdN_get kvs z]
theorem o1_ixK {kvs : List (List Nat × List Nat)} {kt : List (Ts × Ts)} (h : kvs = kdN kt) : O1 (ixK kvs) eS eS (kdS kt) := fun x z hz => by
  subst h
  show (kdGet (kdN kt) (x.map Char.toNat)).map D.str = _
  rw [kdN_get, hz]; rfl
theorem o1_inK {kvs : List (List Nat × List Nat)} {kt : List (Ts × Ts)} (h : kvs = kdN kt) : O1 (inK kvs) eS eB (fun x => some (kdS kt x).isSome) := o1_tot fun x => by
  subst h
  show some (D.bl (kdGet (kdN kt) (x.map Char.toNat)).isSome) = _
  rw [kdN_get, Option.isSome_map]; rfl
class Ki {α : Type} (e : α → D) (k : outParam String) : Prop where
  ki : ∀ x, tyD (e x) = some k
instance : Ki eS "str" := ⟨fun _ => rfl⟩
section
variable {α β γ δ ε ζ : Type} {a : α → D} {b : β → D} {c : γ → D} {d : δ → D} {e : ε → D} {f : ζ → D} {o : Bool}
instance : Ki (eL o a) "list" := ⟨fun _ => rfl⟩
instance : Ki (e3 a b c) "tuple" := ⟨fun _ => rfl⟩
end
theorem x_isK {α : Type} {e : α → D} {k ty : String} {b : Bool} [Ki e k] {m : RM} {ρ : List D} {o : Option α} (hb : kitB k ty = some b) (h : Ev e m ρ o) : Ev eB (isiM ty m) ρ (o.bind fun _ => some b) :=
  x_isi (fun _ => b) (fun x => by rw [Ki.ki (e := e), Option.bind_some, hb]) h
end LI
namespace OW
end OW

theorem bind_same {α : Type} (x : Option α) : (x.bind fun y => some y) = x := Option.bind_fun_some x
namespace LI
open PySem L2

section
variable {α β γ κ τ σ τ1 τ2 : Type} {Q : Fl → List D → τ → Prop} {e e' : α → D} {env : α → List D} {m r : SM} {g : GM} {mm mi : RM} {ms1 ms2 : AM} {ρ : List D} {o : Option α} {k : α → Option τ} {L : Lens}
theorem ice_set {i : Nat} {x : α} {ρ2 : List D} [Ic e e'] (h : ρ[i]? = some (e x)) (h2 : ρ.set i (e' x) = ρ2) : iceAt i ρ = ρ2 := by
  unfold iceAt
  rw [h]
  show ρ.set i (ice (e x)) = ρ2
  rw [Ic.ic (e := e), h2]
theorem b_frz {i : Nat} {x : α} {ρ2 : List D} {ot : Option τ} [Ic e e'] (h : ρ[i]? = some (e x)) (h2 : ρ.set i (e' x) = ρ2) (hb : Bk Q m ρ2 ot) : Bk Q (frzM i m) ρ ot := by
  intro t ht
  unfold frzM
  rw [ice_set (e := e) h h2]
  exact hb t ht
theorem b_asgC {i : Nat} [ic : Ic e e'] (env2 : α → List D) (h : Eg e env g ρ o) (hl : ∀ x, decide (i < (env x).length) = true) (h2 : ∀ x, (env x).set i (e' x) = env2 x) (h3 : ∀ x, Bk Q m (env2 x) (k x)) : Bk Q (seqM (iceM i (asgM (nameT i) g)) m) ρ (o.bind k) :=
  b_asgI env2 h (fun x => by
    rw [ev_name, Option.map_some, ice_set (e := e) (x := x) (ρ2 := env2 x)]
    · rw [List.getElem?_set_self (of_decide_eq_true (hl x))]
    · rw [List.set_set, h2]) h3
def Tl (et1 : τ1 → List D) (ec : κ → D) (et2 : τ2 → List D) (er : σ → D) (slf : σ → κ) (F : FM) (t : τ1 → κ → τ2 → Option σ) : Prop := ∀ p x q r, t p x q = some r → ∃ ds', F (et1 p ++ ec x :: et2 q) = some (er r, ds') ∧ ds'[(et1 p).length]? = some (ec (slf r))
theorem eg_lend {ec : κ → D} {x : κ} {et1 et1' : τ1 → List D} {et2 et2' : τ2 → List D} {er : σ → D} {slf : σ → κ} {F : FM} {t : τ1 → κ → τ2 → Option σ} {env : σ → List D} {o1 : Option τ1} {o2 : Option τ2} (hT : Tl et1 ec et2 er slf F t) (hg : L.get ρ = some (ec x)) (h1 : Ea et1 et1' true ms1 ρ o1) (h2 : Ea et2 et2' true ms2 ρ o2) (hp : ∀ r, L.put ρ (ec (slf r)) = env r) :
    Eg er env (lendM F ms1 L ms2) ρ (o1.bind fun p => o2.bind fun q => t p x q) := fun r hr => by
  obtain ⟨p, h3, h4⟩ := ob_some hr
  obtain ⟨q, h5, h6⟩ := ob_some h4
  obtain ⟨ds', h7, h8⟩ := hT p x q r h6
  unfold lendM
  rw [h1.run p h3, Option.bind_some, hg, Option.bind_some, h2.run q h5, Option.bind_some, if_pos ⟨h1.fz rfl p, h2.fz rfl q⟩, h7, Option.bind_some]
  dsimp only
  rw [h8, Option.map_some, hp]
end
end LI

namespace LI
open PySem L2

def Etg {α : Type} (env : α → List D) (c : BGM) (ρ : List D) (o : Option (Bool × α)) : Prop := ∀ z, o = some z → c ρ = some (z.1, env z.2)
section
variable {α β γ κ τ σ ζ η : Type} {Q : Fl → List D → τ → Prop} {e e1 : α → D} {env env1 : α → List D} {m r a b : SM} {g ga gb : GM} {mm : RM} {ρ : List D} {o : Option α} {c : BM} {mc md : BGM} {oc od : Option (Bool × α)} {k : α → Option τ}
theorem eg_bin2 {f : D → D → Option D} {ea : κ → D} {eb : η → D} {er : ζ → D} {op : κ → η → Option ζ} {e2 : α → β → D} {env2 : α → β → List D} {ob : α → Option β} (hf : O2 f ea eb er op) (va : α → κ) (vb : α → β → η) (ha : Eg e1 env1 ga ρ o) (hb : ∀ x, Eg (e2 x) (env2 x) gb (env1 x) (ob x)) (h1 : ∀ x, e1 x = ea (va x)) (h2 : ∀ x y, e2 x y = eb (vb x y)) :
    Eg (fun p : ζ × α × β => er p.1) (fun p => env2 p.2.1 p.2.2) (bin2G f ga gb) ρ (o.bind fun x => (ob x).bind fun y => (op (va x) (vb x y)).bind fun z => some (z, x, y)) := fun p hp => by
  obtain ⟨x, h3, h4⟩ := ob_some hp
  obtain ⟨y, h5, h6⟩ := ob_some h4
  obtain ⟨z, h7, h8⟩ := ob_some h6
  cases h8
  unfold bin2G
  rw [ha x h3, Option.bind_some]
  dsimp only
  rw [hb x y h5, Option.bind_some]
  dsimp only
  rw [h1, h2, hf _ _ _ h7]; rfl
theorem eg_st (b : α → Bool) (st : α → σ) (env2 : σ → List D) (h : Eg e env g ρ o) (hv : ∀ x, e x = .bl (b x)) (he : ∀ x, env x = env2 (st x)) : Eg (fun p : Bool × σ => eB p.1) (fun p => env2 p.2) g ρ (o.bind fun x => some (b x, st x)) := fun p hp => by
  obtain ⟨x, h3, h4⟩ := ob_some hp
  cases h4
  rw [h x h3, hv, he]; rfl
theorem etg_tru {o : Option (Bool × σ)} {env : σ → List D} (h : Eg (fun p : Bool × σ => eB p.1) (fun p => env p.2) g ρ o) : Etg env (truG g) ρ o := fun z hz => by
  unfold truG; rw [h z hz]; rfl
theorem etg_not (h : Etg env mc ρ oc) : Etg env (notG mc) ρ (oc.bind fun r => some (!r.1, r.2)) := fun z hz => by
  obtain ⟨x, h1, h2⟩ := ob_some hz
  cases h2
  unfold notG; rw [h x h1]; rfl
theorem etg_or {od : α → Option (Bool × α)} (h : Etg env mc ρ oc) (h2 : ∀ s, Etg env md (env s) (od s)) : Etg env (orG mc md) ρ (oc.bind fun r => if r.1 = true then some (true, r.2) else od r.2) := fun z hz => by
  obtain ⟨x, h3, h4⟩ := ob_some hz
  obtain ⟨k, s⟩ := x
  unfold orG; rw [h _ h3, Option.bind_some]
  cases k with
  | false => exact h2 s z h4
  | true => cases h4; rfl
theorem ifG_T {mc : BGM} {ρ1 : List D} (h : mc ρ = some (true, ρ1)) : ifGM mc a b ρ = a ρ1 := by unfold ifGM; rw [h]; rfl
theorem ifG_F {mc : BGM} {ρ1 : List D} (h : mc ρ = some (false, ρ1)) : ifGM mc a b ρ = b ρ1 := by unfold ifGM; rw [h]; rfl
theorem b_ifGT {oa ob : α → Option τ} (hc : Etg env mc ρ oc) (ha : ∀ s, Bk (Qn Q) a (env s) (oa s)) (hr : ∀ s, Bk Q r (env s) (ob s)) : Bk Q (seqM (ifGM mc a skipM) r) ρ (oc.bind fun k => if k.1 = true then oa k.2 else ob k.2) := fun t ht => by
  obtain ⟨x, h1, h2⟩ := ob_some ht
  obtain ⟨k, s⟩ := x
  cases k with
  | true =>
    obtain ⟨fl, ρ', h3, h4, h5⟩ := ha s t h2
    refine ⟨fl, ρ', ?_, h5⟩
    unfold seqM
    rw [ifG_T (hc _ h1), h3]
    cases fl <;> first | rfl | cases h4
  | false =>
    obtain ⟨fl, ρ', h3, h4⟩ := hr s t h2
    refine ⟨fl, ρ', ?_, h4⟩
    unfold seqM
    rw [ifG_F (hc _ h1)]
    exact h3
end
end LI

namespace LI
open PySem L2

def kS (s : Ts) : Key := .inr ⟨(s.map Char.toNat).toArray⟩
class Ky {κ : Type} (ek : κ → D) (kk : outParam (κ → Key)) : Prop where
  ky : ∀ x, keyD (ek x) = some (kk x)
  inj : ∀ x y, kk x = kk y → x = y
instance : Ky eS kS := ⟨fun _ => rfl, fun x y h => by
  have h1 : (⟨(x.map Char.toNat).toArray⟩ : Str) = ⟨(y.map Char.toNat).toArray⟩ := Sum.inr.inj h
  have h2 : (x.map Char.toNat).toArray = (y.map Char.toNat).toArray := congrArg (fun s : Str => s.cps) h1
  exact ts_map_inj.mp (Array.toList_inj.mpr h2)⟩
def eD {κ α : Type} (o : Bool) (kk : κ → Key) (a : α → D) (m : List (κ × α)) : D := .dK o (m.map fun p => kk p.1) (m.map fun p => a p.2)
section
variable {κ α β : Type} {o : Bool} {ek : κ → D} {kk : κ → Key} {a a' : α → D} {ρ : List D} {ma mb mc mk mv : RM} {ms mt : AM}
theorem frzL2 [Fz a] : ∀ m : List (κ × α), frzL (m.map fun p => a p.2) = true
  | [] => rfl
  | p :: m => by rw [List.map_cons]; show (frz (a p.2) && frzL _) = true; rw [Fz.fz, frzL2 m]; rfl
instance : Ng (eD o kk a) := ⟨fun _ => rfl⟩
instance [Fz a] : Fz (eD false kk a) := ⟨fun m => by
  show (!false && frzL (m.map fun p => a p.2)) = true
  rw [frzL2]; rfl⟩
instance [Ic a a'] : Ic (eD o kk a) (eD false kk a') := ⟨fun m => by
  show D.dK false _ (iceL (m.map fun p => a p.2)) = .dK false _ (m.map fun p => a' p.2)
  congr 1
  induction m with
  | nil => rfl
  | cons p m ih => simp [iceL, ih, Ic.ic (e := a)]⟩
def Edp (kk : κ → Key) (a : α → D) (ms mt : AM) (ρ : List D) (o : Option (List (κ × α))) : Prop := ∀ m, o = some m → ∃ kds, ms ρ = some kds ∧ keyDs kds = some (m.map fun p => kk p.1) ∧ mt ρ = some (m.map fun p => a p.2)
theorem edp_nil : Edp kk a nilM nilM ρ (some []) := fun m h => by cases h; exact ⟨[], rfl, rfl, rfl⟩
def dispT {κ α : Type} [DecidableEq κ] (m : List (κ × α)) : Option (List (κ × α)) := if (m.map (·.1)).Nodup ∧ m.length ≤ 15 then some m else none
theorem nodup_kk [DecidableEq κ] (ek : κ → D) [Ky ek kk] : ∀ m : List (κ × α), (m.map (·.1)).Nodup → (m.map fun p => kk p.1).Nodup
  | [], _ => List.nodup_nil
  | p :: m, h => by
    rw [List.map_cons, List.nodup_cons] at h ⊢
    refine ⟨fun q => h.1 ?_, nodup_kk ek m h.2⟩
    obtain ⟨r, hr, e⟩ := List.mem_map.mp q
    rw [← Ky.inj ek _ _ e]
    exact List.mem_map_of_mem hr
theorem x_disp [DecidableEq κ] (ek : κ → D) [Ky ek kk] [Fz a] {om : Option (List (κ × α))} (h : Edp kk a ms mt ρ om) : Ev (eD true kk a) (dispM ms mt) ρ (om.bind fun m => dispT m) := fun z hz => by
  obtain ⟨m, h1, h2⟩ := ob_some hz
  unfold dispT at h2
  split at h2
  · rename_i q
    cases h2
    obtain ⟨kds, e1, e2, e3⟩ := h z h1
    unfold dispM
    rw [e1, Option.bind_some, e3, Option.bind_some, e2, Option.bind_some, if_pos ⟨nodup_kk ek z q.1, frzL2 z, by simpa using q.2, by simp⟩]
    rfl
  · cases h2
end
end LI
namespace LI
open PySem L2
end LI

namespace LI
open PySem L2
theorem eg_cold {α : Type} {e e' : α → D} {env : α → List D} {g : GM} {ρ : List D} {o : Option α} [ic : Ic e e'] (h : Eg e env g ρ o) : Eg e' env (coldG g) ρ o := fun x hx => by
  unfold coldG
  rw [h x hx, Option.map_some, Ic.ic (e := e)]
section
variable {α β γ δ ε ζ : Type} {a : α → D} {b : β → D} {c : γ → D} {d : δ → D} {e : ε → D} {f : ζ → D}
end
section
variable {α : Type} {o : Bool} {e e' : α → D}
end
section
variable {α β σ τ : Type} {e : α → D} {env : α → List D} {g : GM} {ms : AGM} {ρ : List D} {o : Option α}
end
theorem bk_of {τ : Type} {Q : Fl → List D → τ → Prop} {m : SM} {ρ : List D} {o o' : Option τ} (h : Bk Q m ρ o) (e : ∀ t, o' = some t → o = some t) : Bk Q m ρ o' := fun t ht => h t (e t ht)
end LI

namespace LI
open PySem L2
section
variable {α β σ τ : Type} {o : Bool} {a : α → D} {xs : List α} {ρ : List D} {L : Lens} {mi : RM} {oi : Option Int} {envs : List α → List D} {g : GM}
end
end LI

namespace LI
open PySem L2
def k2 {α β : Type} (a : α → Key) (b : β → Key) (t : α × β) : List Key := [a t.1, b t.2]
section
variable {α β γ κ τ : Type} {a : α → Key} {b : β → Key} {c : γ → Key} {kk : κ → List Key} {e : α → D} {e' : κ → D} {o : Bool} {ρ : List D} {m ma mb : RM} {ms : AM}
end
end LI

namespace LI
open PySem L2
section
variable {X : Cx} {cl : Nat → Addr} {E : En} {pos : Pos} {x : Str}
theorem ss_never {sts : List Stmt} : PSs X sts (tS ⟨X.K, cl, X.w⟩ E (seqM noM' skipM)) := ⟨fun pins s σ H D I ⟨P, S, ρ, fl, ρ', w, hm, q⟩ => by cases hm⟩
end
end LI

namespace LI
open PySem L2
section
variable {X : Cx} {pins : List (Addr × Obj)} {σ : L2.St} {H : Hp} {s : Shared}
end
end LI

namespace LI
open PySem L2
section
variable {X : Cx} {cl : Nat → Addr} {E : En} {e a b o i : Expr} {es : List Expr} {pos p apos cpos : Pos} {m ma mb : RM} {ms : AM} {L : Lens}
end
section
variable {α β γ κ τ : Type} {kk : κ → List Key} {kq : κ → Key} {ek : κ → D} {a : α → D} {o : Bool} {ρ : List D} {m ma mb : RM}
end
end LI

namespace LI
open PySem L2
def keyQ : Key → PyData
  | .inl i => .int i
  | .inr s => .str s
mutual
def toQ : D → Option PyData
  | .int i => some (.int i)
  | .str s => some (.str ⟨s.toArray⟩)
  | .key ks => some (.tuple (ks.map keyQ))
  | .tup ds => (toQL ds).map .tuple
  | _ => none
def toQL : List D → Option (List PyData)
  | [] => some []
  | d :: ds => (toQ d).bind fun p => (toQL ds).map fun ps => p :: ps
end
mutual
/-- a value that reads as data -/
def VD (K : PySem.W.Frag) (H : Hp) : PyData → V → Prop
  | .int i, v => v = .int i
  | .str s, v => v = .str s
  | .tuple ps, v => ∃ a xs, v = .ref a ∧ SqT K H a xs ∧ VDL K H ps xs
  | _, _ => False
def VDL (K : PySem.W.Frag) (H : Hp) : List PyData → List V → Prop
  | [], xs => xs = []
  | p :: ps, xs => ∃ y ys, xs = y :: ys ∧ VD K H p y ∧ VDL K H ps ys
end
section
variable {X : Cx} {pins : List (Addr × Obj)} {σ : L2.St} {H : Hp} {s : Shared}
end
theorem VDL.len {K : PySem.W.Frag} {H : Hp} : ∀ {ps : List PyData} {xs : List V}, VDL K H ps xs → ps.length = xs.length
  | [], xs, h => by obtain rfl : xs = [] := h; rfl
  | p :: ps, xs, ⟨y, ys, e, _, h⟩ => by subst e; simp [VDL.len h]
def isTupP : PyData → Bool
  | .tuple (_ :: _) => true
  | _ => false
def isPlP : PyData → Bool
  | .tuple _ => false
  | .none => false
  | _ => true
section
variable {X : Cx} {pins : List (Addr × Obj)} {σ : L2.St} {H : Hp} {s : Shared}
end
class Sd {α : Type} (e : α → D) (p : outParam (α → PyData)) (n : outParam Nat) : Prop where
  to : ∀ x, toQ (e x) = some (p x)
  al : ∀ x y, PySem.W.alike (p x) (p y) = true
  dp : ∀ x, (p x).depth ≤ n
  ok : (∀ x, isTupP (p x) = true) ∨ ∀ x, isPlP (p x) = true
def p2 {α β : Type} (p : α → PyData) (q : β → PyData) (t : α × β) : PyData := .tuple [p t.1, q t.2]
def p3 {α β γ : Type} (p : α → PyData) (q : β → PyData) (r : γ → PyData) (t : α × β × γ) : PyData := .tuple [p t.1, q t.2.1, r t.2.2]
end LI

namespace LI
open PySem L2
section
variable {c : LC} {E : En} {P P1 : Hp} {S S1 T U1 : FP} {σ σ1 : L2.St} {H H1 : Hp} {ρ ρ1 : List D}
end
section
variable {X : Cx} {cl : Nat → Addr} {E : En} {tg : Expr} {pos p : Pos} {x : Str}
end
end LI

namespace LI
open PySem L2
section
variable {X : Cx} {cl : Nat → Addr} {E : En} {es : List Expr} {pos : Pos} {ms : AGM}
end
section
variable {X : Cx} {cl : Nat → Addr} {E : En} {o : Expr} {pos apos : Pos} {g : GM}
end
section
variable {α β σ τ : Type} {Q : Fl → List D → τ → Prop} {e : α → D} {r body : SM} {ρ : List D} {k : σ → Option τ} {f : TgM} {kl : List Nat}
end
end LI

namespace LI
open PySem L2
section
variable {X : Cx} {cl : Nat → Addr} {E : En} {tg e2 : Expr} {pos p p2 tpos : Pos} {x : Str} {elts : List Expr} {kk : Nat} {m2 : RM}
end
section
variable {α β σ τ : Type} {Q : Fl → List D → τ → Prop} {e : α → D} {e2 : β → D} {r body : SM} {ρ : List D} {k : σ → Option τ} {f : TgM} {kl : List Nat} {mb : RM}
end
end LI

namespace LI
open PySem L2
section
variable {L : Lens}
end
section
variable {X : Cx} {cl : Nat → Addr} {E : En} {a : Expr} {pos p2 : Pos} {L : Lens}
end
section
variable {X : Cx} {cl : Nat → Addr} {E : En} {e : Expr} {pos apos : Pos} {g : GM}
end
section
variable {X : Cx} {cl : Nat → Addr} {E : En} {tg : Expr} {pos p p2 p3 : Pos} {x : Str}
end
section
variable {X : Cx} {cl : Nat → Addr} {E : En} {e : Expr} {m : RM}
end
section
variable {α β σ τ : Type} {Q : Fl → List D → τ → Prop} {e : α → D} {r body : SM} {ρ : List D} {k : σ → Option τ} {f : TgM} {kl : List Nat}
end
end LI

namespace LI
open PySem L2
section
variable {X : Cx} {cl : Nat → Addr} {E : En} {pos : Pos}
end
end LI

namespace LI
open PySem L2
section
variable {X : Cx} {cl : Nat → Addr} {E : En} {e a b : Expr} {es : List Expr} {pos : Pos} {m ma mb : RM} {ms : AM}
end
end LI
namespace LI
open PySem L2
section
variable {X : Cx} {cl : Nat → Addr} {E : En} {e o i : Expr} {pos pos' : Pos} {mi : RM} {g : GM} {L : Lens}
end
section
variable {α β γ σ τ κ : Type} {Q : Fl → List D → τ → Prop} {e : α → D} {env : α → List D} {m : SM} {ρ : List D} {L : Lens} {mi : RM} {g : GM} {o : Option α}
end
end LI

namespace LI
open PySem L2
def isiCM (n : Nat) (b : Bool) (m : RM) : RM := fun ρ => (m ρ).bind fun d => match d with
  | .obj _ k _ _ => if k = n then some (.bl b) else none
  | _ => none
section
variable {X : Cx} {cl : Nat → Addr} {E : En} {a : Expr} {pos p p2 : Pos} {ma : RM}
end
@[simp] theorem ev_isiC {n : Nat} {b : Bool} {m : RM} {ρ : List D} : isiCM n b m ρ = (m ρ).bind fun d => match d with
  | .obj _ k _ _ => if k = n then some (.bl b) else none
  | _ => none := (rfl)
class Dc {α : Type} (e : α → D) (f : outParam (D → Option α)) : Prop where
  dc : ∀ d x, f d = some x → d = e x
  od : ∀ x, f (e x) = some x
def dS : D → Option Ts
  | .str s => if (s.map Char.ofNat).map Char.toNat = s then some (s.map Char.ofNat) else none
  | _ => none
def dAll {α : Type} (f : D → Option α) : List D → Option (List α)
  | [] => some []
  | d :: ds => (f d).bind fun x => (dAll f ds).bind fun xs => some (x :: xs)
theorem ofNat_toNat (c : Char) : Char.ofNat c.toNat = c := by
  apply Char.ext
  have := Char.ofNat_toNat c
  exact congrArg Char.val this
theorem ts_back (s : Ts) : (s.map Char.toNat).map Char.ofNat = s := by
  rw [List.map_map]
  conv => rhs; rw [← List.map_id s]
  exact List.map_congr_left fun c _ => ofNat_toNat c
instance : Dc eS dS where
  dc := fun d x h => by
    cases d with
    | str s =>
      unfold dS at h
      dsimp only at h
      split at h
      · rename_i q
        cases h
        unfold eS; rw [q]
      · cases h
    | _ => cases h
  od := fun x => by
    show (if _ then _ else _) = _
    rw [ts_back, if_pos rfl]
  theorem dAll_dc {α : Type} {e : α → D} {f : D → Option α} [Dc e f] : ∀ (ds : List D) (xs : List α), dAll f ds = some xs → ds = xs.map e
    | [], xs, h => by cases h; rfl
    | d :: ds, xs, h => by
      obtain ⟨x, h1, h2⟩ := ob_some h
      obtain ⟨ys, h3, h4⟩ := ob_some h2
      cases h4
      rw [Dc.dc (e := e) d x h1, dAll_dc (e := e) ds ys h3, List.map_cons]
  theorem dAll_od {α : Type} {e : α → D} {f : D → Option α} [Dc e f] : ∀ xs : List α, dAll f (xs.map e) = some xs
    | [] => rfl
    | x :: xs => by rw [List.map_cons, dAll, Dc.od (e := e), Option.bind_some, dAll_od (e := e) xs]; rfl
theorem x_dec {α : Type} {e : α → D} {f : D → Option α} [Dc e f] {m : RM} {ρ : List D} {o : Option An} (h : Ev eA m ρ o) : Ev e m ρ (o.bind fun x => f x.d) := fun z hz => by
  obtain ⟨x, h1, h2⟩ := ob_some hz
  rw [h x h1]
  show some x.d = _
  rw [Dc.dc (e := e) x.d z h2]
section
variable {X : Cx} {cl : Nat → Addr} {E : En} {e : Expr} {pos apos : Pos} {g : GM}
end
section
variable {α β σ τ : Type} {Q : Fl → List D → τ → Prop} {e : α → D} {env : α → List D} {m : SM} {ρ : List D} {L : Lens} {mi : RM} {g : GM} {o : Option α}
end
end LI

namespace LI
open PySem L2
section
variable {X : Cx} {cl : Nat → Addr} {E : En} {e o : Expr} {pos apos : Pos} {m : RM} {L : Lens}
end
section
variable {α β : Type} {ρ : List D} {L : Lens} {m : RM}
end
section
variable {α β γ δ ε ζ : Type} {a : α → D} {b : β → D} {c : γ → D} {d : δ → D} {e : ε → D} {f : ζ → D}
end
end LI

namespace LI
open PySem L2
end LI

namespace LI
open PySem L2
section
variable {X : Cx} {cl : Nat → Addr} {E : En} {e o : Expr} {pos apos : Pos} {m mo : RM}
end
section
variable {X : Cx} {cl : Nat → Addr} {E : En} {e o : Expr} {pos apos : Pos} {m mo : RM}
end
def txS (s : Ts) : Str := SX.S (s.map Char.toNat)
end LI

namespace LI
open PySem L2
section
variable {X : Cx}
end
section
variable {X : Cx} {cl : Nat → Addr} {E : En} {pos pos2 : Pos}
end
end LI

namespace LI
open PySem PySem.Spec PyProof.Rows L2

structure NOk (K : PySem.W.Frag) (H : Hp) (a : Addr) (l : List (NestedKey × Addr × V)) : Prop where
  ne : (a == sysModules) = false
  le : l.length ≤ sizeLine
  nd : (l.map (·.1)).Nodup
  at_ : ∀ p ∈ l, NkRep K H p.1 (.ref p.2.1) ∧ p.1.depth ≤ 8
def valN (l : List (NestedKey × Addr × V)) (k : NestedKey) : Option V := valV (l.map fun p => (p.1, p.2.2)) k
section
variable {X : Cx} {pins : List (Addr × Obj)} {σ : L2.St} {H : Hp} {s : Shared}
def DGetN (K : PySem.W.Frag) (w : World) (H : Hp) (a : Addr) (y : V) (r : Option V) : Prop :=
  ∃ l k b, DnAt w H a l ∧ NOk K H a l ∧ y = .ref b ∧ NkRep K H k (.ref b) ∧ k.depth ≤ 8 ∧ r = valN l k
def IsDN (K : PySem.W.Frag) (w : World) (H : Hp) (a : Addr) : Prop := ∃ l, DnAt w H a l ∧ NOk K H a l
variable {a : Addr} {y v d : V} {u r : Value} {o : Option V} {A : Around} {E : Value → Shared → Prop}
theorem DGetN.is (g : DGetN X.K X.w H a y o) : IsDN X.K X.w H a := by
  obtain ⟨l, _, _, e, ok, _⟩ := g
  exact ⟨l, e, ok⟩
end
section
variable {X : Cx} {o i e f value : Expr} {pos pos' tpos apos cpos : Pos} {td ty tv tx : TE}
end
end LI

namespace LI
open PySem PySem.Spec PyProof.Rows L2
def keyN : Key → NestedKey
  | .inl i => .num i
  | .inr x => .text x
mutual
/-- a thing as a key -/
def toNk : D → Option NestedKey
  | .non => some .none
  | .int i => some (.num i)
  | .str s => some (.text ⟨s.toArray⟩)
  | .kst ss => some (.tup (ss.map fun s => .text ⟨s.toArray⟩))
  | .key ks => some (.tup (ks.map keyN))
  | .tup ds => (toNkL ds).map .tup
  | _ => none
def toNkL : List D → Option (List NestedKey)
  | [] => some []
  | d :: ds => (toNk d).bind fun k => (toNkL ds).map fun ks => k :: ks
end
def nkT (d : D) : Option NestedKey := (toNk d).bind fun k => match k with
  | .tup ks => if (NestedKey.tup ks).depth ≤ 8 then some (.tup ks) else none
  | _ => none
section
variable {X : Cx} {cl : Nat → Addr} {E : En} {e a b o i : Expr} {es : List Expr} {pos p apos cpos : Pos} {m ma mb : RM} {ms : AM} {L : Lens}
end
class Nk {κ : Type} (e : κ → D) (f : outParam (κ → NestedKey)) : Prop where
  nk : ∀ x, nkT (e x) = some (f x)
  inj : ∀ x y, f x = f y → x = y
def n2 {α β : Type} (a : α → NestedKey) (b : β → NestedKey) (t : α × β) : NestedKey := .tup [a t.1, b t.2]
section
variable {α β γ κ τ : Type} {a : α → D} {b : β → D} {e : α → D} {ek : κ → D} {f : α → NestedKey} {g : β → NestedKey} {nk : κ → NestedKey} {i j : Nat} {o : Bool} {ρ : List D} {m ma mb : RM}
end
section
variable {X : Cx} {cl : Nat → Addr} {E : En} {e : Expr} {m : RM}
end
end LI

namespace LI
open PySem PySem.Spec PyProof.Rows L2 PySem.W

structure Sk (P : Program) (w : World) (κ : Type) [DecidableEq κ] where
  knd : KeyKind P w κ
  of : κ → Tok → Value
  key : Value → κ
  enc : κ → PyData
  vv : κ → V
  is_of : ∀ k t, knd.is k (of k t) = true
  is_iff : ∀ k j t, knd.is k (of j t) = true ↔ j = k
  scan : ∀ k t, (of k t).scannable = true
  key_of : ∀ k t, key (of k t) = k
  reads : ∀ (h : Heap) k t, Reads h (of k t) (enc k) []
  alk : ∀ k j, alike (enc k) (enc j) = true
  oth : ∀ k, enc k ≠ .none ∧ ∀ xs, enc k ≠ .tuple xs
  dep : ∀ k, (enc k).depth = 0
  rel : ∀ k t, RelV (vv k) (of k t)
  back : ∀ k u, RelV (vv k) u → ∃ t, u = of k t
  tr : ∀ a b c, dataLe false enc a b = true → dataLe false enc b c = true → dataLe false enc a c = true
  tot : ∀ a b, (dataLe false enc a b || dataLe false enc b a) = true
  anti : ∀ a b, dataLe false enc a b = true → dataLe false enc b a = true → a = b
section
variable {P : Program} {w : World} {κ : Type} [DecidableEq κ] {Z : Sk P w κ} {A : Around} {E : Value → Shared → Prop} {s : Shared} {q : Addr} {M : κ → Bool} {c : Nat}
end
end LI

namespace LI
open PySem PySem.Spec PyProof.Rows L2 PySem.W

section
variable {X : Cx} {κ : Type} [DecidableEq κ] {Z : Sk X.prog X.w κ}
end
section
variable {X : Cx} {cl : Nat → Addr} {E : En} {e : Expr} {m : RM} {pos p1 p2 pos2 : Pos}
end
end LI

namespace LI
open PySem PySem.Spec PyProof.Rows L2 PySem.W

section
variable {P : Program} {w : World} {K : PySem.W.Frag} {tg : Expr} {d : Addr} {o : Obj} {l : List (NestedKey × Addr × V)}
end
section
variable {X : Cx} {cl : Nat → Addr} {E : En} {e tg : Expr} {m : RM} {pos p : Pos}
end
section
variable {X : Cx} {pins : List (Addr × Obj)} {σ : L2.St} {H : Hp} {s : Shared}
end
end LI

namespace LI
open PySem PySem.Spec PyProof.Rows L2
section
variable {α κ : Type} {ek : κ → D} {nk : κ → NestedKey} {a : α → D} {ρ : List D} {m : RM} {o : Bool}
end
end LI

namespace LI
open PySem L2
section
variable {α β κ σ τ : Type} [DecidableEq κ] {o : Bool} {a : α → D} {ek : κ → D} {kq : κ → Key} [Ky ek kq] {ρ : List D} {L : Lens} {mi : RM} {g : GM}
end
end LI

namespace LI
open PySem PySem.Spec PyProof.Rows L2 PySem.W
section
variable {prog : Program} {w : World} {A : Around} {E : Value → Shared → Prop} {s : Shared}
end
section
variable {X : Cx} {cl : Nat → Addr} {E : En} {e : Expr} {m : RM} {pos p1 p2 kpos : Pos}
end
end LI

namespace LI
open PySem PySem.Spec PyProof.Rows L2 PySem.W
section
variable {X : Cx} {cl : Nat → Addr} {E : En} {a b : Expr} {ga gb : GM} {pos : Pos}
end
section
variable {X : Cx} {cl : Nat → Addr} {E : En} {a : Expr} {g : GM} {pos : Pos}
end
end LI

namespace LI
open PySem PySem.Spec PyProof.Rows L2 PySem.W
section
variable {P : Program} {w : World} {K : PySem.W.Frag} {mg : Str → Option Value} {base : Heap} {sp : Sp}
end
section
variable {X : Cx} {cl : Nat → Addr} {E : En} {rest : List Stmt} {ma mb : SM}
end
section
variable {X : Cx} {cl : Nat → Addr} {E : En} {k : Nat} {f : Addr} {fd : FuncData} {F : FM} {CX : CXT} {XE : XK} {x y z : Str} {p cp apos pos c0 c1 : Pos} {j0 j1 : Nat}
end
section
variable {X : Cx} {cl : Nat → Addr} {E : En} {e o : Expr} {pos apos : Pos} {m mo : RM}
end
end LI

namespace LI
open PySem L2
section
variable {X : Cx} {cl : Nat → Addr} {E : En} {pos pos2 : Pos}
end
end LI

namespace LI
open PySem PySem.Spec PyProof.Rows L2 PySem.W
section
variable {X : Cx} {cl : Nat → Addr} {E : En} {pos : Pos}
end
section
variable {X : Cx} {cl : Nat → Addr} {E : En} {e : Expr} {es : List Expr} {pos p apos px : Pos} {ms : AGM} {CX : CXT} {k : Nat} {f : Addr} {fd : FuncData} {ps : List Str} {F : FM} {XE : XK} {x nm : Str}
end
section
variable {P : Program} {w : World} {K : PySem.W.Frag} {mg : Str → Option Value} {base : Heap} {cl : Nat → Addr}
end
section
variable {X : Cx} {cl : Nat → Addr} {E : En} {e : Expr} {es : List Expr} {pos p : Pos} {ms : AM} {CX : CXT} {k : Nat} {f : Addr} {fd : FuncData} {ps : List Str} {F : FM} {XE : XK} {x : Str} {dd : List D} {dvs : List V} {us : List Value}
end
section
variable {K : PySem.W.Frag} {x qual : Str} {st : Stmt} {dvs : List V} {f : Addr} {fd : FuncData} {ps : List Str}
end
section
variable {X : Cx} {cl : Nat → Addr} {E : En} {e : Expr} {es : List Expr} {pos p : Pos} {ms : AGM} {x : Str}
end
section
variable {X : Cx} {cl : Nat → Addr} {E : En} {pos : Pos}
end
section
variable {X : Cx} {cl : Nat → Addr} {E : En} {pos p1 p2 p3 : Pos} {e : Expr} {m : RM} {k : Nat}
end
section
variable {X : Cx} {cl : Nat → Addr} {E : En} {e : Expr} {es : List Expr} {pos p : Pos} {ms : AM} {CX : CXT} {k : Nat} {f : Addr} {fd : FuncData} {ps : List Str} {F : FM} {XE : XK} {x : Str} {dd : List D} {dvs : List V}
end
section
variable {X : Cx} {cl : Nat → Addr} {E : En} {e : Expr} {es : List Expr} {pos p : Pos} {ms : AGM} {CX : CXT} {k : Nat} {f : Addr} {fd : FuncData} {ps : List Str} {F : FM} {XE : XK} {x : Str} {dd : List D} {dvs : List V}
end
section
variable {X : Cx} {cl : Nat → Addr} {E : En} {a : Expr} {pos p2 : Pos} {ma : RM}
end
section
variable {X : Cx} {cl : Nat → Addr} {E : En} {e o : Expr} {pos apos : Pos} {m mo : RM}
end
def sidxD : D → D → Option D
  | .str s, .str t => if 0 ≤ Txt.find (SX.S s) (SX.S t) then some (.int (Txt.find (SX.S s) (SX.S t))) else none
  | _, _ => none
section
variable {X : Cx} {cl : Nat → Addr} {E : En} {e o : Expr} {pos apos : Pos} {m mo : RM}
theorem f_sidx (ho : PE X o (tR ⟨X.K, cl, X.w⟩ E mo)) (he : PE X e (tR ⟨X.K, cl, X.w⟩ E m)) (hs : starEach [e] X.env = [(false, eval e X.env)] := by rfl) (hbase : attributeBase o "index" X.env (eval o X.env) = eval o X.env := by rfl) (hline : (apos.endLine == pos.line) = true := by rfl) :
    PE X (.Call (.Attribute o "index" apos) [e] [] pos) (tF ⟨X.K, cl, X.w⟩ E (m2 sidxD mo m)) := PE_imp (pe_m1 PySem.F.slot_str_index PySem.F.type_str_index mt_sindex ho he hs hbase hline) fun σ H Q ⟨P, S, T, ρ, d, w, hm, q⟩ => by
  obtain ⟨da, db, ea, eb, h⟩ := m2_split hm
  unfold sidxD at h
  split at h
  · rename_i s t
    split at h
    · rename_i h0
      cases h
      refine ⟨P, S, T, ρ, _, w, ea, fun v H1 P1 U1 g1 r1 => ⟨⟨_, r1.1⟩, P1, S, T, ρ, _, w.grow g1, eb, fun y H2 P2 U2 g2 r2 => ?_⟩⟩
      have q2 := (q.grow (g1.trans g2)).flat g2.ph ⟨rfl, rfl⟩
      unfold Txt.find at h0 q2
      cases ho : Builtin.Str.occurrences (SX.S s) (SX.S t) 0 (SX.S s).length 1 with
      | nil => rw [ho] at h0; exact absurd h0 (by decide)
      | cons k r =>
        rw [ho] at q2
        exact ⟨SX.S s, SX.S t, k, r, r1.1, by rw [r2.1], ho, q2⟩
    · cases h
  · cases h
end
def sidxT (s t : Ts) : Option Int := if 0 ≤ Txt.find (txS s) (txS t) then some (Txt.find (txS s) (txS t)) else none
theorem o2_sidx : O2 sidxD eS eS eI sidxT := fun x y z h => by
  unfold sidxT at h
  split at h
  · rename_i h0
    cases h
    show (if 0 ≤ Txt.find (txS x) (txS y) then _ else none) = _
    rw [if_pos h0]
    rfl
  · cases h
theorem sidx_at {a b : Ts} {c : Char} (ha : c ∉ a) : sidxT (a ++ c :: b) [c] = some (a.length : Int) := by
  have at_ : ∀ (s : Ts) (k : Nat), StrLaws.At (txS s) (txS [c]) (txS s).length k ↔ s[k]? = some c := fun s k => by
    have h4 := StrLaws.subAt_one (txS s) c.toNat k
    have h5 : ((s.map Char.toNat)[k]? = some c.toNat) ↔ s[k]? = some c := by
      rw [List.getElem?_map]
      cases s[k]? with
      | none => simp
      | some y => simp only [Option.map_some, Option.some.injEq]; exact ⟨fun z => Char.toNat_inj.mp z, fun z => by rw [z]⟩
    exact Iff.trans h4 h5
  have key : Txt.find (txS (a ++ c :: b)) (txS [c]) = (a.length : Int) := by
    unfold Txt.find
    rcases StrLaws.occ_head (txS (a ++ c :: b)) (txS [c]) 1 (Nat.le_refl _) with ⟨h1, h2⟩ | ⟨i, r, h1, h2, h3⟩
    · exact absurd ((at_ (a ++ c :: b) a.length).mpr (by rw [List.getElem?_append_right (Nat.le_refl _)]; simp)) (h2 _)
    · rw [h1]
      show (i : Int) = _
      have h4 := (at_ _ i).mp h2
      have h5 : ¬ a.length < i := fun hlt => h3 a.length hlt ((at_ _ _).mpr (by rw [List.getElem?_append_right (Nat.le_refl _)]; simp))
      have h6 : ¬ i < a.length := fun hlt => by
        rw [List.getElem?_append_left hlt] at h4
        exact ha (List.mem_of_getElem? h4)
      omega
  unfold sidxT
  rw [key, if_pos (by omega)]

section
variable {X : Cx} {e : Expr} {te : TE} {apos cpos pos p : Pos}
end
section
variable {X : Cx} {cl : Nat → Addr} {E : En} {e : Expr} {apos cpos pos p : Pos} {m : RM}
end
end LI

namespace LI
open PySem PySem.Spec PyProof.Rows L2 PySem.W
section
variable {X : Cx}
end
section
variable {κ α : Type} {ek : κ → D} {kk : κ → Key} {a b e' : α → D} {n : Nat}
end
section
variable {X : Cx} {cl : Nat → Addr} {E : En} {e : Expr} {es : List Expr} {pos p : Pos} {ms : AGM} {x : Str}
end
end LI

namespace LI
open PySem L2
section
variable {α : Type} {e : α → D} {m : RM} {ρ : List D} {o : Option (List α)} {w : Bool}
end
section
variable {X : Cx} {cl : Nat → Addr} {E : En} {tg a b c : Expr} {pos : Pos} {ma mb mc : RM}
end
section
variable {ρ : List D} {ma mb mc : RM}
end
end LI
namespace LRV
open PySem PySem.Spec PyProof.Rows PySem.W RT L2
section
variable {prog : Program} {w : World} {A : Around} {E : Value → Shared → Prop} {s : Shared}
end
section
variable {X : Cx}
end
end LRV
namespace LI
open PySem L2
section
variable {X : Cx} {cl : Nat → Addr} {E : En} {pos p p2 pos2 : Pos} {e : Expr} {m : RM}
end
end LI
namespace LI
open PySem L2
def PeA (a : An) : Prop := ∃ p, toP a.d = some p ∧ p.canLay0 = true ∧ p.depth ≤ 20 ∧ p.eqv p = true
theorem PeA.mk {α : Type} [DecidableEq α] {e : α → D} {n : Nat} [Pe e n] (hn : n ≤ 20) {a : An} {x : α} (h : a.d = e x) : PeA a :=
  ⟨Pe.p e x, by rw [h]; exact Pe.to (e := e) x, Pe.lay (e := e) x, Nat.le_trans (Pe.dep (e := e) x) hn, by rw [Pe.eq (e := e)]⟩
end LI

namespace LI
open PySem L2
section
variable {X : Cx} {cl : Nat → Addr} {E : En} {e o f0 : Expr} {apos cpos : Pos} {ma mb mc : RM}
end
end LI
namespace LI
open PySem L2
end LI

namespace LI
open PySem L2
section
variable {c : LC} {E : En} {P : Hp} {S T : FP} {σ : L2.St} {H : Hp} {ρ : List D}
end
end LI
namespace LI
open PySem L2
section
variable {X : Cx} {cl : Nat → Addr} {E : En} {pos : Pos}
end
section
variable {X : Cx} {cl : Nat → Addr} {E : En} {tg : Expr} {pos p : Pos} {x : Str}
end
section
variable {α σ τ : Type} {Q : Fl → List D → τ → Prop} {e : α → D} {r body : SM} {ρ : List D} {k : List α × σ → Option τ} {kl : List Nat}
end
end LI

namespace LI
open PySem L2
section
variable {X : Cx} {cl : Nat → Addr} {E : En} {pos apos : Pos} {o e : Expr} {g : GM} {m : RM}
end
section
variable {α β σ τ υ : Type} {Q : Fl → List D → υ → Prop} {e : α → D} {m body : SM} {ρ : List D} {f : TgM} {kl : List Nat} {ev : τ → D} {env : τ → List D} {g : GM} {o : Option τ}
end
end LI

namespace LI
open PySem PySem.Spec PyProof.Rows L2
section
variable {X : Cx} {pins : List (Addr × Obj)} {σ : L2.St} {H : Hp} {s : Shared}
variable {a : Addr} {y z d : V} {u r : Value} {A : Around} {E : Value → Shared → Prop}
end
section
variable {X : Cx} {o e f : Expr} {td ty tx : TE} {apos cpos : Pos}
end
section
variable {c : LC} {E : En} {P H : Hp} {S T : FP} {σ : L2.St} {ρ : List D} {L : Lens} {v : V} {d : D} {Sd R : FP}
end
section
variable {X : Cx} {cl : Nat → Addr} {E : En} {o i e : Expr} {p0 p1 p2 p3 p4 : Pos} {mi mx : RM} {L : Lens}
end
end LI
namespace LI
open PySem L2
section
variable {α β κ σ τ : Type} [DecidableEq κ] {o : Bool} {a : α → D} {ek : κ → D} {nk : κ → NestedKey} [Nk ek nk] {ρ : List D} {L : Lens} {mi : RM} {g : GM}
end
end LI
namespace LI
open PySem L2
end LI
namespace LI
open PySem L2
end LI

namespace LI
open PySem L2

@[simp] theorem foldT_nil {σ α : Type} {g : σ → α → Option σ} {s : σ} : foldT g [] s = some s := (rfl)
@[simp] theorem foldT_cons {σ α : Type} {g : σ → α → Option σ} {s : σ} {x : α} {xs : List α} : foldT g (x :: xs) s = (g s x).bind fun s => foldT g xs s := (rfl)
@[simp] theorem forT_nil {σ α τ : Type} {g : σ → α → Option (St σ τ)} {s : σ} : forT g [] s = some (.inl s) := (rfl)
theorem forT_cons {σ α τ : Type} {g : σ → α → Option (St σ τ)} {s : σ} {x : α} {xs : List α} : forT g (x :: xs) s = (g s x).bind fun u => match u with
    | .nx s => forT g xs s
    | .bk s => some (.inl s)
    | .rt t => some (.inr t) := (rfl)
@[simp] theorem seqT_inl {σ τ : Type} {s : σ} {k : σ → Option τ} : seqT (.inl s) k = k s := (rfl)
@[simp] theorem seqT_inr {σ τ : Type} {t : τ} {k : σ → Option τ} : seqT (.inr t) k = some t := (rfl)
theorem foldT_inv {σ α : Type} {g : σ → α → Option σ} (P : σ → Prop) : ∀ (xs : List α) (s : σ), P s → (∀ s x, P s → x ∈ xs → ∃ s', g s x = some s' ∧ P s') → ∃ s', foldT g xs s = some s' ∧ P s'
  | [], s, h, _ => ⟨s, rfl, h⟩
  | x :: xs, s, h, k => by
    obtain ⟨s1, h1, h2⟩ := k s x h (by simp)
    obtain ⟨s2, h3, h4⟩ := foldT_inv P xs s1 h2 fun s y hs hy => k s y hs (by simp [hy])
    exact ⟨s2, by rw [foldT_cons, h1]; exact h3, h4⟩
theorem forT_inv {σ α τ : Type} {g : σ → α → Option (St σ τ)} (P : σ → Prop) : ∀ (xs : List α) (s : σ), P s → (∀ s x, P s → x ∈ xs → ∃ s', g s x = some (.nx s') ∧ P s') → ∃ s', forT g xs s = some (.inl s') ∧ P s'
  | [], s, h, _ => ⟨s, rfl, h⟩
  | x :: xs, s, h, k => by
    obtain ⟨s1, h1, h2⟩ := k s x h (by simp)
    obtain ⟨s2, h3, h4⟩ := forT_inv P xs s1 h2 fun s y hs hy => k s y hs (by simp [hy])
    exact ⟨s2, by rw [forT_cons, h1]; exact h3, h4⟩
theorem forT_unit {α τ : Type} {g : Unit → α → Option (St Unit τ)} (xs : List α) (k : ∀ x, x ∈ xs → g () x = some (.nx ())) : forT g xs () = some (.inl ()) := by
  obtain ⟨s, h, _⟩ := forT_inv (fun _ => True) xs () trivial fun s x _ hx => ⟨(), k x hx, trivial⟩
  exact h
theorem whileT_succ {σ : Type} {p : σ → Option Bool} {g : σ → Option σ} {n : Nat} {s : σ} : whileT p g (n + 1) s = (p s).bind fun k => if k = true then (g s).bind fun s => whileT p g n s else some s := rfl
theorem whileT_inv {σ : Type} {p : σ → Option Bool} {g : σ → Option σ} (P : σ → Prop) (μ : σ → Nat) (E : σ → Prop) (h : ∀ s, P s → (p s = some false ∧ E s) ∨ (p s = some true ∧ ∃ s', g s = some s' ∧ P s' ∧ μ s' < μ s)) : ∀ (n : Nat) (s : σ), P s → μ s < n → ∃ s', whileT p g n s = some s' ∧ P s' ∧ E s'
  | 0, s, _, hm => absurd hm (Nat.not_lt_zero _)
  | n + 1, s, hp, hm => by
    rcases h s hp with ⟨h1, h2⟩ | ⟨h1, s1, h2, h3, h4⟩
    · exact ⟨s, by rw [whileT_succ, h1]; rfl, hp, h2⟩
    · obtain ⟨s2, k1, k2⟩ := whileT_inv P μ E h n s1 h3 (by omega)
      exact ⟨s2, by rw [whileT_succ, h1, Option.bind_some, if_pos rfl, h2]; exact k1, k2⟩
theorem compG_ex {α β : Type} {g : α → Option β} {P : α → β → Prop} : ∀ {xs : List α}, (∀ x ∈ xs, ∃ y, g x = some y ∧ P x y) → ∃ ys, compG (fun _ => some true) g xs = some ys ∧ ys.length = xs.length ∧ ∀ y ∈ ys, ∃ x ∈ xs, P x y
  | [], _ => ⟨[], rfl, rfl, by simp⟩
  | x :: xs, h => by
    obtain ⟨y, h1, h2⟩ := h x (by simp)
    obtain ⟨ys, h3, h4, h5⟩ := compG_ex (xs := xs) fun z hz => h z (by simp [hz])
    refine ⟨y :: ys, by simp [compG, h1, h3], by simp [h4], ?_⟩
    intro z hz
    rcases List.mem_cons.mp hz with rfl | hz
    · exact ⟨x, by simp, h2⟩
    · obtain ⟨w, h6, h7⟩ := h5 z hz
      exact ⟨w, by simp [h6], h7⟩
theorem compT_ex {α β : Type} {g : α → Option β} {P : α → β → Prop} {xs : List α} (hl : xs.length ≤ LIM) (h : ∀ x ∈ xs, ∃ y, g x = some y ∧ P x y) : ∃ ys, compT (fun _ => some true) g xs = some ys ∧ ys.length = xs.length ∧ ∀ y ∈ ys, ∃ x ∈ xs, P x y := by
  unfold compT; rw [if_pos hl]; exact compG_ex h
theorem lenS_ok {s : Ts} (h : s.length ≤ LIM) : lenS s = some (s.length : Int) := if_pos h
theorem catS_ok {s t : Ts} (h : s.length + t.length ≤ LIM) : catS s t = some (s ++ t) := if_pos h
theorem catL_ok {α : Type} {s t : List α} (h : s.length + t.length ≤ LIM) : catL s t = some (s ++ t) := if_pos h
theorem appT_ok {α : Type} {s : List α} {x : α} (h : s.length < LIM) : appT s x = some (s ++ [x]) := if_pos h
theorem slS_ok {s : Ts} {lo hi : Option Int} (h : s.length ≤ LIM) : slS lo hi s = some (cutL s lo hi) := if_pos h
theorem rngT_ok {n : Int} (h1 : -1000000000000 ≤ n) (h2 : n ≤ 1000000000000) : rngT n = some ((List.range n.toNat).map fun (k : Nat) => (k : Int)) := if_pos ⟨by omega, by omega⟩
theorem mulT_ok {a b : Int} (h1 : -1000000000000000000 ≤ a) (h2 : a ≤ 1000000000000000000) : mulT a b = some (a * b) := if_pos (.inl ⟨by omega, by omega⟩)
theorem modT_ok {a b : Int} (h : 0 < b) : modT a b = some (a % b) := if_pos h
theorem atI_ok {α : Type} {xs : List α} {i : Int} (h0 : 0 ≤ i) (h1 : i < (xs.length : Int)) : ∃ x ∈ xs, atI xs i = some x :=
  have : i.toNat < xs.length := by omega
  ⟨_, List.getElem_mem this, atI_at h0 this⟩
theorem ixS_mem {s : Ts} {i : Int} (h : s.length ≤ LIM) (h0 : 0 ≤ i) (h1 : i < (s.length : Int)) : ∃ c ∈ s, ixS s i = some [c] := by
  obtain ⟨c, h2, h3⟩ := atI_ok h0 h1
  exact ⟨c, h2, by unfold ixS; rw [if_pos h, h3]; rfl⟩
@[simp] theorem inS_1 {c : Char} {z : Ts} : inS [c] z = some (decide (c ∈ z)) := (rfl)
theorem mod_in (c n : Int) (hn : 0 < n) : 0 ≤ c % n ∧ c % n < n := ⟨Int.emod_nonneg _ (by omega), Int.emod_lt_of_pos _ hn⟩
theorem cut_nat {α : Type} {xs : List α} {a b : Nat} : cutL xs (some (a : Int)) (some (b : Int)) = (xs.take b).drop a := by
  rw [cut_fromto (by omega) (by omega)]
  simp [List.drop_take]
end LI

namespace LI
open PySem L2
end LI

namespace LI
open PySem L2 PyProof.Rows
theorem takesN0 {X : Cx} : L2N.Takes X (fun _ _ _ _ => False) := fun _ _ q => by
  obtain ⟨_, _, _, _, _, _, _, _, _, _, _, _, _, _, _, _, z⟩ := q
  cases z
section
variable {P : Program} {w : World} {K : PySem.W.Frag} {mg : Str → Option Value} {base : Heap} {sp : Sp}
theorem okXN {x qual : Str} {st : Stmt} {f : Addr} {fd : FuncData} {N ps : List Str} {k : Nat} (F : Fun K x qual st f fd) (S : FnScope N ps (defScope st))
    (len : ∀ vs H Q E, sp vs H Q E → vs.length = ps.length)
    (hb : ∀ (cdv : Value) (A : Around) (outer : List Env) (s : Shared) (H : Hp) (vs : List V) (Q : VK) (E : XK), Room k (A.deeper (envOfC qual (defScope st) s.heap.objs.size f cdv)) → sp vs H Q E →
      ∃ t, PSs (cxOf (L2N.CX P w) P w K mg base N qual (defScope st) f cdv A outer s H E) (defBody st) t ∧ t { nx := fun _ H' => Q .non H', rt := Q } (L2.start N vs) H) :
    FnOk P w K mg base (L2N.CX P w) (k + 1) f fd ps sp := by
  obtain ⟨_, _, _, _, _, _, cdv, _, _, e0, lk, hcd⟩ := F.ex
  subst e0
  exact fn_of lk hcd S len fun A outer s H vs Q E hr h => hb cdv A outer s H vs Q E hr h
end
abbrev FX := List D → Option ((D × List D) ⊕ (Nat × List Str × List D × List D))
def XE0 (c : LC) (E : XK) (n : Nat) (fs : List Str) (vs : List V) (H' : Hp) : Prop :=
  (fs = [] → E (.ref (c.cl n)) none H') ∧ (fs ≠ [] → ∀ dd, H' dd = none → E (.ref (c.cl n)) (some dd) (upd H' dd (.xd (fs.zip vs))))
def spXr (c : LC) (P : Hp) (S : FP) (H : Hp) (vs : List V) (Q : VK) (E : XK) : (D × List D) ⊕ (Nat × List Str × List D × List D) → Prop
  | .inl (d, ds') => ∀ v H' P' U S', Stp P S H P' (fa U S') H' → Rep c P' H' d v U → RepL c P' H' ds' vs S' → Q v H'
  | .inr (n, fs, es, ds') => ∀ us H' P' S', Stp P S H P' S' H' → RepL c P' H' es us fz → RepL c P' H' ds' vs S' → XE0 c E n fs us H'
def spX (c : LC) (F : FX) : Sp := fun vs H Q E => ∃ P S ds r, RepL c P H ds vs S ∧ Ex P H ∧ (∀ a, S a ≤ 1) ∧ (∀ a, 0 < S a → P a = none) ∧ F ds = some r ∧ spXr c P S H vs Q E r
def runX (n : Nat) (kp : List Bool) (m : SM) : FX := fun ds => if ds.length = kp.length then (m (ds ++ List.replicate (n - ds.length) .gone)).bind fun r => match r.1 with
  | .rt d => some (.inl (d, maskL kp r.2))
  | .nx => some (.inl (.non, maskL kp r.2))
  | .ex k fs es => some (.inr (k, fs, es, maskL kp r.2))
  | _ => none
  else none
section
variable {P : Program} {w : World} {K : PySem.W.Frag} {mg : Str → Option Value} {base : Heap} {cl : Nat → Addr}
theorem ok_defX {x qual : Str} {st : Stmt} {f : Addr} {fd : FuncData} {N ps : List Str} {k : Nat} {kp : List Bool} {m : SM} (F : Fun K x qual st f fd) (S : FnScope N ps (defScope st)) (hk : kp.length = ps.length)
    (hbody : ∀ (cdv : Value) (A : Around) (outer : List Env) (s : Shared) (H : Hp) (E : XK) (e : En), e.kp = kp → (e.xw = fun cls d _ H' => E cls d H') → Room k (A.deeper (envOfC qual (defScope st) s.heap.objs.size f cdv)) →
      PSs (cxOf (L2N.CX P w) P w K mg base N qual (defScope st) f cdv A outer s H E) (defBody st) (tS ⟨K, cl, w⟩ e m)) : FnOk P w K mg base (L2N.CX P w) (k + 1) f fd ps (spX ⟨K, cl, w⟩ (runX N.length kp m)) := by
  refine okXN F S (fun vs H Q E h => ?_) (fun cdv A outer s H vs Q E hr h => ?_)
  · obtain ⟨Pp, Sp, ds, r0, r, _, _, _, hm, _⟩ := h
    unfold runX at hm
    split at hm
    · rename_i hl
      rw [← r.length, hl, hk]
    · cases hm
  · obtain ⟨Pp, Sp, ds, r0, r, e1, e2, e3, hm, q⟩ := h
    unfold runX at hm
    split at hm
    · rename_i hl
      have hlv : vs.length = kp.length := by rw [← r.length, hl]
      have hvs : ∀ i : Nat, kp[i]? = some true → ∃ v, vs[i]? = some v := fun i hi => by
        have hi' : i < kp.length := (List.getElem?_eq_some_iff.mp hi).1
        exact ⟨_, List.getElem?_eq_getElem (by omega)⟩
      refine ⟨_, hbody cdv A outer s H E ⟨Pp, H, Sp, kp, vs, hvs, fun cls d _ H' => E cls d H'⟩ rfl rfl hr, ?_⟩
      cases em : m (ds ++ List.replicate (N.length - ds.length) .gone) with
      | none => rw [em] at hm; cases hm
      | some rr =>
        obtain ⟨fl, ρ'⟩ := rr
        rw [em, Option.bind_some] at hm
        have w0 : Wd ⟨K, cl, w⟩ ⟨Pp, H, Sp, kp, vs, hvs, fun cls d _ H' => E cls d H'⟩ Pp Sp fz (L2.start N vs) H (ds ++ List.replicate (N.length - ds.length) .gone) := by
          refine ⟨?_, fun a => by have := e2 a; simp only [fz]; omega, fun a h => e3 a (by simpa [fz] using h), fun a h => by simp [fz] at h, e1, .refl _, fun _ _ _ h => h, fun a h => .inl h, fun a h => .inl (by simpa [fz] using h), fun i v h1 h2 => ?_⟩
          · unfold L2.start
            rw [r.length]
            exact repE_start _ r
          · unfold L2.start
            have h2 : vs[i]? = some v := h2
            rw [List.getElem?_append_left (by rw [List.length_map]; exact (List.getElem?_eq_some_iff.mp h2).1), List.getElem?_map, h2]
            rfl
        have fin : ∀ (v : V) (σ' : L2.St) (H' P' : Hp) (S' U : FP) (d1 : D), Wd ⟨K, cl, w⟩ ⟨Pp, H, Sp, kp, vs, hvs, fun cls d _ H' => E cls d H'⟩ P' S' U σ' H' ρ' → Rep ⟨K, cl, w⟩ P' H' d1 v U → some (Sum.inl (d1, maskL kp ρ') : (D × List D) ⊕ (Nat × List Str × List D × List D)) = some r0 → Q v H' := by
          intro v σ' H' P' S' U d1 w' rd hs
          cases hs
          obtain ⟨S2, k1, k2⟩ := mask_rep (kp := kp) (vs := vs) w'.env hlv.symm w'.kp
          exact q v H' P' U S2 ⟨w'.p0, w'.ph, w'.fr, w'.np, fun a h => w'.ns a (by have := k2 a; simp only [fa] at h; omega), fun a => by have := k2 a; have := w'.le a; simp only [fa]; omega, fun a h => w'.out a (by have := k2 a; simp only [fa] at h; omega)⟩ rd k1
        refine ⟨Pp, Sp, _, fl, ρ', w0, em, ?_⟩
        cases fl with
        | nx => exact fun σ' H' P' S' w' _ => fin .non σ' H' P' S' fz .non w' ⟨rfl, rfl⟩ hm
        | rt d1 => exact fun v σ' H' P' S' U w' r => fin v σ' H' P' S' U d1 w' r hm
        | bk => cases hm
        | ct => cases hm
        | ex n fs es =>
          cases hm
          intro us σ' H' P' S' U w' _ re
          obtain ⟨S2, k1, k2⟩ := mask_rep (kp := kp) (vs := vs) w'.env hlv.symm w'.kp
          exact q us H' P' S2 ⟨w'.p0, w'.ph, w'.fr, w'.np, fun a h => w'.ns a (by have := k2 a; omega), fun a => by have := k2 a; have := w'.le a; omega, fun a h => w'.out a (by have := k2 a; omega)⟩ re k1
    · cases hm
end
section
variable {X : Cx} {cl : Nat → Addr} {E : En} {e a b o : Expr} {es : List Expr} {pos p apos : Pos}
abbrev XGM := List D → Option ((D × List D) ⊕ (Nat × List Str × List D × List D))
def tXr (c : LC) (E : En) (P : Hp) (σ : L2.St) (Q : VK) : (D × List D) ⊕ (Nat × List Str × List D × List D) → Prop
  | .inl (d, ρ') => ∀ v H' P' S' U, Wd c E P' S' U σ H' ρ' → Ex P P' → Rep c P' H' d v U → Q v H'
  | .inr (n, fs, es, ρ') => ∀ us H' P' S', Wd c E P' S' fz σ H' ρ' → Ex P P' → RepL c P' H' es us fz → XE1 c E.xw n fs us σ H'
def tX (c : LC) (E : En) (g : XGM) : TE := fun σ H Q => ∃ P S ρ r, Wd c E P S fz σ H ρ ∧ g ρ = some r ∧ tXr c E P σ Q r
def exprX (g : XGM) : SM := fun ρ => (g ρ).bind fun r => match r with
  | .inl (_, ρ') => some (.nx, ρ')
  | .inr (n, fs, es, ρ') => some (.ex n fs es, ρ')
theorem s_exprX {g : XGM} (he : PE X e (tX ⟨X.K, cl, X.w⟩ E g)) (hs : swapsWith e none pos.line X.env = pure false := by rfl) : PS X (.Expr e pos) (tS ⟨X.K, cl, X.w⟩ E (exprX g)) := PS_imp (ps_expr he hs) fun D σ H ⟨P, S, ρ, fl, ρ', w, hm, q⟩ => by
  unfold exprX at hm
  cases eg : g ρ with
  | none => rw [eg] at hm; cases hm
  | some r =>
    rw [eg, Option.bind_some] at hm
    refine ⟨P, S, ρ, r, w, eg, ?_⟩
    cases r with
    | inl r => cases hm; exact fun v H' P' S' U w' e rd => q σ H' P' S' (Wd.drop (T := fz) (U := U) (by rw [fz_fa]; exact w')) e
    | inr r => cases hm; exact fun us H' P' S' w' x re => q us σ H' P' S' fz w' x re
def retX (g : XGM) : SM := fun ρ => (g ρ).bind fun r => match r with
  | .inl (d, ρ') => some (.rt d, ρ')
  | .inr (n, fs, es, ρ') => some (.ex n fs es, ρ')
theorem s_retX {g : XGM} (he : PE X e (tX ⟨X.K, cl, X.w⟩ E g)) : PS X (.Return (some e) pos) (tS ⟨X.K, cl, X.w⟩ E (retX g)) := PS_imp (ps_ret he) fun D σ H ⟨P, S, ρ, fl, ρ', w, hm, q⟩ => by
  unfold retX at hm
  cases eg : g ρ with
  | none => rw [eg] at hm; cases hm
  | some r =>
    rw [eg, Option.bind_some] at hm
    refine ⟨P, S, ρ, r, w, eg, ?_⟩
    cases r with
    | inl r => cases hm; exact fun v H' P' S' U w' e rd => q v σ H' P' S' U w' rd
    | inr r => cases hm; exact fun us H' P' S' w' x re => q us σ H' P' S' fz w' x re
def setX (i : Nat) (g : XGM) : SM := fun ρ => (g ρ).bind fun r => match r with
  | .inl (d, ρ') => some (.nx, ρ'.set i d)
  | .inr (n, fs, es, ρ') => some (.ex n fs es, ρ')
theorem s_setX (i : Nat) {x : Str} {pos' : Pos} {g : XGM} (hN : X.N.Nodup) (hi : X.N[i]? = some x) (hx : L2.Loc X.env.scope x) (hk : E.kp[i]? ≠ some true) (he : PE X e (tX ⟨X.K, cl, X.w⟩ E g)) (hs : swapsWith e (some (.Name x pos')) pos.line X.env = pure false := by rfl) (hf : X.fn x = true ∨ X.env.scope.names.lookup x = some .local := by first | exact .inl rfl | exact .inr rfl | assumption) :
    PS X (.Assign [.Name x pos'] e pos) (tS ⟨X.K, cl, X.w⟩ E (setX i g)) := PS_imp (ps_set hN hi hx he hs hf) fun D σ H ⟨P, S, ρ, fl, ρ', w, hm, q⟩ => by
  unfold setX at hm
  cases eg : g ρ with
  | none => rw [eg] at hm; cases hm
  | some r =>
    rw [eg, Option.bind_some] at hm
    refine ⟨P, S, ρ, r, w, eg, ?_⟩
    cases r with
    | inl r =>
      cases hm
      intro v H' P' S' U w' e rd
      obtain ⟨S2, w2⟩ := (show Wd ⟨X.K, cl, X.w⟩ E P' S' (fa fz U) σ H' r.2 by rw [fz_fa]; exact w').store rd i hk
      exact q _ H' P' S2 w2 e
    | inr r => cases hm; exact fun us H' P' S' w' x re => q us σ H' P' S' fz w' x re
def callX (F : FX) (ms : AM) : XGM := fun ρ => (ms ρ).bind fun ds => if frzL ds = true then (F (iceL ds)).bind fun r => match r with
  | .inl (d, _) => some (.inl (d, ρ))
  | .inr (n, fs, es, _) => some (.inr (n, fs, es, ρ))
  else none
theorem spX_frz {c : LC} {E : En} {F : FX} {P H P1 H1 : Hp} {S : FP} {σ : L2.St} {ρ : List D} {ds : List D} {vs : List V} {U1 : FP} {r : (D × List D) ⊕ (Nat × List Str × List D × List D)} {Q : VK} (w : Wd c E P S fz σ H ρ) (g1 : Gr P H P1 H1) (r1 : RepL c P1 H1 ds vs U1) (hz : frzL ds = true) (hf : F (iceL ds) = some r)
    (q : tXr c E P σ Q (match r with | .inl (d, _) => .inl (d, ρ) | .inr (n, fs, es, _) => .inr (n, fs, es, ρ))) : spX c F vs H1 Q (WE E.xw σ) := by
  have hU := RepL.frz0 ds vs U1 hz r1
  subst hU
  refine ⟨P1, fz, iceL ds, r, RepL.ice (.refl P1) ds vs fz (fun a o h1 _ => by simp [fz] at h1) r1, g1.ph, fun _ => Nat.zero_le _, fun a h => by simp [fz] at h, hf, ?_⟩
  have gr : ∀ {P' H' : Hp} {T : FP}, Stp P1 fz H1 P' T H' → Gr P1 H1 P' H' := fun st => ⟨st.p0, fun a o h => st.fr a o rfl h, st.ph, fun a h => by rcases st.np a h with z | z | z <;> first | exact .inl z | (simp [fz] at z; done) | exact .inr z⟩
  cases r with
  | inl r =>
    intro v H' P' U S' st rd rs
    have w2 := (w.grow g1).aside (gr st) (U := U) (fun a => by have := st.le a; simp only [fa] at this; omega) (fun a h => ⟨by
      rcases st.ns a (by simp only [fa]; omega) with z | z
      · simp [fz] at z
      · exact z, st.out a (by simp only [fa]; omega)⟩) (Rep.there _ v U rd)
    rw [fz_fa] at w2
    exact q v H' P' S U w2 (g1.p.trans st.p0) rd
  | inr r =>
    intro us H' P' S' st re rs
    exact q us H' P' S ((w.grow g1).grow (gr st)) (g1.p.trans st.p0) re
theorem f_callX {k : Nat} {f : Addr} {fd : FuncData} {ps : List Str} {F : FX} {x : Str} {ms : AM} (G : FnOk X.prog X.w X.K X.mg X.base (L2N.CX X.prog X.w) k f fd ps (spX ⟨X.K, cl, X.w⟩ F)) (hr : Room k X.A) (hg : Gl X x) (hm : X.mg x = some (.ref f)) (hk : PySem.W.keepIn X.K (.ref f) = true) (hb : Binds X.K fd ps []) (tk : L2N.Takes X E.xw)
    (ha : PA X (e :: es) (tAR ⟨X.K, cl, X.w⟩ E ms)) (hdb : (x == ("__debug__" : Str)) = false := by decide) (he : starEach (e :: es) X.env = (false, eval e X.env) :: starEach es X.env := by rfl) (hpl : (backTo pos (starEach es X.env)).any (·.1) = false := by rfl) :
    PE X (.Call (.Name x p) (e :: es) [] pos) (tX ⟨X.K, cl, X.w⟩ E (callX F ms)) := PE_imp (pe_callS G hr hg hm hk hb (fun σ => L2N.passAt tk σ) ha hdb he hpl) fun σ H Q ⟨P, S, ρ, r, w, h, q⟩ => by
  unfold callX at h
  cases e1 : ms ρ with
  | none => rw [e1] at h; cases h
  | some ds =>
    rw [e1, Option.bind_some] at h
    split at h
    · rename_i hz
      cases e2 : F (iceL ds) with
      | none => rw [e2] at h; cases h
      | some r2 =>
        rw [e2, Option.bind_some] at h
        refine ⟨P, S, fz, ρ, ds, w, e1, fun vs H1 P1 U1 g1 r1 => ?_⟩
        refine spX_frz w g1 r1 hz e2 ?_
        cases r2 <;> (cases h; exact q)
    · cases h
end
end LI

namespace LI
open PySem L2 PyProof.Rows
def kpAt (kp : List Bool) (i : Nat) : List Bool := (kp ++ List.replicate (i + 1 - kp.length) false).set i true
def vsAt (vs : List V) (i : Nat) (a : Addr) : List V := (vs ++ List.replicate (i + 1 - vs.length) V.non).set i (.ref a)
theorem kpAt_ne {kp : List Bool} {i j : Nat} (h : j ≠ i) (q : (kpAt kp i)[j]? = some true) : kp[j]? = some true := by
  unfold kpAt at q
  rw [List.getElem?_set_ne (Ne.symm h)] at q
  rcases Nat.lt_or_ge j kp.length with z | z
  · rwa [List.getElem?_append_left z] at q
  · rw [List.getElem?_append_right z, List.getElem?_replicate] at q
    split at q <;> cases q
theorem vsAt_self {vs : List V} {i : Nat} {a : Addr} : (vsAt vs i a)[i]? = some (.ref a) := by
  unfold vsAt
  rw [List.getElem?_set_self (by rw [List.length_append, List.length_replicate]; omega)]
theorem vsAt_ne {vs : List V} {i j : Nat} {a : Addr} {v : V} (h : j ≠ i) (q : vs[j]? = some v) : (vsAt vs i a)[j]? = some v := by
  unfold vsAt
  have hj := (List.getElem?_eq_some_iff.mp q).1
  rw [List.getElem?_set_ne (Ne.symm h), List.getElem?_append_left hj, q]
def enH (E : En) (P0 : Hp) (i : Nat) (a : Addr) : En := ⟨P0, E.H0, E.S0, kpAt E.kp i, vsAt E.vs i a, fun j h => by
  by_cases q : j = i
  · subst q; exact ⟨_, vsAt_self⟩
  · obtain ⟨v, hv⟩ := E.hv j (kpAt_ne q h)
    exact ⟨v, vsAt_ne q hv⟩, fun _ _ _ _ => False⟩
theorem Wd.wish {c : LC} {E : En} {P : Hp} {S T : FP} {σ : L2.St} {H : Hp} {ρ : List D} (w : Wd c E P S T σ H ρ) (W : WX) : Wd c { E with xw := W } P S T σ H ρ := ⟨w.env, w.le, w.out, w.th, w.ph, w.p0, w.fr, w.np, w.ns, w.kp⟩
theorem Wd.unwish {c : LC} {E : En} {P : Hp} {S T : FP} {σ : L2.St} {H : Hp} {ρ : List D} {W : WX} (w : Wd c { E with xw := W } P S T σ H ρ) : Wd c E P S T σ H ρ := ⟨w.env, w.le, w.out, w.th, w.ph, w.p0, w.fr, w.np, w.ns, w.kp⟩
theorem Wd.toSuite {c : LC} {E : En} {P : Hp} {S T : FP} {σ : L2.St} {H : Hp} {ρ : List D} (w : Wd c E P S T σ H ρ) (i : Nat) (a : Addr) (hi : i < σ.length) : ∃ S', Wd c (enH E P i a) P S' fz (σ.set i (some (.ref a))) H (ρ.set i .gone) := by
  obtain ⟨S', h1, h2⟩ := RepE.set (c := c) (P := P) (H := H) (d := .gone) (v := .ref a) (U := fz) rfl i w.env
  refine ⟨S', h1, fun x => by have := h2 x; have := w.le x; simp only [fz] at *; omega, fun x h => w.out x (by have := h2 x; simp only [fz] at *; omega), fun x h => by simp [fz] at h, w.ph, .refl _, w.fr, fun x h => .inl h, fun x h => w.ns x (by have := h2 x; simp only [fz] at *; omega), fun j v k1 k2 => ?_⟩
  by_cases q : j = i
  · subst q
    have k2 : (vsAt E.vs j a)[j]? = some v := k2
    rw [vsAt_self] at k2
    cases k2
    rw [List.getElem?_set_self hi]
  · have k3 := kpAt_ne q k1
    obtain ⟨u, hu⟩ := E.hv j k3
    have k2 : (vsAt E.vs i a)[j]? = some v := k2
    rw [vsAt_ne q hu] at k2
    cases k2
    rw [List.getElem?_set_ne (Ne.symm q)]
    exact w.kp j _ k3 hu
theorem RepE.unset {c : LC} {P H : Hp} : ∀ {ρ : List D} {σ : L2.St} {S : FP} (i : Nat), RepE c P H ρ σ S → ∃ S', RepE c P H (ρ.set i .gone) (σ.set i none) S' ∧ ∀ a, S' a ≤ S a
  | [], [], S, i, h => ⟨S, h, fun _ => Nat.le_refl _⟩
  | d0 :: ρ, v0 :: σ, S, 0, ⟨T, T2, h1, h2, f⟩ => ⟨fa fz T2, ⟨fz, T2, ⟨rfl, rfl⟩, h2, rfl⟩, fun a => by rw [f]; simp only [fa, fz]; omega⟩
  | d0 :: ρ, v0 :: σ, S, i + 1, ⟨T, T2, h1, h2, f⟩ => by
    obtain ⟨S', k1, k2⟩ := RepE.unset i h2
    exact ⟨fa T S', ⟨T, S', h1, k1, rfl⟩, fun a => by have := k2 a; rw [f]; simp only [fa]; omega⟩
  | [], _ :: _, _, _, h => h.elim
  | _ :: _, [], _, _, h => h.elim
theorem Wd.fromSuite {c : LC} {E : En} {P0 P3 H0 H3 : Hp} {S0 T0 S T : FP} {σ0 σ : L2.St} {ρ0 ρ : List D} {i : Nat} {a : Addr} (w0 : Wd c E P0 S0 T0 σ0 H0 ρ0) (hk : E.kp[i]? ≠ some true) (w : Wd c (enH E P0 i a) P3 S T σ H3 ρ) : ∃ S', Wd c E P3 S' T (σ.set i none) H3 (ρ.set i .gone) := by
  obtain ⟨S', h1, h2⟩ := RepE.unset i w.env
  refine ⟨S', h1, fun x => by have := h2 x; have := w.le x; omega, fun x h => w.out x (by have := h2 x; omega), w.th, w.ph, w0.p0.trans w.p0, w.fr, fun x h => ?_, fun x h => w.ns x (by have := h2 x; omega), fun j v k1 k2 => ?_⟩
  · rcases w.np x h with z | z | z
    · exact w0.np x z
    · exact .inr (.inl z)
    · exact .inr (.inr z)
  · have q : j ≠ i := fun z => hk (z ▸ k1)
    rw [List.getElem?_set_ne (Ne.symm q)]
    refine w.kp j v ?_ (vsAt_ne q k2)
    show (kpAt E.kp i)[j]? = some true
    unfold kpAt
    rw [List.getElem?_set_ne (Ne.symm q), List.getElem?_append_left (List.getElem?_eq_some_iff.mp k1).1, k1]
structure Held (c : LC) (E : En) (i : Nat) (a : Addr) (n : Nat) (fs : List Str) (es : List D) (cls : Value) (d : Option Addr) : Prop where
  kp : E.kp[i]? = some true
  vs : E.vs[i]? = some (.ref a)
  cls : cls = .ref (c.cl n)
  no : fs = [] → d = none
  fld : fs ≠ [] → ∃ dd us, d = some dd ∧ E.P0 dd = some (.xd (fs.zip us)) ∧ ∀ H, RepL c E.P0 H es us fz
def tSu (c : LC) (kp : List Bool) (i : Nat) (mh : Nat → List Str → List D → SM) (ok : Nat → List Str → Bool) : Addr → Value → Option Addr → TS := fun a cls d De σ H => ∃ (E : En) (n : Nat) (fs : List Str) (es : List D), E.kp = kp ∧ ok n fs = true ∧ Held c E i a n fs es cls d ∧ tS c E (mh n fs es) De σ H
def tryM (i : Nat) (sub : Nat → List Str → Bool) (mb : SM) (mh : Nat → List Str → List D → SM) : SM := fun ρ => (mb ρ).bind fun r => match r.1 with
  | .ex n fs es => if sub n fs = true ∧ i < r.2.length then (mh n fs es (r.2.set i .gone)).bind fun r2 => match r2.1 with
    | .ex _ _ _ => none
    | f => some (f, r2.2.set i .gone)
    else none
  | _ => some r
section
variable {X : Cx} {cl : Nat → Addr} {E : En} {x nm : Str} {cx : Value} {body suite : List Stmt} {b₀ : Stmt} {np pos pos' : Pos} {mb : SM} {mh : Nat → List Str → List D → SM} {sub : Nat → List Str → Bool}
theorem su_post {c : LC} {E : En} {P0 H0 Pq : Hp} {S0 T0 : FP} {σ0 : L2.St} {ρ0 : List D} {i : Nat} {a : Addr} {De : Ends} {fl : Fl} {ρ' : List LI.D} (w0 : Wd c E P0 S0 T0 σ0 H0 ρ0) (hk : E.kp[i]? ≠ some true) (hx : ∀ n fs es, fl ≠ .ex n fs es) (hP : Ex Pq P0) (q : SPost c E Pq De fl (ρ'.set i .gone)) :
    SPost c (enH E P0 i a) P0 { nx := fun σ' H' => De.nx (σ'.set i none) H', rt := De.rt, bk := fun σ' H' => De.bk (σ'.set i none) H', ct := fun σ' H' => De.ct (σ'.set i none) H' } fl ρ' := by
  cases fl with
  | nx => exact fun σ' H' P' S' w e => by obtain ⟨S2, w2⟩ := w0.fromSuite hk w; exact q _ H' P' S2 w2 (hP.trans e)
  | rt d => exact fun v σ' H' P' S' U w r => by obtain ⟨S2, w2⟩ := w0.fromSuite hk w; exact q v _ H' P' S2 U w2 r
  | bk => exact fun σ' H' P' S' w e => by obtain ⟨S2, w2⟩ := w0.fromSuite hk w; exact q _ H' P' S2 w2 (hP.trans e)
  | ct => exact fun σ' H' P' S' w e => by obtain ⟨S2, w2⟩ := w0.fromSuite hk w; exact q _ H' P' S2 w2 (hP.trans e)
  | ex n fs es => exact absurd rfl (hx n fs es)
theorem s_tryAs (i : Nat) (kpH : List Bool) (hkH : kpAt E.kp i = kpH) (hs : X.stack = X.env :: X.outer) (hf : X.env.frame = some X.env.locals) (hN : X.N.Nodup) (hi : X.N[i]? = some nm) (hln : X.env.kindOf nm = some .local) (hc : Names X x cx) (hk : E.kp[i]? ≠ some true)
    (hsub : ∀ n fs, sub n fs = true → PySem.W.exmOne X.K (.ref (cl n)) cx = some true)
    (hb : ∀ (W : WX) (pn : List (Addr × Obj)) (xe : Value → Shared → Prop), L2N.Takes (X.tr pn xe) W → PassesOwn (model X.prog X.w) X.A X.env xe → PSs (X.tr pn xe) body (tS ⟨X.K, cl, X.w⟩ { E with xw := W } mb))
    (hsu : ∀ (a : Addr) (oe : Obj) (cls : Value) (d : Option Addr) (pn : List (Addr × Obj)) (n : Nat) (fs : List Str) (es : List D) (E' : En), L2N.Zn cls d oe → (∃ vs, oe.data = .fields vs) → E'.kp = kpH → sub n fs = true → Held ⟨X.K, cl, X.w⟩ E' i a n fs es cls d → PSs (X.suite a ((a, oe) :: pn)) (b₀ :: suite) (tS ⟨X.K, cl, X.w⟩ E' (mh n fs es))) :
    PS X (.Try body [.ExceptHandler (some (.Name x np)) (some nm) (b₀ :: suite) pos'] [] [] pos) (tS ⟨X.K, cl, X.w⟩ E (tryM i sub mb mh)) := by
  refine PS_imp (L2N.ps_try_as (i := i) (c := cx) (Wout := fun _ _ _ _ => False) (tb := fun W => tS ⟨X.K, cl, X.w⟩ { E with xw := W } mb) (ts := tSu ⟨X.K, cl, X.w⟩ kpH i mh sub) hs hf hN hi hln hc takesN0 hb (fun a oe cls d pn hz hd => ⟨fun pins s σ H D I h => ?_⟩)) fun D σ H ⟨P, S, ρ, fl, ρ', w, hm, q⟩ => ?_
  · obtain ⟨E', n, fs, es, h1, h2, h3, h4⟩ := h
    exact (hsu a oe cls d pn n fs es E' hz hd h1 h2 h3).run pins s σ H D I h4
  · unfold tryM at hm
    cases eb : mb ρ with
    | none => rw [eb] at hm; cases hm
    | some r =>
      obtain ⟨f1, ρ1⟩ := r
      rw [eb, Option.bind_some] at hm
      refine ⟨P, S, ρ, f1, ρ1, w.wish _, eb, ?_⟩
      cases f1 with
      | nx => cases hm; exact fun σ' H' P' S' w' e => q σ' H' P' S' w'.unwish e
      | rt d => cases hm; exact fun v σ' H' P' S' U w' r => q v σ' H' P' S' U w'.unwish r
      | bk => cases hm; exact fun σ' H' P' S' w' e => q σ' H' P' S' w'.unwish e
      | ct => cases hm; exact fun σ' H' P' S' w' e => q σ' H' P' S' w'.unwish e
      | ex n fs es =>
        dsimp only at hm
        split at hm
        · rename_i hsu2
          obtain ⟨hsb, hil⟩ := hsu2
          cases eh : mh n fs es (ρ1.set i .gone) with
          | none => rw [eh] at hm; cases hm
          | some r2 =>
            obtain ⟨f2, ρ2⟩ := r2
            rw [eh, Option.bind_some] at hm
            have hnx : ∀ n fs es, f2 ≠ .ex n fs es := fun n fs es z => by subst z; cases hm
            have hfl : (f2, ρ2.set i .gone) = (fl, ρ') := by
              cases f2 <;> first | (cases hm; rfl) | (exact absurd rfl (hnx _ _ _))
            obtain ⟨hfl1, hfl2⟩ := Prod.mk.inj hfl
            subst hfl1 hfl2
            intro us σ' H' P' S' U w' ex re
            have w1 := w'.unwish
            have hlen : i < σ'.length := by rw [← RepE.len _ _ _ w1.env]; exact hil
            have main : ∀ (P2 H2 : Hp) (d : Option Addr), Wd ⟨X.K, cl, X.w⟩ E P2 S' U σ' H2 ρ1 → Ex P P2 → (fs = [] → d = none) → (fs ≠ [] → ∃ dd us, d = some dd ∧ P2 dd = some (.xd (fs.zip us)) ∧ ∀ H, RepL ⟨X.K, cl, X.w⟩ P2 H es us fz) →
                wAs X.K cx i (tSu ⟨X.K, cl, X.w⟩ kpH i mh sub) (fun _ _ _ _ => False) D (.ref (cl n)) d σ' H2 := by
              intro P2 H2 d w2 e2 h1 h2
              refine ⟨true, hsub n fs hsb, fun _ a ha => ?_, fun z => by cases z⟩
              obtain ⟨S3, w3⟩ := w2.toSuite i a hlen
              refine ⟨enH E P2 i a, n, fs, es, hkH, hsb, ⟨?_, vsAt_self, rfl, h1, h2⟩, P2, S3, _, f2, ρ2, w3, eh, ?_⟩
              · show (kpAt E.kp i)[i]? = some true
                unfold kpAt
                rw [List.getElem?_set_self (by rw [List.length_append, List.length_replicate]; omega)]
              · exact su_post (Pq := P) w2 hk hnx e2 q
            refine ⟨fun hfs => main P' H' none w1 ex (fun _ => rfl) (fun z => absurd hfs z), fun hfs dd hdd => ?_⟩
            have hPd := none_of w1.ph hdd
            have eP : Ex P' (upd P' dd (.xd (fs.zip us))) := fun b o z => by rw [upd_ne (ne_of_none z hPd)]; exact z
            have eH : Ex H' (upd H' dd (.xd (fs.zip us))) := fun b o z => by rw [upd_ne (ne_of_none z hdd)]; exact z
            have g : Gr P' H' (upd P' dd (.xd (fs.zip us))) (upd H' dd (.xd (fs.zip us))) := ⟨eP, eH, fun b o z => by
              by_cases hb : b = dd
              · subst hb; rw [upd_same] at z ⊢; exact z
              · rw [upd_ne hb] at z ⊢; exact w1.ph b o z, fun b z => by
              by_cases hb : b = dd
              · subst hb; exact .inr hdd
              · rw [upd_ne hb] at z; exact .inl z⟩
            exact main _ _ (some dd) (w1.grow g) (ex.trans eP) (fun z => absurd z hfs) (fun _ => ⟨dd, us, rfl, upd_same, fun H => RepL.mono eP _ _ fz (fun b o h1 _ => by simp [fz] at h1) re⟩)
        · cases hm
end
end LI

namespace LI
open PySem L2 PyProof.Rows
structure XcC (K : PySem.W.Frag) (C : Addr) : Prop where
  hcl : (PySem.W.clsIn K C).isSome = true
  hga : PySem.W.findIn K (.ref C) "__getattribute__" = some (some (.builtin "BaseException.__getattribute__"))
  hgt : PySem.W.findIn K (.ref C) "__getattr__" = some none
  hsub : PySem.W.subIn K (.ref C) (.type "BaseException") = some true
  ha : PySem.W.findIn K (.ref C) "__class__" = some (some (.builtin "object.__class__"))
  hn : PySem.W.specialIn K (.builtin "object.__class__") "__get__" = some (some (.builtin "getset_descriptor.__get__"))
  htk : PySem.W.takesIn K (.builtin "object.__class__") = some true
  hm : PySem.W.mroIn K C (.type "object") = some true
  hd : PySem.W.hasDictIn K C = true
def dOk (d : Option Addr) (H : Hp) : Prop := d = none ∨ ∃ dd fs, d = some dd ∧ H dd = some (.xd fs)
section
variable {X : Cx} {a C : Addr} {oe : Obj} {d : Option Addr} {pn : List (Addr × Obj)}
theorem inst_of {pins : List (Addr × Obj)} {σ : L2.St} {H : Hp} {s : Shared} (I : Inv (X.suite a ((a, oe) :: pn)) pins σ H s) (hz : L2N.Zn (.ref C) d oe) (hf : ∃ vs, oe.data = .fields vs) (hd : dOk d H) : ∃ od, PySem.W.InstAt s.heap a oe C od := by
  obtain ⟨hget, _⟩ := I.pin (a, oe) (List.mem_append.mpr (.inl List.mem_cons_self))
  obtain ⟨vs, hv⟩ := hf
  have hno : PySem.W.notCls oe = true := by unfold PySem.W.notCls; rw [hv]
  rcases hd with z | ⟨dd, fs, z, hx⟩
  · exact ⟨none, hget, hz.1, hno, by rw [hz.2.1, z]; trivial⟩
  · obtain ⟨od, ho⟩ := objOk_get (I.hok dd _ hx)
    exact ⟨some od, hget, hz.1, hno, by rw [hz.2.1, z]; exact ho⟩
def rIsX (K : PySem.W.Frag) (D a : Addr) (d : Option Addr) : List V → Hp → VK → Prop := fun xs H Q => ∃ (c : V) (u : Value) (b : Bool), xs = [.ref a, c] ∧ ClsV c u ∧ dOk d H ∧ PySem.W.kitOne K (.ref D) u = some b ∧ Q (.bl b) H
def rIsXT (K : PySem.W.Frag) (D a : Addr) (d : Option Addr) : List V → Hp → VK → Prop := fun xs H Q => ∃ (tp : Addr) (cs : List V) (us : List Value) (b : Bool), xs = [.ref a, .ref tp] ∧ H tp = some (.tup cs) ∧ Paired ClsV cs us ∧ dOk d H ∧ PySem.W.kitAny K (.ref D) us = some b ∧ Q (.bl b) H
theorem call_isX (T : XcC X.K C) (hz : L2N.Zn (.ref C) d oe) (hf : ∃ vs, oe.data = .fields vs) : CallR (X.suite a ((a, oe) :: pn)) (.builtin "isinstance") (rIsX X.K C a d) := by
  intro pins s σ H xs us Q I r h
  obtain ⟨c, u, b, rfl, k, hd, e, q⟩ := h
  obtain ⟨u1, u2, rfl, r1, r2⟩ := vals2 r
  obtain rfl : u1 = Value.ref a := r1
  have e2 := k.eq r2
  subst e2
  obtain ⟨od, J⟩ := inst_of I hz hf hd
  exact PySem.W.kia_one (PySem.W.kitx_exc T.hcl T.hga T.hgt T.hsub T.ha T.hn T.htk T.hm) I.kIn J e (fun z => nomatch z) fun tk => ⟨.bl b, H, I.kept (t' := tk) fun _ _ z => z, rfl, q⟩
theorem call_isXT (T : XcC X.K C) (hz : L2N.Zn (.ref C) d oe) (hf : ∃ vs, oe.data = .fields vs) : CallR (X.suite a ((a, oe) :: pn)) (.builtin "isinstance") (rIsXT X.K C a d) := by
  intro pins s σ H xs us Q I r h
  obtain ⟨tp, cs, ws, b, rfl, hT, k, hd, e, q⟩ := h
  obtain ⟨u1, u2, rfl, r1, r2⟩ := vals2 r
  obtain rfl : u1 = Value.ref a := r1
  cases (show u2 = Value.ref tp from r2)
  obtain ⟨od, J⟩ := inst_of I hz hf hd
  obtain ⟨_, its, rv, o, h1, h2, n, h3⟩ := (show ObjOk X.prog X.w H s.heap tp (.tup cs) from I.hok tp _ hT)
  have e3 := ClsV.all k rv
  subst e3
  obtain ⟨oc, od', dt, sl⟩ := o
  simp only at h2 h3
  subst h2 h3
  exact PySem.W.kia_tup (PySem.W.kitx_exc T.hcl T.hga T.hgt T.hsub T.ha T.hn T.htk T.hm) I.kIn J h1 e (fun z => nomatch z) fun tk => ⟨.bl b, H, I.kept (t' := tk) fun _ _ z => z, rfl, q⟩
end
section
variable {X : Cx} {cl : Nat → Addr} {E : En} {a : Addr} {oe : Obj} {d : Option Addr} {cls : Value} {pn : List (Addr × Obj)} {i n : Nat} {fs : List Str} {es : List D} {x : Str} {p p1 p2 pos : Pos}
theorem Held.dok {c : LC} {P H : Hp} (h : Held c E i a n fs es cls d) (e : Ex E.P0 P) (e2 : Ex P H) : dOk d H := by
  cases hf : fs with
  | nil => exact .inl (h.no hf)
  | cons f r =>
    obtain ⟨dd, us, h1, h2, _⟩ := h.fld (by rw [hf]; simp)
    exact .inr ⟨dd, _, h1, e2 _ _ (e _ _ h2)⟩
theorem Held.at {c : LC} {P H : Hp} {S T : FP} {σ : L2.St} {ρ : List D} (h : Held c E i a n fs es cls d) (w : Wd c E P S T σ H ρ) : σ[i]? = some (some (.ref a)) := w.kp i _ h.kp h.vs
theorem f_isX (b : Bool) (hd : Held ⟨X.K, cl, X.w⟩ E i a n fs es cls d) (hz : L2N.Zn cls d oe) (hf : ∃ vs, oe.data = .fields vs) (T : XcC X.K (cl n)) {c : V} {u : Value} {ce : Expr} (k : ClsV c u) (hk : PySem.W.kitOne X.K (.ref (cl n)) u = some b) (hc : PE (X.suite a ((a, oe) :: pn)) ce (tC c))
    (hm : X.mg "isinstance" = none) (hN : X.N[i]? = some x := by rfl) (hv : Vis X.env.scope x := by first | exact Or.inl rfl | exact Or.inr (Or.inl rfl) | exact Or.inr (Or.inr rfl)) (hdb : (x == ("__debug__" : Str)) = false := by decide) (hcd : (x == ("__classdict__" : Str)) = false := by decide) (hg : Gl X "isinstance" := by rfl)
    (hs1 : starEach [.Name x p1, ce] X.env = (false, eval (.Name x p1) X.env) :: starEach [ce] X.env := by rfl) (hs2 : starEach [ce] X.env = (false, eval ce X.env) :: starEach [] X.env := by rfl) (hpl : (backTo pos (starEach [ce] X.env)).any (·.1) = false := by rfl) :
    PE (X.suite a ((a, oe) :: pn)) (.Call (.Name "isinstance" p) [.Name x p1, ce] [] pos) (tF ⟨X.K, cl, X.w⟩ E (kM (.bl b))) := by
  have hc' := hd.cls
  subst hc'
  refine PE_imp (pe_callB (call_isX T hz hf) hg hm (by decide +kernel) (pa_cons (pe_var (i := i) hN hv hdb hcd) (pa_cons hc pa_nil hs2) hs1) (by decide) (by decide) hs1 hpl) fun σ H Q ⟨P, S, T', ρ, d1, w, h, q⟩ => ?_
  cases h
  exact ⟨.ref a, hd.at w, c, u, b, rfl, k, hd.dok w.p0 w.ph, hk, q.flat w.ph ⟨rfl, rfl⟩⟩
theorem f_isXT (b : Bool) (hd : Held ⟨X.K, cl, X.w⟩ E i a n fs es cls d) (hz : L2N.Zn cls d oe) (hf : ∃ vs, oe.data = .fields vs) (T : XcC X.K (cl n)) {cs : List V} {us : List Value} {ce : List Expr} {x1} {q1 : Pos} {t : TA} (ht : ∀ σ H Q, Q cs H → t σ H Q) (k : Paired ClsV cs us) (hl : cs.length ≤ LIM) (hk : PySem.W.kitAny X.K (.ref (cl n)) us = some b) (hc : PA (X.suite a ((a, oe) :: pn)) ce t)
    (hm : X.mg "isinstance" = none) (hN : X.N[i]? = some x := by rfl) (hv : Vis X.env.scope x := by first | exact Or.inl rfl | exact Or.inr (Or.inl rfl) | exact Or.inr (Or.inr rfl)) (hdb : (x == ("__debug__" : Str)) = false := by decide) (hcd : (x == ("__classdict__" : Str)) = false := by decide) (hg : Gl X "isinstance" := by rfl)
    (hs1 : starEach [.Name x p1, .Tuple ce x1 q1] X.env = (false, eval (.Name x p1) X.env) :: starEach [.Tuple ce x1 q1] X.env := by rfl) (hs2 : starEach [.Tuple ce x1 q1] X.env = (false, eval (.Tuple ce x1 q1) X.env) :: starEach [] X.env := by rfl) (hpl : (backTo pos (starEach [.Tuple ce x1 q1] X.env)).any (·.1) = false := by rfl) :
    PE (X.suite a ((a, oe) :: pn)) (.Call (.Name "isinstance" p) [.Name x p1, .Tuple ce x1 q1] [] pos) (tF ⟨X.K, cl, X.w⟩ E (kM (.bl b))) := by
  have hc' := hd.cls
  subst hc'
  refine PE_imp (pe_callB (call_isXT T hz hf) hg hm (by decide +kernel) (pa_cons (pe_var (i := i) hN hv hdb hcd) (pa_cons (pe_tup hc) pa_nil hs2) hs1) (by decide) (by decide) hs1 hpl) fun σ H Q ⟨P, S, T', ρ, d1, w, h, q⟩ => ?_
  cases h
  refine ⟨.ref a, hd.at w, ht σ H _ ⟨lim_le hl, fun tp htp => ?_⟩⟩
  have eH : Ex H (upd H tp (.tup cs)) := fun b o z => by rw [upd_ne (ne_of_none z htp)]; exact z
  have g : Gr P H P (upd H tp (.tup cs)) := ⟨.refl P, eH, w.ph.trans eH, fun _ z => .inl z⟩
  exact ⟨tp, cs, us, b, rfl, upd_same, k, hd.dok w.p0 (w.ph.trans eH), hk, (q.grow g).flat g.ph ⟨rfl, rfl⟩⟩
def fldX (f : Str) : List Str → List D → Option D
  | g :: gs, y :: ys => if f = g then some y else fldX f gs ys
  | _, _ => none
theorem fldX_get {c : LC} {P H : Hp} {f : Str} : ∀ {fs : List Str} {es : List D} {us : List V} {y : D}, RepL c P H es us fz → fldX f fs es = some y → ∃ v, (fs.zip us).lookup f = some v ∧ Rep c P H y v fz
  | [], _, _, _, _, h => by cases h
  | _ :: _, [], _, _, _, h => by cases h
  | g :: gs, y0 :: ys, us, y, ⟨u, us', T, U, e, r, rs, hf⟩, h => by
    subst e
    have hT : T = fz := by funext a; have := congrFun hf a; simp only [fa, fz] at *; omega
    have hU : U = fz := by funext a; have := congrFun hf a; simp only [fa, fz] at *; omega
    subst hT hU
    unfold fldX at h
    by_cases q : f = g
    · rw [if_pos q] at h; cases h
      refine ⟨u, ?_, r⟩
      rw [List.zip_cons_cons, List.lookup_cons, q]; simp
    · rw [if_neg q] at h
      obtain ⟨v, h1, h2⟩ := fldX_get rs h
      refine ⟨v, ?_, h2⟩
      rw [List.zip_cons_cons, List.lookup_cons]
      have : (f == g) = false := by simp [q]
      rw [this]; exact h1
def xfldM (f : Str) (fs : List Str) (es : List D) : RM := fun _ => fldX f fs es
theorem f_fldX {f : Str} (hd : Held ⟨X.K, cl, X.w⟩ E i a n fs es cls d) (hz : L2N.Zn cls d oe) (hf : ∃ vs, oe.data = .fields vs) (T : XcC X.K (cl n)) (hno : PySem.W.findIn X.K (.ref (cl n)) f = some none)
    (hN : X.N[i]? = some x := by rfl) (hv : Vis X.env.scope x := by first | exact Or.inl rfl | exact Or.inr (Or.inl rfl) | exact Or.inr (Or.inr rfl)) (hdb : (x == ("__debug__" : Str)) = false := by decide) (hcd : (x == ("__classdict__" : Str)) = false := by decide)
    (hb : attributeBase (.Name x p1) f X.env (eval (.Name x p1) X.env) = eval (.Name x p1) X.env := by rfl) :
    PE (X.suite a ((a, oe) :: pn)) (.Attribute (.Name x p1) f pos) (tF ⟨X.K, cl, X.w⟩ E (xfldM f fs es)) := by
  refine PE_imp (pe_xf (C := cl n) (d := d) (cls := cls) ⟨T.hga, T.hgt, T.hsub, T.hd⟩ hno hz.zc hf (pe_var (i := i) hN hv hdb hcd) hb) fun σ H Q ⟨P, S, T', ρ, d1, w, h, q⟩ => ?_
  have hy : fldX f fs es = some d1 := h
  have hne : fs ≠ [] := fun z => by subst z; cases hy
  obtain ⟨dd, us, h1, h2, h3⟩ := hd.fld hne
  obtain ⟨v, h4, h5⟩ := fldX_get (h3 H) hy
  exact ⟨.ref a, hd.at w, rfl, hd.cls, dd, _, v, h1, w.ph _ _ (w.p0 _ _ h2), h4, q.flat w.ph (Rep.mono w.p0 d1 v fz (fun b o z _ => by simp [fz] at z) h5)⟩
end
end LI

namespace LI
open PySem L2 PyProof.Rows
section
variable {X : Cx} {e : Expr} {es : List Expr} {ta : TA} {x : Str} {C0 : Addr} {mc : Value} {p1 p2 pos : Pos}
theorem pe_baseinit {pl : Sem Bool} (hg : Gl X x) (hm : X.mg x = some (.ref C0)) (rd : PySem.W.readsIn X.K C0 mc = true) (ga : PySem.W.specialIn X.K (.ref C0) "__getattribute__" = some (some (.builtin "type.__getattribute__")))
    (at_ : PySem.W.findCls X.K (.ref C0) mc "__init__" = some (.val (.builtin "ValueError.__init__"))) (ha : PA X (e :: es) ta) (hdb : (x == ("__debug__" : Str)) = false := by decide)
    (hc : eval (.Call (.Attribute (.Name x p1) "__init__" p2) (e :: es) [] pos) X.env = (do
      let ov ← eval (.Name x p1) X.env
      standAt p2.atName
      let (f, first) ← holding [ov] (getMethod ov "__init__" pl)
      callWith pos f first (backTo pos (starEach (e :: es) X.env)) (backToKw pos (keywordEach [] X.env))) := by rfl)
    (he : starEach (e :: es) X.env = (false, eval e X.env) :: starEach es X.env := by rfl) (hpl : (backTo pos (starEach es X.env)).any (·.1) = false := by rfl) :
    PE X (.Call (.Attribute (.Name x p1) "__init__" p2) (e :: es) [] pos) (tVeI X.K ta) := by
  refine ⟨fun pins s σ H Q I h => ?_⟩
  refine PySem.W.methodCall_KW (ld_glob I hg hm ?_ hdb) hc
  refine PySem.W.method_cls I.kIn ga (PySem.W.cls_value I.kIn rd at_ (by decide +kernel) ?_)
  show wpAny _ _ (callWith pos (Value.builtin "ValueError.__init__") [] (backTo pos (starEach (e :: es) X.env)) []) _ _ _
  refine callWith_method1 (thn (ha.run pos pins _ σ H _ (I.tok _) h) fun us s1 hh => ?_) he hpl
  obtain ⟨vs, H1, I1, r1, a, C, ws, ev, hl, T, ea, q⟩ := hh
  subst ev
  cases r1 with
  | @cons _ u0 _ ur ra rw' =>
    obtain rfl : u0 = Value.ref a := ra
    exact oinit_ok T I1 ea (by rw [← Paired.length rw', sizeLine_eq]; omega) fun s' J => ⟨.non, H1, J, rfl, q⟩
end
def spInit (C : Addr) (f : Str) : Sp := fun vs H Q _ => ∃ a v, vs = [.ref a, v] ∧ H a = some (exo a C none) ∧ ∀ d, H d = none → d ≠ a → Q .non (upd (upd H d (exd d [(f, v)])) a (exo a C (some d)))
def tInitS (K : PySem.W.Frag) (f m : Str) : TS := tSeq (tDrop (tVeI K (tCons (tVar 0) (tCons (tC (.str m)) tNil)))) (tOst K f (tVar 0) (tVar 1))
theorem init_run {K : PySem.W.Frag} {C : Addr} {f m y : Str} {vs : List V} {H : Hp} {Q : VK} {E : XK} (T : OexC K C) (hno : PySem.W.findIn K (.ref C) f = some none) (h : spInit C f vs H Q E) : tInitS K f m { nx := fun _ H' => Q .non H', rt := Q } (L2.start ["self", y] vs) H := by
  obtain ⟨a, v, rfl, ha, q⟩ := h
  refine ⟨.ref a, rfl, a, C, [.str m], rfl, by simp, T, ha, ?_⟩
  exact ⟨v, rfl, .ref a, rfl, a, C, rfl, T, hno, .inl ⟨ha, fun dx h1 h2 => q dx h1 h2⟩⟩
section
variable {Y : Cx} {ar : Expr} {ars : List Expr} {wa : TA} {gn : Str} {q0 q1 : Pos} {Cc fJ : Addr} {jj : Nat} {fe : FuncData} {pz : List Str} {sq : Sp} {CY : CXT}
theorem pmk_oexN (T : OexC Y.K Cc) (iC : PySem.W.findIn Y.K (.ref Cc) "__init__" = some (some (.ref fJ))) (tI : PySem.W.typeIn Y.K (.ref fJ) = some (.type "function"))
    (G : FnOk Y.prog Y.w Y.K Y.mg Y.base CY jj fJ fe pz sq) (rm : Room (jj + 1) Y.A) (bi : Binds Y.K fe pz []) (px : Passes CY Y (fun _ _ _ => False)) (gl : Gl Y gn) (gm : Y.mg gn = some (.ref Cc)) (pa : PA Y (ar :: ars) wa)
    (nd : (gn == ("__debug__" : Str)) = false := by decide) (st : starEach (ar :: ars) Y.env = (false, eval ar Y.env) :: starEach ars Y.env := by rfl) (np : (backTo q1 (starEach ars Y.env)).any (·.1) = false := by rfl) :
    L2N.PMk Y (.Call (.Name gn q0) (ar :: ars) [] q1) (tMkO Cc sq [] wa) := by
  intro pins s0 τ K0 R J h
  obtain ⟨_, _, _, _, bm, _, _, _, _, _, _, _, _, _, _, hC, hbm⟩ := T.cls
  refine wpAny_Call_Name_kw (ld_glob J gl gm ?_ nd)
  refine PySem.W.callWith_K (h₀ := Y.base) J.ok.mod.kin T.kC (thn (pa.run q1 pins s0 τ K0 _ J h) fun as sA hA => ?_) st np
  obtain ⟨vs, K1, J1, rA, _, k1⟩ := hA
  refine ⟨J1.kIn, ?_⟩
  show wpAny _ _ (call (.ref Cc) as) _ _ _
  obtain ⟨hp, gg, dr, tk, oo⟩ := sA
  let x := hp.objs.size
  have le1 : x ≤ x + 1 := Nat.le_succ _
  have no1 : K1 (x + 1) = none := J1.hok.fresh le1
  have goal1 := k1 (x + 1) no1
  let hh := (hp.push (PySem.W.kdv_tup as)).push (PySem.HandSPX.excO Cc x)
  have keep : ∀ b o, hp.get? b = some o → hh.get? b = some o := fun b o z => Heap.get?_push_of_some _ (Heap.get?_push_of_some _ z)
  have got : hh.get? (x + 1) = some (PySem.HandSPX.excO Cc x) := by
    show ((hp.push (PySem.W.kdv_tup as)).push (PySem.HandSPX.excO Cc hp.objs.size)).get? (hp.objs.size + 1) = _
    heap_get
  have J2 : Inv Y pins τ (upd K1 (x + 1) (exo (x + 1) Cc none)) ⟨hh, gg, dr, tk, oo⟩ := J1.laid (t' := tk) (a := x + 1) (o := exo (x + 1) Cc none) (h' := hh) keep le1 (exo_ok got)
  have rB : Vals (V.ref (x + 1) :: (vs ++ [])) (Value.ref (x + 1) :: (as ++ [])) := .cons rfl (rA.append .nil)
  have ln : (Value.ref (x + 1) :: as ++ []).length = pz.length := by
    have z := rB.length
    rw [G.len _ _ _ _ goal1] at z
    exact z.symm
  have few : as.length ≤ sizeLine := by rw [← Paired.length rA, sizeLine_eq]; omega
  have bz : BindsTo ⟨hh, gg, dr, tk, oo⟩ fe ⟨Value.ref (x + 1) :: as, []⟩ (pz.zip (Value.ref (x + 1) :: (as ++ []))) := bi ⟨hh, gg, dr, tk, oo⟩ (Value.ref (x + 1) :: as) J2.kIn ln
  have inner := G.run _ Y.stack _ _ ⟨Value.ref (x + 1) :: as, []⟩ (Value.ref (x + 1) :: (as ++ [])) _ _ (fun _ _ _ => False) (rm.make Cc as []) (J2.env0.make Cc as []) bz rB goal1
  refine wpAny_call (PySem.HandSPX.call_own F.excBase_ValueError (fun Z => PySem.HandSPX.refsVE_contains Z bm hbm) (J1.kIn _ _ hC) (PySem.W.looks_findIn J1.kIn iC) (fun self => PySem.W.bind_fn J1.kIn self tI) few (codeAny_mono inner fun r s' end1 => ?_))
  rcases r with er | fl
  · exact px pins τ _ _ er s' J2 end1
  · cases fl with
    | ret u =>
      obtain ⟨v, K2, oo2, bare2, un2, hok2, rv, ev, d, fs, ea, ed, dn, k2⟩ := end1
      subst ev
      obtain ⟨h2, g2, d2, t2, os'⟩ := s'
      refine ⟨rv, ?_⟩
      obtain ⟨t0, G', J', kG, ge, hoe, na⟩ := mk_end0 (d2 := d2) (t2 := t2) J1 le1 keep un2 hok2 oo2 bare2 ea ed dn
      exact ⟨x + 1, _, _, ⟨G', g2, d2, t2, os'⟩, _, .ref Cc, some d, rfl, J', kG, ge, hoe, ⟨rfl, rfl, fun ws z => by cases z; rfl⟩, rfl, rfl, na, rfl, bare2, raises_own T.exC T.tyC, k2⟩
    | next => exact end1.elim
    | brk => exact end1.elim
    | cont => exact end1.elim
end
section
variable {X : Cx} {cl : Nat → Addr} {E : En} {e : Expr} {x f : Str} {p pos pos2 : Pos} {m : RM}
def raise1 (n : Nat) (f : Str) (m : RM) : SM := fun ρ => (m ρ).bind fun d => if frz d = true then some (.ex n [f] [d], ρ) else none
theorem s_raise1 (n : Nat) {CX : CXT} {k : Nat} {fI : Addr} {fd : FuncData} {ps : List Str} (hc : X.calm = true) (tk : L2N.Takes X E.xw) (T : OexC X.K (cl n)) (iC : PySem.W.findIn X.K (.ref (cl n)) "__init__" = some (some (.ref fI))) (tI : PySem.W.typeIn X.K (.ref fI) = some (.type "function"))
    (F1 : FnOk X.prog X.w X.K X.mg X.base CX k fI fd ps (spInit (cl n) f)) (hr : Room (k + 1) X.A) (hb : Binds X.K fd ps []) (hx : Passes CX X (fun _ _ _ => False)) (hg : Gl X x) (hm : X.mg x = some (.ref (cl n))) (he : PE X e (tR ⟨X.K, cl, X.w⟩ E m))
    (hdb : (x == ("__debug__" : Str)) = false := by decide) (hs : starEach [e] X.env = (false, eval e X.env) :: starEach [] X.env := by rfl) (hpl : (backTo pos (starEach [] X.env)).any (·.1) = false := by rfl) :
    PS X (.Raise (some (.Call (.Name x p) [e] [] pos)) none pos2) (tS ⟨X.K, cl, X.w⟩ E (raise1 n f m)) := PS_imp (L2N.ps_raise hc tk (pmk_oexN T iC tI F1 hr hb hx hg hm (pa_cons he pa_nil hs) hdb hs hpl)) fun D σ H ⟨P, S, ρ, fl, ρ', w, hm2, q⟩ => by
  unfold raise1 at hm2
  cases eg : m ρ with
  | none => rw [eg] at hm2; cases hm2
  | some d =>
    rw [eg, Option.bind_some] at hm2
    split at hm2
    · rename_i hz
      cases hm2
      refine ⟨P, S, fz, ρ, d, w, eg, fun v H1 P1 U g r => ?_⟩
      have hU := Rep.frz0 d v U hz r
      subst hU
      refine ⟨by simp, fun a ha => ?_⟩
      refine ⟨a, v, rfl, upd_same, fun dd hdd hda => ⟨rfl, dd, [(f, v)], upd_same, ?_, ?_, ?_⟩⟩
      · rw [upd_ne hda, upd_same]
      · rw [upd_ne hda] at hdd; exact hdd
      · have hdd1 : H1 dd = none := by rw [upd_ne hda] at hdd; exact hdd
        have e1 : upd (del (upd (upd (upd H1 a (exo a (cl n) none)) dd (exd dd [(f, v)])) a (exo a (cl n) (some dd))) a) dd (.xd [(f, v)]) = upd H1 dd (.xd [(f, v)]) := by
          funext b
          by_cases hb1 : b = dd
          · rw [hb1, upd_same, upd_same]
          · rw [upd_ne hb1, upd_ne hb1]
            by_cases hb2 : b = a
            · rw [hb2, del_same, ha]
            · rw [del_ne hb2, upd_ne hb2, upd_ne hb1, upd_ne hb2]
        rw [e1]
        exact (q [v] σ H1 P1 S fz (w.grow g) g.p ⟨v, [], fz, fz, rfl, r, ⟨rfl, rfl⟩, (fa_fz fz).symm⟩).2 (by simp) dd hdd1
    · cases hm2
end
end LI

namespace LI
open PySem L2 PyProof.Rows
abbrev Exn := Nat × List (Str × An)
def exF (e : Exn) : List Str := e.2.map (·.1)
def exD (e : Exn) : List D := e.2.map fun p => eA p.2
def exR {σ : Type} (er : σ → D) (ds' : List D) : Exn ⊕ σ → (D × List D) ⊕ (Nat × List Str × List D × List D)
  | .inr y => .inl (er y, ds')
  | .inl e => .inr (e.1, exF e, exD e, ds')
def Tfx {τ σ : Type} (et' : τ → List D) (er : σ → D) (F : FX) (t : τ → Option (Exn ⊕ σ)) : Prop := ∀ x r, t x = some r → ∃ ds', F (et' x) = some (exR er ds' r)
def QfX {τ : Type} (e : τ → D) (kp : List Bool) (mk : τ → List D) : Fl → List D → Exn ⊕ τ → Prop := fun fl ρ r => match r with
  | .inr y => Qf e kp mk fl ρ y
  | .inl x => fl = .ex x.1 (exF x) (exD x)
theorem run_TX {τ : Type} {e : τ → D} {n : Nat} {kp : List Bool} {m : SM} {ds : List D} {mk : τ → List D} {o : Option (Exn ⊕ τ)} {r : Exn ⊕ τ} (hl : (ds.length == kp.length) = true) (hb : Bk (QfX e kp mk) m (ds ++ List.replicate (n - ds.length) .gone) o) (h : o = some r) : ∃ ds', runX n kp m ds = some (exR e ds' r) := by
  obtain ⟨fl, ρ', h1, h2⟩ := hb r h
  unfold runX
  rw [if_pos (by simpa using hl), h1, Option.bind_some]
  cases r with
  | inl x =>
    have h2 : fl = .ex x.1 (exF x) (exD x) := h2
    subst h2
    exact ⟨_, rfl⟩
  | inr y =>
    obtain ⟨h2, h3⟩ := h2
    rcases h2 with rfl | ⟨rfl, h2⟩
    · exact ⟨_, rfl⟩
    · exact ⟨_, by show some (Sum.inl (D.non, _)) = some (Sum.inl (e y, _)); rw [h2]⟩
def noEx : Fl → Bool
  | .ex _ _ _ => false
  | _ => true
def Qi {υ : Type} (i : Nat) (Q : Fl → List D → υ → Prop) : Fl → List D → υ → Prop := fun fl ρ t => noEx fl = true ∧ Q fl (ρ.set i .gone) t
section
variable {τ σ υ : Type} {Q : Fl → List D → υ → Prop} {m r a : SM} {ρ : List D} {ms : AM}
theorem b_raise1 {α : Type} {e : α → D} [Fz e] {n : Nat} {f : Str} {mm : RM} {o : Option α} {k : α → υ} (h : Ev e mm ρ o) (h2 : ∀ x, Q (.ex n [f] [e x]) ρ (k x)) : Bk Q (seqM (raise1 n f mm) m) ρ (o.bind fun x => some (k x)) := fun t ht => by
  obtain ⟨x, h3, h4⟩ := ob_some ht
  cases h4
  refine ⟨_, _, ?_, h2 x⟩
  unfold seqM raise1
  rw [h x h3, Option.bind_some, if_pos (Fz.fz x)]; rfl
theorem callX_at {et et' : τ → List D} {er : σ → D} {F : FX} {t : τ → Option (Exn ⊕ σ)} {os : Option τ} (hT : Tfx et' er F t) (hs : Ea et et' true ms ρ os) {r : Exn ⊕ σ} (h : os.bind t = some r) : callX F ms ρ = some (match r with | .inr y => .inl (er y, ρ) | .inl e => .inr (e.1, exF e, exD e, ρ)) := by
  obtain ⟨x, h1, h2⟩ := ob_some h
  obtain ⟨ds', h3⟩ := hT x r h2
  unfold callX
  rw [hs.run x h1, Option.bind_some, if_pos (hs.fz rfl x), hs.ic, h3, Option.bind_some]
  cases r <;> rfl
theorem b_seqQ {kl : List Nat} (env : σ → List D) {oa : Option (σ ⊕ υ)} {k : σ → Option υ} (ha : Bk (Qm kl env Q) a ρ oa) (hr : ∀ s, Bk Q r (env s) (k s)) : Bk Q (seqM a (killM kl r)) ρ (oa.bind fun u => seqT u k) := fun t ht => by
  obtain ⟨u, h1, h2⟩ := ob_some ht
  obtain ⟨fl, ρ', h3, h4⟩ := ha u h1
  unfold seqM
  rw [h3, Option.bind_some]
  cases u with
  | inl s =>
    obtain ⟨h5, h6⟩ := h4
    rw [nxB_nx h5]
    obtain ⟨f2, ρ2, h7, h8⟩ := hr s t h2
    refine ⟨f2, ρ2, ?_, h8⟩
    show killM kl r ρ' = _
    unfold killM
    rw [h6, h7]
  | inr t2 =>
    cases h2
    obtain ⟨h5, h6⟩ := h4
    refine ⟨fl, ρ', ?_, h6⟩
    cases fl <;> first | rfl | cases h5
end
def fldT (f : Str) (e : Exn) : Option An := e.2.lookup f
theorem x_fldX {f : Str} {e : Exn} {ρ : List D} : Ev eA (xfldM f (exF e) (exD e)) ρ (fldT f e) := fun y hy => by
  unfold xfldM fldT exF exD at *
  generalize e.2 = l at hy ⊢
  induction l with
  | nil => cases hy
  | cons p l ih =>
    rw [List.lookup_cons] at hy
    rw [List.map_cons, List.map_cons]
    unfold fldX
    by_cases q : f = p.1
    · have : (f == p.1) = true := by simp [q]
      rw [this] at hy
      cases hy
      rw [if_pos q]
    · have : (f == p.1) = false := by simp [q]
      rw [this] at hy
      rw [if_neg q]
      exact ih hy
def okL (l : List (Nat × List Str)) (n : Nat) (fs : List Str) : Bool := decide ((n, fs) ∈ l)
theorem okL_mem {l : List (Nat × List Str)} {n : Nat} {fs : List Str} (h : okL l n fs = true) : (n, fs) ∈ l := of_decide_eq_true h
theorem kitAny_subs {K : PySem.W.Frag} {t : Value} {cl : Nat → Addr} {f : Nat → Bool} : ∀ (ks : List Nat), (∀ k ∈ ks, PySem.W.kitOne K t (.ref (cl k)) = some (f k)) → PySem.W.kitAny K t (ks.map fun k => Value.ref (cl k)) = some (ks.any f)
  | [], _ => rfl
  | k :: ks, h => by
    rw [List.map_cons, List.any_cons]
    have h1 := h k List.mem_cons_self
    refine kitAny_cons h1 (fun hb => ?_) (fun hb => by rw [hb]; rfl)
    rw [hb, Bool.false_or]
    exact kitAny_subs ks fun j hj => h j (List.mem_cons_of_mem _ hj)
theorem paired_cls {cl : Nat → Addr} : ∀ ks : List Nat, Paired ClsV (ks.map fun k => V.ref (cl k)) (ks.map fun k => Value.ref (cl k))
  | [] => .nil
  | _ :: ks => .cons (.own _) (paired_cls ks)
end LI

namespace LI
open PySem L2 PyProof.Rows
def tMethE (C : Addr) (m : Str) (sp : Sp) (E : L2.St → XK) (ta : TE) (t : TA) : TE := fun σ H Q => ta σ H fun x H1 => ∃ a dx fs, x = .ref a ∧ H1 a = some (.ins C dx fs) ∧ fs.lookup m = none ∧ t σ H1 fun vs H2 => sp (x :: vs) H2 Q (E σ)
section
variable {X : Cx} {cl : Nat → Addr} {En' : En} {o e : Expr} {es : List Expr} {pos apos : Pos} {CX : CXT} {k : Nat} {f C : Addr} {fd : FuncData} {ps : List Str} {sp : Sp} {nm : Str} {ta : TE} {t : TA} {W : L2.St → XK}
theorem pe_methE {pl : Sem Bool} (he : PE X o ta) (c : Cls X.K C) (hm : Meth X.K C nm f) (F : FnOk X.prog X.w X.K X.mg X.base CX k f fd ps sp) (hr : Room k X.A) (hb : Binds X.K fd ps []) (hx : ∀ σ, PassesAt CX X σ (W σ)) (ha : PA X (e :: es) t)
    (hst : starEach (e :: es) X.env = (false, eval e X.env) :: starEach es X.env := by rfl) (hpl : (backTo pos (starEach es X.env)).any (·.1) = false := by rfl)
    (ht : eval (.Call (.Attribute o nm apos) (e :: es) [] pos) X.env = (do
      let ov ← eval o X.env
      standAt apos.atName
      let (f, first) ← holding [ov] (getMethod ov nm pl)
      callWith pos f first (backTo pos (starEach (e :: es) X.env)) (backToKw pos (keywordEach [] X.env))) := by rfl) :
    PE X (.Call (.Attribute o nm apos) (e :: es) [] pos) (tMethE C nm sp W ta t) := by
  refine ⟨fun pins s σ H Q I h => ?_⟩
  refine PySem.W.methodCall_KW (pl := pl) (thn (he.run pins s σ H _ I h) fun u s1 ⟨x, H1, I1, rx, a, dx, fs, ex, ea, l, q⟩ => ?_) ht
  subst ex
  obtain rfl : u = Value.ref a := rx
  refine getmeth_ok I1 ea c hm l ?_
  refine PySem.W.callWith_K (first := [.ref a]) (h₀ := X.base) I.ok.mod.kin hm.kp (thn (ha.run pos pins s1 σ H1 _ I1 q) fun us s2 ⟨vs, H2, I2, r, q2⟩ => ⟨I2.kIn, ?_⟩) hst hpl
  exact run_fnS (us := .ref a :: us) (vs := .ref a :: vs) F hr hb (hx σ) I2 (.cons rfl r) q2
end
def methX (n : Nat) (nm : Str) (L : Lens) (F : FX) (ms : AM) : XGM := fun ρ => (L.get ρ).bind fun self => (ms ρ).bind fun ds => if isObjK n nm self = true ∧ frzL ds = true then (F (self :: ds)).bind fun r => match r with
  | .inl (d, self' :: _) => some (.inl (d, L.put ρ self'))
  | .inr (k, fs, es, self' :: _) => some (.inr (k, fs, es, L.put ρ self'))
  | _ => none
  else none
section
variable {X : Cx} {cl : Nat → Addr} {E : En} {o e : Expr} {es : List Expr} {pos apos : Pos} {k n : Nat} {f : Addr} {fd : FuncData} {ps : List Str} {F : FX} {nm : Str} {ms : AM} {L : Lens} {σ : L2.St} {H : Hp} {Q : VK}
theorem methX_run (h : tX ⟨X.K, cl, X.w⟩ E (methX n nm L F ms) σ H Q) : tMethE (cl n) nm (spX ⟨X.K, cl, X.w⟩ F) (WE E.xw) (tPl ⟨X.K, cl, X.w⟩ E L) (tAR ⟨X.K, cl, X.w⟩ E ms) σ H Q := by
  obtain ⟨P, S, ρ, r0, w, hm, q⟩ := h
  unfold methX at hm
  cases e1 : L.get ρ with
  | none => rw [e1] at hm; cases hm
  | some self =>
    cases e2 : ms ρ with
    | none => rw [e1, e2] at hm; cases hm
    | some ds =>
      rw [e1, e2, Option.bind_some, Option.bind_some] at hm
      split at hm
      · rename_i hc
        cases e3 : F (self :: ds) with
        | none => rw [e3] at hm; cases hm
        | some r =>
          rw [e3, Option.bind_some] at hm
          refine ⟨P, S, fz, ρ, self, w, e1, fun v Sd R l => ?_⟩
          obtain ⟨a, dx, fs, ev, hh, hl⟩ := isObj_v w.ph hc.1 l.rep
          refine ⟨a, dx, fs, ev, hh, hl, P, S, fz, ρ, ds, w, e2, fun vs H1 P1 U1 g1 r1 => ?_⟩
          have z := RepL.frz0 ds vs U1 hc.2 r1
          subst z
          have l1 := l.grow g1
          have w1 := w.grow g1
          refine ⟨P1, fa Sd fz, self :: ds, r, ⟨v, vs, Sd, fz, rfl, l1.rep, r1, rfl⟩, g1.ph, fun b => by have := w.le b; have := l.sum b; simp only [fa, fz] at *; omega, fun b hb => w1.out b (by have := l.sum b; simp only [fa, fz] at *; omega), e3, ?_⟩
          cases r with
          | inl r =>
            obtain ⟨d1, rs⟩ := r
            cases rs with
            | nil => cases hm
            | cons self' rs =>
              cases hm
              intro v2 H2 P2 U S' st rd rl
              rw [fa_fz] at st
              obtain ⟨y, ys, T1, T2, e4, rself, _, e5⟩ := rl
              cases e4
              have henv := l1.put P2 H2 self' T1 st.p0 (fun b u hb hu => st.fr b u (by have := w.le b; have := l.sum b; simp only [fz] at *; omega) hu) rself
              have w2 := w1.through l1.sum st henv (U := U) (fun b => by rw [e5]; simp only [fa]; omega) (Rep.there d1 v2 U rd)
              rw [fz_fa] at w2
              exact q v2 H2 P2 _ U w2 (g1.p.trans st.p0) rd
          | inr r =>
            obtain ⟨k', fs', es', rs⟩ := r
            cases rs with
            | nil => cases hm
            | cons self' rs =>
              cases hm
              intro us H2 P2 S' st re rl
              rw [fa_fz] at st
              obtain ⟨y, ys, T1, T2, e4, rself, _, e5⟩ := rl
              cases e4
              have henv := l1.put P2 H2 self' T1 st.p0 (fun b u hb hu => st.fr b u (by have := w.le b; have := l.sum b; simp only [fz] at *; omega) hu) rself
              have st2 : Stp P1 Sd H1 P2 (fa fz S') H2 := by rw [fz_fa]; exact st
              have w2 := w1.through l1.sum st2 henv (U := fz) (fun b => by rw [e5]; simp only [fa]; omega) (fun b hb => by simp [fz] at hb)
              rw [fa_fz] at w2
              exact q us H2 P2 _ w2 (g1.p.trans st.p0) re
      · cases hm
theorem f_methX {pl : Sem Bool} (n : Nat) (he : PE X o (tPl ⟨X.K, cl, X.w⟩ E L)) (c : Cls X.K (cl n)) (hm : Meth X.K (cl n) nm f) (G : FnOk X.prog X.w X.K X.mg X.base (L2N.CX X.prog X.w) k f fd ps (spX ⟨X.K, cl, X.w⟩ F)) (hr : Room k X.A) (hb : Binds X.K fd ps []) (tk : L2N.Takes X E.xw) (ha : PA X (e :: es) (tAR ⟨X.K, cl, X.w⟩ E ms))
    (hst : starEach (e :: es) X.env = (false, eval e X.env) :: starEach es X.env := by rfl) (hpl : (backTo pos (starEach es X.env)).any (·.1) = false := by rfl)
    (ht : eval (.Call (.Attribute o nm apos) (e :: es) [] pos) X.env = (do
      let ov ← eval o X.env
      standAt apos.atName
      let (f, first) ← holding [ov] (getMethod ov nm pl)
      callWith pos f first (backTo pos (starEach (e :: es) X.env)) (backToKw pos (keywordEach [] X.env))) := by rfl) :
    PE X (.Call (.Attribute o nm apos) (e :: es) [] pos) (tX ⟨X.K, cl, X.w⟩ E (methX n nm L F ms)) := PE_imp (pe_methE (W := WE E.xw) he c hm G hr hb (fun σ => L2N.passAt tk σ) ha hst hpl ht) fun _ _ _ h => methX_run h
end
section
variable {X : Cx} {cl : Nat → Addr} {E : En} {o e : Expr} {es : List Expr} {pos apos : Pos} {k n : Nat} {f : Addr} {fd : FuncData} {ps : List Str} {F : FX} {nm : Str} {ms : AM} {mo : RM}
end
def exG {σ : Type} (er : σ → D) (ρ : List D) : Exn ⊕ σ → (D × List D) ⊕ (Nat × List Str × List D × List D)
  | .inr y => .inl (er y, ρ)
  | .inl e => .inr (e.1, exF e, exD e, ρ)
def EvX {σ : Type} (er : σ → D) (g : XGM) (ρ : List D) (o : Option (Exn ⊕ σ)) : Prop := ∀ r, o = some r → g ρ = some (exG er ρ r)
section
variable {κ τ σ υ : Type} {Q : Fl → List D → υ → Prop} {m : SM} {ρ : List D} {ms : AM} {mo : RM}
theorem x_callX {et et' : τ → List D} {er : σ → D} {F : FX} {t : τ → Option (Exn ⊕ σ)} {os : Option τ} (hT : Tfx et' er F t) (hs : Ea et et' true ms ρ os) : EvX er (callX F ms) ρ (os.bind t) := fun r h => by
  rw [callX_at hT hs h]
  cases r <;> rfl
end
def exV {σ : Type} (er : σ → D) (ρ : List D) : Exn ⊕ σ → (D × List D) ⊕ (Nat × List Str × List D × List D)
  | .inr y => .inl (er y, ρ)
  | .inl e => .inr (e.1, exF e, exD e, ρ)
def EgX {ι σ : Type} (er : σ → D) (out : ι → Exn ⊕ σ) (env : ι → List D) (g : XGM) (ρ : List D) (o : Option ι) : Prop := ∀ r, o = some r → g ρ = some (exV er (env r) (out r))
theorem EvX.eg {σ : Type} {er : σ → D} {g : XGM} {ρ : List D} {o : Option (Exn ⊕ σ)} (h : EvX er g ρ o) : EgX er (fun r => r) (fun _ => ρ) g ρ o := fun r hr => by
  rw [h r hr]; cases r <;> rfl
def bindX {ι σ υ : Type} (out : ι → Exn ⊕ σ) (o : Option ι) (k : ι → σ → Option υ) (f : ι → Exn → υ) : Option υ := o.bind fun r => match out r with
  | .inr y => k r y
  | .inl e => some (f r e)
def Tmx {κ τ σ : Type} (ec : κ → D) (et : τ → List D) (er : σ → D) (F : FX) (t : κ → τ → Option ((Exn ⊕ σ) × κ)) : Prop := ∀ x p r, t x p = some r → ∃ ds', F (ec x :: et p) = some (exR er (ec r.2 :: ds') r.1)
def QfXS {τ κ : Type} (e : τ → D) (kp : List Bool) (mk : κ → List D) : Fl → List D → (Exn ⊕ τ) × κ → Prop := fun fl ρ r => (match r.1 with
  | .inr y => fl = .rt (e y) ∨ (fl = .nx ∧ e y = .non)
  | .inl x => fl = .ex x.1 (exF x) (exD x)) ∧ maskL kp ρ = mk r.2
theorem run_TXS {τ κ : Type} {e : τ → D} {n : Nat} {kp : List Bool} {m : SM} {ds : List D} {mk : κ → List D} {o : Option ((Exn ⊕ τ) × κ)} {r : (Exn ⊕ τ) × κ} (hl : (ds.length == kp.length) = true) (hb : Bk (QfXS e kp mk) m (ds ++ List.replicate (n - ds.length) .gone) o) (h : o = some r) : runX n kp m ds = some (exR e (mk r.2) r.1) := by
  obtain ⟨fl, ρ', h1, h2, h3⟩ := hb r h
  unfold runX
  rw [if_pos (by simpa using hl), h1, Option.bind_some]
  obtain ⟨r1, r2⟩ := r
  cases r1 with
  | inl x =>
    have h2 : fl = .ex x.1 (exF x) (exD x) := h2
    subst h2
    show some (Sum.inr (_, _, _, maskL kp ρ')) = _
    rw [h3]; rfl
  | inr y =>
    rcases (show fl = .rt (e y) ∨ (fl = .nx ∧ e y = .non) from h2) with rfl | ⟨rfl, h4⟩
    · show some (Sum.inl (e y, maskL kp ρ')) = _
      rw [h3]; rfl
    · show some (Sum.inl (D.non, maskL kp ρ')) = some (Sum.inl (e y, mk r2))
      rw [h3, h4]
section
variable {κ τ ι σ υ : Type} {Q : Fl → List D → υ → Prop} {m : SM} {ρ : List D} {ms : AM} {L : Lens} {er : σ → D} {out : ι → Exn ⊕ σ} {env : ι → List D} {g : XGM} {o : Option ι}
theorem eg_methX {ec : κ → D} {x : κ} {et et' : τ → List D} {F : FX} {t : κ → τ → Option ((Exn ⊕ σ) × κ)} {n : Nat} {nm : Str} {env : (Exn ⊕ σ) × κ → List D} {os : Option τ} (hT : Tmx ec et er F t) (hg : L.get ρ = some (ec x)) (hk : isObjK n nm (ec x) = true) (hs : Ea et et' true ms ρ os) (hp : ∀ r, L.put ρ (ec r.2) = env r) :
    EgX er (fun r : (Exn ⊕ σ) × κ => r.1) env (methX n nm L F ms) ρ (os.bind fun p => t x p) := fun r hr => by
  obtain ⟨p, h1, h2⟩ := ob_some hr
  obtain ⟨ds', h3⟩ := hT x p r h2
  unfold methX
  rw [hg, Option.bind_some, hs.run p h1, Option.bind_some, if_pos ⟨hk, hs.fz rfl p⟩, h3, Option.bind_some]
  have := hp r
  obtain ⟨r1, r2⟩ := r
  cases r1 <;> (unfold exR exV; dsimp only at this ⊢; rw [this])
theorem b_exprE {k : ι → σ → Option υ} {f : ι → Exn → υ} (hg : EgX er out env g ρ o) (h1 : ∀ r y, Bk Q m (env r) (k r y)) (h2 : ∀ r e, Q (.ex e.1 (exF e) (exD e)) (env r) (f r e)) : Bk Q (seqM (exprX g) m) ρ (bindX out o k f) := fun z hz => by
  obtain ⟨r, e1, e2⟩ := ob_some hz
  unfold seqM exprX
  rw [hg r e1, Option.bind_some]
  cases h : out r with
  | inl e => rw [h] at e2; cases e2; exact ⟨_, _, rfl, h2 r e⟩
  | inr y => rw [h] at e2; exact h1 r y z e2
theorem b_setE {i : Nat} {k : ι → σ → Option υ} {f : ι → Exn → υ} (env2 : ι → σ → List D) (hg : EgX er out env g ρ o) (he : ∀ r y, (env r).set i (er y) = env2 r y) (h1 : ∀ r y, Bk Q m (env2 r y) (k r y)) (h2 : ∀ r e, Q (.ex e.1 (exF e) (exD e)) (env r) (f r e)) : Bk Q (seqM (setX i g) m) ρ (bindX out o k f) := fun z hz => by
  obtain ⟨r, e1, e2⟩ := ob_some hz
  unfold seqM setX
  rw [hg r e1, Option.bind_some]
  cases h : out r with
  | inl e => rw [h] at e2; cases e2; exact ⟨_, _, rfl, h2 r e⟩
  | inr y =>
    rw [h] at e2
    show ∃ fl ρ', m ((env r).set i (er y)) = _ ∧ _
    rw [he]
    exact h1 r y z e2
end
end LI

namespace LI
open PySem L2 PyProof.Rows
section
variable {X : Cx} {cl : Nat → Addr} {E : En} {pos : Pos}
end
section
variable {α ι σ υ : Type} {Q : Fl → List D → υ → Prop} {m : SM} {ρ : List D} {er : σ → D} {out : ι → Exn ⊕ σ} {env : ι → List D} {g : XGM} {o : Option ι}
theorem b_retE2 {k : ι → σ → υ} {f : ι → Exn → υ} (hg : EgX er out env g ρ o) (h1 : ∀ r y, Q (.rt (er y)) (env r) (k r y)) (h2 : ∀ r e, Q (.ex e.1 (exF e) (exD e)) (env r) (f r e)) : Bk Q (seqM (retX g) m) ρ (bindX out o (fun r y => some (k r y)) f) := fun z hz => by
  obtain ⟨r, e1, e2⟩ := ob_some hz
  unfold seqM retX
  rw [hg r e1, Option.bind_some]
  cases h : out r with
  | inl e => rw [h] at e2; cases e2; exact ⟨_, _, rfl, h2 r e⟩
  | inr y => rw [h] at e2; cases e2; exact ⟨_, _, rfl, h1 r y⟩
end
end LI

namespace LI
open PySem L2 PyProof.Rows
section
variable {P : Program} {w : World} {K : PySem.W.Frag} {mg : Str → Option Value} {base : Heap} {cl : Nat → Addr}
theorem okH_def {x qual : Str} {st : Stmt} {f : Addr} {fd : FuncData} {N ps : List Str} {k : Nat} {kp : List Bool} {m : SM} (F : Fun K x qual st f fd) (S : FnScope N ps (defScope st)) (hk : kp.length = ps.length)
    (hbody : ∀ (cdv : Value) (A : Around) (outer : List Env) (s : Shared) (H : Hp) (E : XK) (p : Addr × Obj) (e : En), e.kp = kp → L2H.RoomH k (A.deeper (envOfC qual (defScope st) s.heap.objs.size f cdv)) →
      PSs (L2H.cxH CX0 P w K mg base N qual (defScope st) f cdv A outer s H E p).nox (defBody st) (tS ⟨K, cl, w⟩ e m)) : L2H.FnH P w K mg base CX0 (k + 1) f fd ps (spD ⟨K, cl, w⟩ (runM N.length kp m)) := by
  obtain ⟨_, _, _, _, _, _, cdv, _, _, e0, lk, hcd⟩ := F.ex
  subst e0
  refine L2H.fn_ofH lk hcd S (fun vs H Q E h => ?_) fun A outer s H vs Q E p hot hr h => ?_
  · obtain ⟨Pp, Sp, ds, d, ds', r, _, _, _, hm, _⟩ := h
    unfold runM at hm
    split at hm
    · rename_i hl
      rw [← r.length, hl, hk]
    · cases hm
  · obtain ⟨Pp, Sp, ds, d, ds', r, e1, e2, e3, hm, q⟩ := h
    unfold runM at hm
    split at hm
    · rename_i hl
      have hlv : vs.length = kp.length := by rw [← r.length, hl]
      have hvs : ∀ i : Nat, kp[i]? = some true → ∃ v, vs[i]? = some v := fun i hi => by
        have hi' : i < kp.length := (List.getElem?_eq_some_iff.mp hi).1
        exact ⟨_, List.getElem?_eq_getElem (by omega)⟩
      refine ⟨_, (hbody cdv A outer s H E p ⟨Pp, H, Sp, kp, vs, hvs, fun _ _ _ _ => False⟩ rfl hr).nox, ?_⟩
      cases em : m (ds ++ List.replicate (N.length - ds.length) .gone) with
      | none => rw [em] at hm; cases hm
      | some rr =>
        obtain ⟨fl, ρ'⟩ := rr
        rw [em, Option.bind_some] at hm
        have w0 : Wd ⟨K, cl, w⟩ ⟨Pp, H, Sp, kp, vs, hvs, fun _ _ _ _ => False⟩ Pp Sp fz (L2.start N vs) H (ds ++ List.replicate (N.length - ds.length) .gone) := by
          refine ⟨?_, fun a => by have := e2 a; simp only [fz]; omega, fun a h => e3 a (by simpa [fz] using h), fun a h => by simp [fz] at h, e1, .refl _, fun _ _ _ h => h, fun a h => .inl h, fun a h => .inl (by simpa [fz] using h), fun i v h1 h2 => ?_⟩
          · unfold L2.start
            rw [r.length]
            exact repE_start _ r
          · unfold L2.start
            have h2 : vs[i]? = some v := h2
            rw [List.getElem?_append_left (by rw [List.length_map]; exact (List.getElem?_eq_some_iff.mp h2).1), List.getElem?_map, h2]
            rfl
        have fin : ∀ (v : V) (σ' : L2.St) (H' P' : Hp) (S' U : FP) (d1 : D), Wd ⟨K, cl, w⟩ ⟨Pp, H, Sp, kp, vs, hvs, fun _ _ _ _ => False⟩ P' S' U σ' H' ρ' → Rep ⟨K, cl, w⟩ P' H' d1 v U → some (d1, maskL kp ρ') = some (d, ds') → Q v H' := by
          intro v σ' H' P' S' U d1 w' rd hs
          cases hs
          obtain ⟨S2, k1, k2⟩ := mask_rep (kp := kp) (vs := vs) w'.env hlv.symm w'.kp
          exact q v H' P' U S2 ⟨w'.p0, w'.ph, w'.fr, w'.np, fun a h => w'.ns a (by have := k2 a; simp only [fa] at h; omega), fun a => by have := k2 a; have := w'.le a; simp only [fa]; omega, fun a h => w'.out a (by have := k2 a; simp only [fa] at h; omega)⟩ rd k1
        refine ⟨Pp, Sp, _, fl, ρ', w0, em, ?_⟩
        cases fl with
        | nx => exact fun σ' H' P' S' w' _ => fin .non σ' H' P' S' fz .non w' ⟨rfl, rfl⟩ hm
        | rt d1 => exact fun v σ' H' P' S' U w' r => fin v σ' H' P' S' U d1 w' r hm
        | bk => cases hm
        | ct => cases hm
        | ex n fs es => cases hm
    · cases hm
end
section
variable {X : Cx} {cl : Nat → Addr} {E : En} {e : Expr} {es : List Expr} {p pos : Pos} {a : Addr} {oe : Obj} {cls : Value} {d : Option Addr} {pn : List (Addr × Obj)} {ms : AM} {F : FM}
theorem roomH_units {k : Nat} {A : Around} (r : L2H.RoomH k A) : A.units + 64 < cLine := by have := r.un; omega
theorem hot_of (hz : L2N.Zn cls d oe) (hf : ∃ vs, oe.data = .fields vs) : L2H.HotC (X.suite a ((a, oe) :: pn)) := by
  obtain ⟨vs, h⟩ := hf
  exact ⟨(a, oe), ⟨rfl, vs, h, hz.2.2 vs h⟩, List.mem_cons_self⟩
theorem f_callH {k : Nat} {f : Addr} {fd : FuncData} {ps : List Str} {x : Str} (hz : L2N.Zn cls d oe) (hf : ∃ vs, oe.data = .fields vs) (G : L2H.FnH X.prog X.w X.K X.mg X.base CX0 k f fd ps (spD ⟨X.K, cl, X.w⟩ F)) (hr : Room k X.A) (hg : Gl X x) (hm : X.mg x = some (.ref f)) (hk : PySem.W.keepIn X.K (.ref f) = true) (hb : Binds X.K fd ps [])
    (ha : PA (X.suite a ((a, oe) :: pn)) (e :: es) (tAR ⟨X.K, cl, X.w⟩ E ms)) (hdb : (x == ("__debug__" : Str)) = false := by decide) (he : starEach (e :: es) X.env = (false, eval e X.env) :: starEach es X.env := by rfl) (hpl : (backTo pos (starEach es X.env)).any (·.1) = false := by rfl) :
    PE (X.suite a ((a, oe) :: pn)) (.Call (.Name x p) (e :: es) [] pos) (tF ⟨X.K, cl, X.w⟩ E (callM F ms)) := PE_imp (L2H.pe_callH (X := X.suite a ((a, oe) :: pn)) (E := fun _ => E0) G ⟨hr.dp, hr.un⟩ (hot_of hz hf) hg hm hk hb (fun _ _ _ _ _ _ _ h => h.elim) ha hdb he hpl) fun σ H Q ⟨P, S, T, ρ, dd, w, h, q⟩ => by
  obtain ⟨ds, ds', e1, e2, hz⟩ := call_split h
  refine ⟨P, S, T, ρ, ds, w, e1, fun vs H1 P1 U1 g1 r1 => ?_⟩
  exact spD_view g1.ph r1 e2 hz (q.grow g1)
end
end LI

namespace LI
open PySem PyProof.Rows L2
section
variable {X : Cx} {CX : CXT} {k : Nat} {f C : Addr} {fd : FuncData} {ps : List Str} {sp : Sp} {W : L2.St → XK} {x : Str} {p pos : Pos} {e : Expr} {es : List Expr} {t : TA}
end
section
variable {X : Cx} {cl : Nat → Addr} {E : En} {e : Expr} {es : List Expr} {pos p : Pos} {k n : Nat} {f : Addr} {fd : FuncData} {ps : List Str} {F : FX} {x : Str} {ms : AM}
end
section
variable {κ τ σ υ : Type} {ρ : List D} {ms : AM}
end
end LI

namespace LI
open PySem PySem.Spec PyProof.Rows L2 HotX L2H
section
variable {X : Cx} {k : Nat} {f : Addr} {fd : FuncData} {ps : List Str} {sp : Addr → Obj → Sp} {x : Str} {q pos : Pos} {e : Expr} {es : List Expr} {t : TA} {a : Addr} {oe : Obj}
end
structure Hd (c : LC) (P : Hp) (n : Nat) (fs : List Str) (es : List D) (cls : Value) (d : Option Addr) : Prop where
  cls : cls = .ref (c.cl n)
  no : fs = [] → d = none
  fld : fs ≠ [] → ∃ dd us, d = some dd ∧ P dd = some (.xd (fs.zip us)) ∧ ∀ H, RepL c P H es us fz
theorem Held.hd {c : LC} {E : En} {i n : Nat} {a : Addr} {fs : List Str} {es : List D} {cls : Value} {d : Option Addr} {P : Hp} (h : Held c E i a n fs es cls d) (e : Ex E.P0 P) : Hd c P n fs es cls d := ⟨h.cls, h.no, fun z => by
  obtain ⟨dd, us, h1, h2, h3⟩ := h.fld z
  exact ⟨dd, us, h1, e _ _ h2, fun H => RepL.mono e _ _ fz (fun b o h1 _ => by simp [fz] at h1) (h3 H)⟩⟩
abbrev FE := Nat → List Str → List D → Option D
section
variable {P : Program} {w : World} {K : PySem.W.Frag} {mg : Str → Option Value} {base : Heap} {cl : Nat → Addr}
end
section
variable {X : Cx} {cl : Nat → Addr} {E : En} {p p1 pos : Pos} {a : Addr} {oe : Obj} {cls : Value} {d : Option Addr} {pn : List (Addr × Obj)} {ms : AM} {F : FE} {i n : Nat} {fs : List Str} {es : List D} {ok : Nat → List Str → Bool}
end
end LI

namespace LI
open PySem L2 PyProof.Rows
def QtB {σ υ : Type} (env : σ → List D) (Q : Fl → List D → υ → Prop) : Fl → List D → (Exn × σ) ⊕ υ → Prop := fun fl ρ t => match t with
  | .inl (e, s) => fl = .ex e.1 (exF e) (exD e) ∧ ρ = env s
  | .inr u => noEx fl = true ∧ Q fl ρ u
def tryB {σ υ : Type} (ok : Exn → Bool) (o : Option ((Exn × σ) ⊕ υ)) (h : σ → Exn → Option υ) : Option υ := o.bind fun r => match r with
  | .inr u => some u
  | .inl (e, s) => if ok e = true then h s e else none
theorem b_tryB {σ υ : Type} {Q : Fl → List D → υ → Prop} {ρ : List D} {mb : SM} {i : Nat} {sub : Nat → List Str → Bool} {mh : Nat → List Str → List D → SM} {o : Option ((Exn × σ) ⊕ υ)} {h : σ → Exn → Option υ} (ok : Exn → Bool) (env : σ → List D) (hb : Bk (QtB env Q) mb ρ o) (hok : ∀ e, ok e = true → sub e.1 (exF e) = true)
    (hi : ∀ s, decide (i < (env s).length) = true) (hρ : ∀ s, (env s).set i .gone = env s) (hh : ∀ s e, Bk (Qi i Q) (mh e.1 (exF e) (exD e)) (env s) (h s e)) : Bk Q (tryM i sub mb mh) ρ (tryB ok o h) := fun z hz => by
  obtain ⟨r, e1, e2⟩ := ob_some hz
  obtain ⟨fl, ρ', h1, h2⟩ := hb r e1
  unfold tryM
  rw [h1, Option.bind_some]
  cases r with
  | inr u =>
    cases e2
    obtain ⟨h3, h4⟩ := h2
    refine ⟨fl, ρ', ?_, h4⟩
    cases fl <;> first | rfl | cases h3
  | inl p =>
    obtain ⟨e, s⟩ := p
    obtain ⟨h3, h4⟩ := h2
    subst h3 h4
    dsimp only at e2
    split at e2
    · rename_i ho
      obtain ⟨fl, ρ2, k1, k2, k3⟩ := hh s e z e2
      refine ⟨fl, ρ2.set i .gone, ?_, k3⟩
      dsimp only
      rw [if_pos ⟨hok e ho, by simpa using hi s⟩, hρ, k1, Option.bind_some]
      cases fl <;> first | rfl | cases k2
    · cases e2
end LI

namespace LI
open PySem PySem.Spec L2 PyProof.Rows
abbrev TSu := Addr → Value → Option Addr → TS
inductive HdsA (X : Cx) (nm : Str) : List ExceptHandler → List (Value × TSu) → Prop
  | nil : HdsA X nm [] []
  | cons {x : Str} {c : Value} {ts : TSu} {b₀ : Stmt} {suite : List Stmt} {np pos' : Pos} {hds : List ExceptHandler} {l : List (Value × TSu)} (hc : Names X x c)
      (hsu : ∀ (a : Addr) (oe : Obj) (cls : Value) (d : Option Addr) (pn : List (Addr × Obj)), L2N.Zn cls d oe → (∃ vs, oe.data = .fields vs) → PSs (X.suite a ((a, oe) :: pn)) (b₀ :: suite) (ts a cls d)) (rest : HdsA X nm hds l) :
      HdsA X nm (.ExceptHandler (some (.Name x np)) (some nm) (b₀ :: suite) pos' :: hds) ((c, ts) :: l)
section
variable {X : Cx} {nm : Str} {i : Nat} {body : List Stmt} {h₀ : ExceptHandler} {hds : List ExceptHandler} {l : List (Value × TSu)} {pos : Pos} {tb : WX → TS} {Wout : WX}
end
abbrev MC := Nat → List Str → Option Bool
abbrev MH := Nat → List Str → List D → SM
inductive HM (X : Cx) (cl : Nat → Addr) (kpH : List Bool) (i : Nat) (nm : Str) : List ExceptHandler → List (Value × TSu) → List (MC × MH) → Prop
  | nil : HM X cl kpH i nm [] [] []
  | cons {x : Str} {b₀ : Stmt} {suite : List Stmt} {np pos' : Pos} {hds : List ExceptHandler} {l : List (Value × TSu)} {hs : List (MC × MH)} {m : MC} {mh : MH} (C : Nat) (hc : Names X x (.ref (cl C))) (hm : ∀ n fs b, m n fs = some b → PySem.W.exmOne X.K (.ref (cl n)) (.ref (cl C)) = some b)
      (hsu : ∀ (a : Addr) (oe : Obj) (cls : Value) (d : Option Addr) (pn : List (Addr × Obj)) (n : Nat) (fs : List Str) (es : List D) (E' : En), L2N.Zn cls d oe → (∃ vs, oe.data = .fields vs) → E'.kp = kpH → m n fs = some true → Held ⟨X.K, cl, X.w⟩ E' i a n fs es cls d → PSs (X.suite a ((a, oe) :: pn)) (b₀ :: suite) (tS ⟨X.K, cl, X.w⟩ E' (mh n fs es))) (rest : HM X cl kpH i nm hds l hs) :
      HM X cl kpH i nm (.ExceptHandler (some (.Name x np)) (some nm) (b₀ :: suite) pos' :: hds) ((.ref (cl C), tSu ⟨X.K, cl, X.w⟩ kpH i mh (fun n fs => m n fs == some true)) :: l) ((m, mh) :: hs)
theorem HM.hds {X : Cx} {cl : Nat → Addr} {kpH : List Bool} {i : Nat} {nm : Str} {hds : List ExceptHandler} {l : List (Value × TSu)} {hs : List (MC × MH)} (h : HM X cl kpH i nm hds l hs) : HdsA X nm hds l := by
  induction h with
  | nil => exact .nil
  | cons C hc hm hsu rest ih =>
    refine .cons hc (fun a oe cls d pn hz hd => ⟨fun pins s σ H De I h => ?_⟩) ih
    obtain ⟨E', n, fs, es, h1, h2, h3, h4⟩ := h
    exact (hsu a oe cls d pn n fs es E' hz hd h1 (beq_iff_eq.mp h2) h3).run pins s σ H De I h4
section
variable {X : Cx} {cl : Nat → Addr} {E : En} {nm : Str} {body : List Stmt} {h₀ : ExceptHandler} {hds : List ExceptHandler} {l : List (Value × TSu)} {hs : List (MC × MH)} {pos : Pos} {mb : SM}
end
end LI

namespace LI
open PySem L2 PyProof.Rows
def e0 (_ : Unit) : D := .tup []
section
variable {α β γ δ ε ζ η : Type} {a : α → D} {b : β → D} {c : γ → D} {d : δ → D} {e : ε → D} {f : ζ → D} {g : η → D}
end
end LI

namespace LI
open PySem PySem.Spec L2 PyProof.Rows
section
variable {X : Cx} {x : Str} {c : Value} {body suite orelse : List Stmt} {b₀ : Stmt} {np pos pos' : Pos} {tb : WX → TS} {ts : TSu} {Wout : WX} {u : TS}
end
section
variable {X : Cx} {cl : Nat → Addr} {E : En} {x : Str} {cx : Value} {body suite orelse : List Stmt} {b₀ : Stmt} {np pos pos' : Pos} {mb ms me : SM} {sub : Nat → List Str → Bool}
end
end LI

namespace LI
open PySem PySem.Spec PyProof.Rows L2 PySem.W CwR
section
variable {α β : Type} {env : Env}
end
section
variable {X : Cx} {cl : Nat → Addr} {E : En} {st : Stmt} {rest : List Stmt} {t u : TS} {ma mb : SM}
end
section
variable {X : Cx} {cl : Nat → Addr} {E : En} {o : Expr} {x y z : Str} {apos pos c0 c1 c2 : Pos} {j0 j1 j2 : Nat} {m : RM}
end
end LI

namespace LI
open PySem PySem.Spec PyProof.Rows L2 Builtin Builtin.Str
section
variable {prog : Program} {w : World} {A : Around} {E : Value → Shared → Prop} {s : Shared} {x y z : Str} {t u v k : Tok} {Q : Value → Shared → Prop}
end
section
variable {X : Cx} {cl : Nat → Addr} {E : En} {o : Expr} {to : TE} {y z : Str} {apos pos c0 c1 c2 : Pos} {j0 j1 j2 : Nat} {m : RM}
end
end LI

namespace LI
open PySem PySem.Spec PyProof.Rows L2 MeetsSeq MeetsSeq2 MeetsSeq3
section
variable {P : Program} {w : World} {A : Around} {E : Value → Shared → Prop}
end
section
variable {X : Cx} {pins : List (Addr × Obj)} {σ : L2.St} {H : Hp} {s : Shared}
end
section
variable {X : Cx} {A : Around} {E : Value → Shared → Prop}
end
section
variable {α β κ : Type} {e e' : α → D} {f f' : β → D}
end
end LI

namespace LI
open PySem PySem.Spec PyProof.Rows L2
section
variable {X : Cx} {cl : Nat → Addr} {E : En} {e : Expr} {x : Str} {p pos : Pos} {m : RM}
end
end LI

namespace LI
open PySem L2 PyProof.Rows
section
variable {P : Program} {w : World} {K : PySem.W.Frag} {mg : Str → Option Value} {base : Heap} {sp : Sp}
end
section
variable {P : Program} {w : World} {K : PySem.W.Frag} {mg : Str → Option Value} {base : Heap} {cl : Nat → Addr}
end
end LI

namespace LI
open PySem L2 PyProof.Rows
abbrev XAM := List D → Option ((List D × List D) ⊕ (Nat × List Str × List D × List D))
section
variable {X : Cx} {cl : Nat → Addr} {E : En} {e : Expr} {es : List Expr} {m : RM} {pre post : AM} {g : XGM}
end
section
variable {X : Cx} {cl : Nat → Addr} {E : En} {e : Expr} {es : List Expr} {pos p : Pos} {ms : XAM} {CX : CXT} {k n : Nat} {f : Addr} {fd : FuncData} {ps : List Str} {XE : XK} {x : Str}
end
section
variable {X : Cx} {cl : Nat → Addr} {E : En} {e : Expr} {es : List Expr} {pos p apos px : Pos} {ms : XAM} {CX : CXT} {k : Nat} {f : Addr} {fd : FuncData} {ps : List Str} {XE : XK} {x nm : Str}
end
section
variable {X : Cx} {cl : Nat → Addr} {E : En} {o value : Expr} {pos pos' : Pos} {g : XGM} {L : Lens} {f : Str}
end
section
variable {ι σ υ τ1 τ2 β : Type} {ρ : List D} {pre post : AM} {g : XGM} {et1 et1' : τ1 → List D} {et2 et2' : τ2 → List D} {eg : σ → D} {out : ι → Exn ⊕ σ} {env : ι → List D} {o1 : Option τ1} {og : Option ι} {o2 : ι → Option τ2}
end
section
variable {κ α β σ : Type} {ek : κ → D} {kq : κ → Key} {mi : RM} {L : Lens} {ρ : List D} {o : Bool} {er : σ → D} {out : β → Exn ⊕ σ}
end
section
variable {ι σ υ : Type} {Q : Fl → List D → υ → Prop} {m : SM} {ρ : List D} {L : Lens} {er : σ → D} {out : ι → Exn ⊕ σ} {env : ι → List D} {g : XGM} {o : Option ι} {n : Nat} {f : Str}
end
def coldX (g : XGM) : XGM := fun ρ => (g ρ).bind fun r => match r with
  | .inl (d, ρ1) => some (.inl (ice d, ρ1))
  | .inr (n, fs, es, ρ1) => some (.inr (n, fs, es, ρ1))
theorem f_coldX {X : Cx} {cl : Nat → Addr} {E : En} {e : Expr} {g : XGM} (h : PE X e (tX ⟨X.K, cl, X.w⟩ E g)) : PE X e (tX ⟨X.K, cl, X.w⟩ E (coldX g)) := PE_imp h fun σ H Q ⟨P, S, ρ, r, w, hm, q⟩ => by
  unfold coldX at hm
  cases e1 : g ρ with
  | none => rw [e1] at hm; cases hm
  | some r1 =>
    rw [e1, Option.bind_some] at hm
    refine ⟨P, S, ρ, r1, w, e1, ?_⟩
    cases r1 with
    | inr r1 => cases hm; exact q
    | inl r1 =>
      obtain ⟨d1, ρ1⟩ := r1
      cases hm
      refine fun v H' P' S' U w0 x r => ?_
      have w' : Wd ⟨X.K, cl, X.w⟩ E P' S' (fa fz U) σ H' ρ1 := by rw [fz_fa]; exact w0
      have hP : ∀ a, 0 < U a → P' a = none := fun a z => w'.out a (by simp only [fa]; omega)
      have ex : Ex P' (fun a => if 0 < U a then H' a else P' a) := fun a o z => by
        by_cases hu : 0 < U a
        · rw [hP a hu] at z; cases z
        · simp [hu, z]
      have hr : Rep ⟨X.K, cl, X.w⟩ (fun a => if 0 < U a then H' a else P' a) H' (ice d1) v fz := Rep.ice ex d1 v U (fun a o z1 z2 => by simp [z1, z2]) r
      refine q v H' _ S' fz ?_ (x.trans ex) hr
      refine ⟨RepE.mono ex _ _ _ (fun _ _ _ h => h) w'.env, fun a => ?_, fun a z => ?_, fun a z => by simp [fz] at z, fun a o z => ?_, w'.p0.trans ex, fun a o z1 z2 => w'.fr a o z1 z2, fun a z => ?_, fun a z => w'.ns a (by simp only [fa, fz] at *; omega), w'.kp⟩
      · have := w'.le a; simp only [fa, fz] at *; omega
      · have l := w'.le a
        have hu : ¬ 0 < U a := by simp only [fa, fz] at *; omega
        simp only [hu, if_false]
        exact w'.out a (by simp only [fa, fz] at *; omega)
      · by_cases hu : 0 < U a
        · simpa [hu] using z
        · exact w'.ph a o (by simpa [hu] using z)
      · by_cases hu : 0 < U a
        · exact .inr (w'.ns a (by simp only [fa]; omega))
        · exact w'.np a (by simpa [hu] using z)
theorem eg_coldX {ι σ : Type} {er er' : σ → D} [Ic er er'] {out : ι → Exn ⊕ σ} {env : ι → List D} {g : XGM} {ρ : List D} {o : Option ι} (h : EgX er out env g ρ o) : EgX er' out env (coldX g) ρ o := fun r hr => by
  unfold coldX
  rw [h r hr, Option.bind_some]
  cases e : out r with
  | inl e => rfl
  | inr y =>
    show some (Sum.inl (ice (er y), env r)) = some (Sum.inl (er' y, env r))
    rw [Ic.ic (e := er)]
section
variable {X : Cx} {CX : CXT} {k : Nat} {f C : Addr} {fd : FuncData} {ps : List Str} {sp : Sp} {W : L2.St → XK} {x : Str} {p pos : Pos} {e : Expr} {es : List Expr} {t : TA} {dvs : List V} {ds : List Value}
end
end LI

namespace LI
open PySem L2 PyProof.Rows
section
variable {X : Cx}
end
section
variable {X : Cx} {cl : Nat → Addr} {E : En} {e o : Expr} {pos apos : Pos} {m mo : RM}
end
section
variable {X : Cx} {cl : Nat → Addr} {E : En} {e o : Expr} {pos apos : Pos} {m mo : RM}
end
end LI

namespace LI
open PySem L2 PyProof.Rows
end LI

namespace LI
open PySem PySem.Spec PyProof.Rows L2 MeetsSeq MeetsSeq2 MeetsSeq3 SeqAt
section
variable {prog : Program} {w : World} {A : Around} {s : Shared} {K : Type} [DecidableEq K] {knd : KeyKind prog w K}
end
section
variable {X : Cx}
end
end LI

namespace LI
open PySem L2
section
variable {X : Cx} {cl : Nat → Addr} {E : En} {tg : Expr} {pos p1 p2 lp : Pos} {x1 x2 : Str}
end
section
variable {α σ τ : Type} {Q : Fl → List D → τ → Prop} {e : α → D} {r body : SM} {ρ : List D} {k : (α × α) × σ → Option τ} {kl : List Nat}
end
def mapR {σ σ' : Type} (c : σ → σ') : Exn ⊕ σ → Exn ⊕ σ'
  | .inl e => .inl e
  | .inr y => .inr (c y)
theorem eg_mapX {ι σ σ' : Type} {er : σ → D} {er' : σ' → D} {out : ι → Exn ⊕ σ} {env : ι → List D} {g : XGM} {ρ : List D} {o : Option ι} (c : σ → σ') (hc : ∀ y, er y = er' (c y)) (h : EgX er out env g ρ o) : EgX er' (fun r => mapR c (out r)) env g ρ o := fun r hr => by
  rw [h r hr]
  show some (exV er (env r) (out r)) = some (exV er' (env r) (mapR c (out r)))
  cases out r with
  | inl e => rfl
  | inr y =>
    show some (Sum.inl (er y, env r)) = some (Sum.inl (er' (c y), env r))
    rw [hc]
end LI

namespace LI
open PySem PySem.Spec PyProof.Rows L2
section
variable {prog : Program} {w : World} {A : Around} {E : Value → Shared → Prop} {s : Shared}
end
section
variable {X : Cx}
end
section
variable {X : Cx} {cl : Nat → Addr} {E : En} {pos : Pos} {m : RM}
end
section
variable {α τ : Type} {e : α → D} {m : RM} {ρ : List D} {o : Option (List α)} {b : Bool}
end
end LI

namespace LI
open PySem PySem.Spec PyProof.Rows L2
section
variable {X : Cx} {cl : Nat → Addr} {E : En} {pos : Pos}
end
section
variable {m : RM} {ms : AM} {ρ : List D} {os : Option (List Ts)}
end
section
variable {X : Cx} {cl : Nat → Addr} {E : En} {p p2 pos : Pos} {x : Str} {kvs : List (List Nat × List Nat)}
end
end LI

namespace LI
open PySem L2
def argE (ρ : List D) : RM ⊕ Nat → Option D
  | .inl m => (m ρ).bind fun d => if frz d = true then some d else none
  | .inr i => (ρ[i]?).bind fun d => if notGone d = true then some d else none
def argsE (ρ : List D) : List (RM ⊕ Nat) → Option (List D)
  | [] => some []
  | x :: xs => (argE ρ x).bind fun d => (argsE ρ xs).bind fun ds => some (d :: ds)
def backE : List (RM ⊕ Nat) → List D → List D → List D
  | .inr i :: xs, d :: ds, ρ => backE xs ds (ρ.set i d)
  | .inl _ :: xs, _ :: ds, ρ => backE xs ds ρ
  | _, _, ρ => ρ
def slotsE : List (RM ⊕ Nat) → List Nat
  | [] => []
  | .inl _ :: xs => slotsE xs
  | .inr i :: xs => i :: slotsE xs
def SlotsAt (ρ : List D) : List (RM ⊕ Nat) → List D → Prop
  | [], [] => True
  | .inl _ :: xs, _ :: ds => SlotsAt ρ xs ds
  | .inr i :: xs, d :: ds => ρ[i]? = some d ∧ notGone d = true ∧ SlotsAt ρ xs ds
  | _, _ => False
def FitE (c : LC) (P H : Hp) (σ : L2.St) : List (RM ⊕ Nat) → List D → List V → Prop
  | [], [], [] => True
  | .inl _ :: xs, d :: ds, v :: vs => Rep c P H d v fz ∧ FitE c P H σ xs ds vs
  | .inr i :: xs, _ :: ds, v :: vs => σ[i]? = some (some v) ∧ FitE c P H σ xs ds vs
  | _, _, _ => False
theorem slots_set {i : Nat} {d0 : D} {ρ : List D} : ∀ {xs : List (RM ⊕ Nat)} {ds : List D}, i ∉ slotsE xs → SlotsAt ρ xs ds → SlotsAt (ρ.set i d0) xs ds
  | [], [], _, _ => trivial
  | .inl _ :: xs, _ :: ds, hi, h => slots_set (xs := xs) hi h
  | .inr j :: xs, d :: ds, hi, ⟨h1, h2, h3⟩ => by
    have hi : i ∉ j :: slotsE xs := hi
    rw [List.mem_cons, not_or] at hi
    exact ⟨by rw [List.getElem?_set_ne hi.1]; exact h1, h2, slots_set hi.2 h3⟩
  | [], _ :: _, _, h => h.elim
  | .inl _ :: _, [], _, h => h.elim
  | .inr _ :: _, [], _, h => h.elim
theorem back_set {i : Nat} {d0 : D} : ∀ {xs : List (RM ⊕ Nat)} {ds ρ : List D}, i ∉ slotsE xs → backE xs ds (ρ.set i d0) = (backE xs ds ρ).set i d0
  | [], ds, ρ, _ => by cases ds <;> rfl
  | .inl _ :: xs, [], ρ, _ => rfl
  | .inl _ :: xs, _ :: ds, ρ, hi => back_set (xs := xs) hi
  | .inr j :: xs, [], ρ, _ => rfl
  | .inr j :: xs, d :: ds, ρ, hi => by
    have hi : i ∉ j :: slotsE xs := hi
    rw [List.mem_cons, not_or] at hi
    show backE xs ds ((ρ.set i d0).set j d) = (backE xs ds (ρ.set j d)).set i d0
    rw [List.set_comm _ _ hi.1, back_set hi.2]
theorem args_at {ρ : List D} : ∀ {xs : List (RM ⊕ Nat)} {ds : List D}, argsE ρ xs = some ds → SlotsAt ρ xs ds
  | [], ds, h => by cases h; trivial
  | .inl m :: xs, ds, h => by
    unfold argsE at h
    cases e1 : argE ρ (.inl m) with
    | none => rw [e1] at h; cases h
    | some d =>
      cases e2 : argsE ρ xs with
      | none => rw [e1, e2] at h; cases h
      | some ds' =>
        rw [e1, e2] at h
        cases h
        exact args_at (xs := xs) e2
  | .inr i :: xs, ds, h => by
    unfold argsE at h
    cases e1 : argE ρ (.inr i) with
    | none => rw [e1] at h; cases h
    | some d =>
      cases e2 : argsE ρ xs with
      | none => rw [e1, e2] at h; cases h
      | some ds' =>
        rw [e1, e2] at h
        cases h
        replace e1 : ((ρ[i]?).bind fun d => if notGone d = true then some d else none) = some d := e1
        cases e3 : ρ[i]? with
        | none => rw [e3] at e1; cases e1
        | some d1 =>
          rw [e3, Option.bind_some] at e1
          split at e1
          · rename_i hn
            cases e1
            exact ⟨e3, hn, args_at (xs := xs) e2⟩
          · cases e1
theorem takeAll {c : LC} {P H : Hp} {σ : L2.St} : ∀ {xs : List (RM ⊕ Nat)} {ds : List D} {vs : List V} {ρ : List D} {S : FP}, RepE c P H ρ σ S → SlotsAt ρ xs ds → (slotsE xs).Nodup → FitE c P H σ xs ds vs → ∃ (Sd R : FP), RepL c P H ds vs Sd ∧ (∀ a, S a = Sd a + R a) ∧
    ∀ P2 H2 ds' S', Ex P P2 → (∀ a o, 0 < R a → H a = some o → H2 a = some o) → RepL c P2 H2 ds' vs S' → ∃ S2, RepE c P2 H2 (backE xs ds' ρ) σ S2 ∧ ∀ a, S2 a ≤ S' a + R a
  | [], [], [], ρ, S, w, _, _, _ => ⟨fz, S, ⟨rfl, rfl⟩, fun a => by simp [fz], fun P2 H2 ds' S' e fr r => ⟨S, by
      have : backE [] ds' ρ = ρ := by cases ds' <;> rfl
      rw [this]
      exact RepE.mono e ρ σ S fr w, fun a => by omega⟩⟩
  | .inl m :: xs, d :: ds, v :: vs, ρ, S, w, hs, hn, ⟨hr, hf⟩ => by
    obtain ⟨Sd, R, h1, h2, h3⟩ := takeAll (xs := xs) w hs hn hf
    refine ⟨Sd, R, ⟨v, vs, fz, Sd, rfl, hr, h1, by rw [fz_fa]⟩, h2, fun P2 H2 ds' S' e fr r => ?_⟩
    cases ds' with
    | nil => exact absurd r.1 (by simp)
    | cons d' ds' =>
      obtain ⟨y, ys, A, B, e1, r1, r2, f⟩ := r
      cases e1
      obtain ⟨S2, k1, k2⟩ := h3 P2 H2 ds' B e fr r2
      exact ⟨S2, k1, fun a => by have := k2 a; rw [f]; simp only [fa]; omega⟩
  | .inr i :: xs, d :: ds, v :: vs, ρ, S, w, ⟨hi, hg, hs⟩, hn, ⟨hv, hf⟩ => by
    have hn : (i :: slotsE xs).Nodup := hn
    rw [List.nodup_cons] at hn
    obtain ⟨v0, Sd0, R0, hσ, hrep, hsum, hput⟩ := w.focus hi hg
    rw [hv] at hσ
    cases hσ
    have w1 := hput P H .gone fz (.refl P) (fun _ _ _ h => h) rfl
    obtain ⟨Sd, R, h1, h2, h3⟩ := takeAll (xs := xs) w1 (slots_set hn.1 hs) hn.2 hf
    refine ⟨fa Sd0 Sd, R, ⟨v, vs, Sd0, Sd, rfl, hrep, h1, rfl⟩, fun a => ?_, fun P2 H2 ds' S' e fr r => ?_⟩
    · have := hsum a; have := h2 a; simp only [fa, fz] at *; omega
    · cases ds' with
      | nil => exact absurd r.1 (by simp)
      | cons d' ds' =>
        obtain ⟨y, ys, A, B, e1, r1, r2, f⟩ := r
        cases e1
        obtain ⟨S2, k1, k2⟩ := h3 P2 H2 ds' B e fr r2
        obtain ⟨S3, k3, k4⟩ := RepE.set r1 i k1
        have eσ : σ.set i (some v) = σ := by
          obtain ⟨hl, he⟩ := List.getElem?_eq_some_iff.mp hv
          apply List.ext_getElem (by simp)
          intro j j1 j2
          by_cases q : i = j
          · subst q; simp [he]
          · rw [List.getElem_set_ne q]
        have eρ : (backE xs ds' (ρ.set i .gone)).set i d' = backE (.inr i :: xs) (d' :: ds') ρ := by
          rw [← back_set hn.1, List.set_set]; rfl
        rw [eσ, eρ] at k3
        exact ⟨S3, k3, fun a => by have := k2 a; have := k4 a; rw [f]; simp only [fa]; omega⟩
  | [], [], _ :: _, _, _, _, _, _, h => h.elim
  | [], _ :: _, _, _, _, _, h, _, _ => h.elim
  | .inl _ :: _, [], _, _, _, _, h, _, _ => h.elim
  | .inl _ :: _, _ :: _, [], _, _, _, _, _, h => h.elim
  | .inr _ :: _, [], _, _, _, _, h, _, _ => h.elim
  | .inr _ :: _, _ :: _, [], _, _, _, _, _, h => h.elim
def tAE (c : LC) (E : En) (xs : List (RM ⊕ Nat)) : TA := fun σ H Q => ∃ P S T ρ ds, Wd c E P S T σ H ρ ∧ argsE ρ xs = some ds ∧ ∀ vs H' P', Gr P H P' H' → FitE c P' H' σ xs ds vs → Q vs H'
section
variable {X : Cx} {cl : Nat → Addr} {E : En} {e : Expr} {es : List Expr} {pos p : Pos} {m : RM} {xs : List (RM ⊕ Nat)} {x : Str} {k : Nat} {fad : Addr} {fd : FuncData} {ps : List Str} {F : FM} {XE : XK} {CX : CXT}
theorem ae_nil : PA X [] (tAE ⟨X.K, cl, X.w⟩ E []) := PA_imp pa_nil fun σ H Q ⟨P, S, T, ρ, ds, w, hm, q⟩ => by
  cases hm
  exact q [] H P (.refl w.ph) trivial
theorem ae_view (he : PE X e (tR ⟨X.K, cl, X.w⟩ E m)) (ha : PA X es (tAE ⟨X.K, cl, X.w⟩ E xs)) (hs : starEach (e :: es) X.env = (false, eval e X.env) :: starEach es X.env := by rfl) : PA X (e :: es) (tAE ⟨X.K, cl, X.w⟩ E (.inl m :: xs)) :=
  PA_imp (pa_cons he ha hs) fun σ H Q ⟨P, S, T, ρ, ds, w, hm, q⟩ => by
    unfold argsE at hm
    cases e1 : argE ρ (.inl m) with
    | none => rw [e1] at hm; cases hm
    | some d =>
      cases e2 : argsE ρ xs with
      | none => rw [e1, e2] at hm; cases hm
      | some ds' =>
        rw [e1, e2] at hm
        cases hm
        replace e1 : ((m ρ).bind fun d => if frz d = true then some d else none) = some d := e1
        cases e3 : m ρ with
        | none => rw [e3] at e1; cases e1
        | some d1 =>
          rw [e3, Option.bind_some] at e1
          split at e1
          · rename_i hz
            cases e1
            refine ⟨P, S, T, ρ, d, w, e3, fun v H1 P1 U g1 r1 => ⟨P1, S, T, ρ, ds', w.grow g1, e2, fun vs H2 P2 g2 hf => ?_⟩⟩
            have hU := Rep.frz0 d v U hz r1
            subst hU
            exact q (v :: vs) H2 P2 (g1.trans g2) ⟨r1.gr g2, hf⟩
          · cases e1
theorem ae_slot (i : Nat) {y : Str} (ha : PA X es (tAE ⟨X.K, cl, X.w⟩ E xs)) (hN : X.N[i]? = some y := by rfl) (hv : Vis X.env.scope y := by first | exact Or.inl rfl | exact Or.inr (Or.inl rfl) | exact Or.inr (Or.inr rfl)) (hd : (y == ("__debug__" : Str)) = false := by decide)
    (hcd : (y == ("__classdict__" : Str)) = false := by decide) (hs : starEach (.Name y p :: es) X.env = (false, eval (.Name y p) X.env) :: starEach es X.env := by rfl) : PA X (.Name y p :: es) (tAE ⟨X.K, cl, X.w⟩ E (.inr i :: xs)) :=
  PA_imp (pa_cons (pe_var hN hv hd hcd) ha hs) fun σ H Q ⟨P, S, T, ρ, ds, w, hm, q⟩ => by
    have hat := args_at hm
    unfold argsE at hm
    cases e1 : argE ρ (.inr i) with
    | none => rw [e1] at hm; cases hm
    | some d =>
      cases e2 : argsE ρ xs with
      | none => rw [e1, e2] at hm; cases hm
      | some ds' =>
        rw [e1, e2] at hm
        cases hm
        obtain ⟨h1, h2, h3⟩ := hat
        obtain ⟨v, Sd, R, k1, k2, k3, k4⟩ := w.env.focus h1 h2
        exact ⟨v, k1, P, S, T, ρ, ds', w, e2, fun vs H2 P2 g2 hf => q (v :: vs) H2 P2 g2 ⟨k1, hf⟩⟩
end
section
variable {α τ β : Type} {m : RM} {ρ : List D} {xs : List (RM ⊕ Nat)} {et : τ → List D} {os : Option τ}
def Eas (et : τ → List D) (xs : List (RM ⊕ Nat)) (ρ : List D) (o : Option τ) : Prop := ∀ t, o = some t → argsE ρ xs = some (et t)
theorem eas_nil : Eas (τ := Unit) (fun _ => []) [] ρ (some ()) := fun t h => rfl
theorem eas_v {e : α → D} [Fz e] {o : Option α} (h : Ev e m ρ o) (r : Eas et xs ρ os) : Eas (fun t : α × τ => e t.1 :: et t.2) (.inl m :: xs) ρ (o.bind fun x => os.bind fun y => some (x, y)) := fun t ht => by
  obtain ⟨x, h1, h2⟩ := ob_some ht
  obtain ⟨y, h3, h4⟩ := ob_some h2
  cases h4
  unfold argsE
  show (((m ρ).bind fun d => if frz d = true then some d else none).bind fun d => (argsE ρ xs).bind fun ds => some (d :: ds)) = _
  rw [h x h1, Option.bind_some, if_pos (Fz.fz x), Option.bind_some, r y h3]; rfl
theorem eas_s {i : Nat} {d : D} (hd : ρ[i]? = some d) (hn : notGone d = true) (r : Eas et xs ρ os) : Eas (fun t => d :: et t) (.inr i :: xs) ρ os := fun t ht => by
  unfold argsE
  show (((ρ[i]?).bind fun d => if notGone d = true then some d else none).bind fun d => (argsE ρ xs).bind fun ds => some (d :: ds)) = _
  rw [hd, Option.bind_some, if_pos hn, Option.bind_some, r t ht]; rfl
end
end LI

namespace LI
open PySem PySem.Spec PyProof.Rows L2
section
variable {X : Cx} {cl : Nat → Addr} {E : En} {e e2 : Expr} {m m2 : RM} {elts : List Expr} {kk : Nat} {p pos tpos : Pos}
end
section
variable {γ δ β : Type} {ma mb : RM} {ρ : List D} {o : Option Ts} {ob : Option β} {f : β → D} {b : δ → D} {gb : β → List δ}
end
end LI

namespace LI
open PySem L2
def lendsX (F : FX) (xs : List (RM ⊕ Nat)) : XGM := fun ρ => (argsE ρ xs).bind fun ds => if (slotsE xs).Nodup then (F ds).bind fun r => match r with
  | .inl (d, rs) => some (.inl (d, backE xs rs ρ))
  | .inr (k, fs, es, rs) => some (.inr (k, fs, es, backE xs rs ρ))
  else none
section
variable {X : Cx} {cl : Nat → Addr} {E : En} {e : Expr} {es : List Expr} {pos p : Pos} {xs : List (RM ⊕ Nat)} {x : Str} {k : Nat} {f : Addr} {fd : FuncData} {ps : List Str} {F : FX}
theorem f_lendsX (G : FnOk X.prog X.w X.K X.mg X.base (L2N.CX X.prog X.w) k f fd ps (spX ⟨X.K, cl, X.w⟩ F)) (hr : Room k X.A) (hg : Gl X x) (hm : X.mg x = some (.ref f)) (hk : PySem.W.keepIn X.K (.ref f) = true) (hb : Binds X.K fd ps []) (tk : L2N.Takes X E.xw)
    (ha : PA X (e :: es) (tAE ⟨X.K, cl, X.w⟩ E xs)) (hdb : (x == ("__debug__" : Str)) = false := by decide) (he : starEach (e :: es) X.env = (false, eval e X.env) :: starEach es X.env := by rfl) (hpl : (backTo pos (starEach es X.env)).any (·.1) = false := by rfl) :
    PE X (.Call (.Name x p) (e :: es) [] pos) (tX ⟨X.K, cl, X.w⟩ E (lendsX F xs)) := PE_imp (pe_callS G hr hg hm hk hb (fun σ => L2N.passAt tk σ) ha hdb he hpl) fun σ H Q ⟨P, S, ρ, r0, w, hm, q⟩ => by
  unfold lendsX at hm
  cases ea : argsE ρ xs with
  | none => rw [ea] at hm; cases hm
  | some ds =>
    rw [ea, Option.bind_some] at hm
    split at hm
    · rename_i hnd
      cases e4 : F ds with
      | none => rw [e4] at hm; cases hm
      | some r =>
        rw [e4, Option.bind_some] at hm
        refine ⟨P, S, fz, ρ, ds, w, ea, fun vs H1 P1 g1 hf => ?_⟩
        have w1 := w.grow g1
        obtain ⟨Sd, R, r1, hsum, hput⟩ := takeAll w1.env (args_at ea) hnd hf
        refine ⟨P1, Sd, ds, r, r1, g1.ph, fun b => by have := w1.le b; have := hsum b; omega, fun b hb => w1.out b (by have := hsum b; omega), e4, ?_⟩
        cases r with
        | inl r =>
          obtain ⟨d1, rs⟩ := r
          cases hm
          intro v2 H2 P2 U S' st rd rl
          obtain ⟨S2, henv, h2⟩ := hput P2 H2 rs S' st.p0 (fun b u hb hu => st.fr b u (by have := w1.le b; have := hsum b; omega) hu) rl
          have w2 := w1.through hsum st henv (U := U) (fun b => by have := h2 b; simp only [fa]; omega) (Rep.there d1 v2 U rd)
          rw [fz_fa] at w2
          exact q v2 H2 P2 _ U w2 (g1.p.trans st.p0) rd
        | inr r =>
          obtain ⟨k', fs', es', rs⟩ := r
          cases hm
          intro us H2 P2 S' st re rl
          obtain ⟨S2, henv, h2⟩ := hput P2 H2 rs S' st.p0 (fun b u hb hu => st.fr b u (by have := w1.le b; have := hsum b; omega) hu) rl
          have st2 : Stp P1 Sd H1 P2 (fa fz S') H2 := by rw [fz_fa]; exact st
          have w2 := w1.through hsum st2 henv (U := fz) (fun b => by have := h2 b; simp only [fa, fz]; omega) (fun b hb => by simp [fz] at hb)
          rw [fa_fz] at w2
          exact q us H2 P2 _ w2 (g1.p.trans st.p0) re
    · cases hm
end
section
variable {τ σ κ : Type} {ρ : List D} {xs : List (RM ⊕ Nat)} {et : τ → List D} {os : Option τ}
theorem eg_lendsX {F : FX} {er : σ → D} {eo : τ → (Exn ⊕ σ) × κ → List D} {env : (Exn ⊕ σ) × κ → List D} {f : τ → Option ((Exn ⊕ σ) × κ)} (h : Eas et xs ρ os) (hf : ∀ t r, f t = some r → F (et t) = some (exR er (eo t r) r.1)) (hn : (slotsE xs).Nodup) (hb : ∀ t r, backE xs (eo t r) ρ = env r) : EgX er (fun r : (Exn ⊕ σ) × κ => r.1) env (lendsX F xs) ρ (os.bind f) := fun r hr => by
  obtain ⟨t, h1, h2⟩ := ob_some hr
  unfold lendsX
  rw [h t h1, Option.bind_some, if_pos hn, hf t r h2, Option.bind_some]
  have := hb t r
  obtain ⟨r1, r2⟩ := r
  cases r1 <;> (unfold exR exV; dsimp only at this ⊢; rw [this])
end
end LI

namespace LI
open PySem L2 PyProof.Rows
def ErrAt (H : Hp) (a C : Addr) : Prop := (∃ d fs, H a = some (exo a C (some d)) ∧ H d = some (exd d fs)) ∨ H a = some (ExO (.ref C) a)
theorem ErrAt.mono {H H' : Hp} {a C : Addr} (e : Ex H H') : ErrAt H a C → ErrAt H' a C
  | .inl ⟨d, fs, h1, h2⟩ => .inl ⟨d, fs, e _ _ h1, e _ _ h2⟩
  | .inr h => .inr (e _ _ h)
theorem ErrAt.inst {P : Program} {w : World} {H : Hp} {h : Heap} {a C : Addr} (hok : HOk P w H h) (z : ErrAt H a C) : ∃ oe od, PySem.W.InstAt h a oe C od := by
  rcases z with ⟨d, fs, h1, h2⟩ | h1
  · obtain ⟨t0, he⟩ := exo_at hok h1
    obtain ⟨u, hu⟩ := objOk_get (hok d _ h2)
    exact ⟨_, some u, he, rfl, rfl, hu⟩
  · obtain ⟨⟨oe, vs, ho, hz, hd, _⟩, _, _⟩ := hok a _ h1
    exact ⟨oe, none, ho, hz.1, by unfold PySem.W.notCls; rw [hd], by rw [hz.2]; trivial⟩
section
variable {Y : Cx} {ar : Expr} {ars : List Expr} {wa : TA} {gn : Str} {q0 q1 : Pos} {Cc fJ : Addr} {jj : Nat} {fe : FuncData} {pz : List Str} {sq : Sp} {CY : CXT}
def tNewI (C : Addr) (sp : Sp) (wa : TA) : TE := fun σ H Q => wa σ H fun vs H1 => vs.length ≤ 1000 ∧ ∀ a, H1 a = none → sp (.ref a :: vs) (upd H1 a (exo a C none)) (fun v H2 => v = .non ∧ Q (.ref a) H2) (fun _ _ _ => False)
theorem pe_newI (T : OexC Y.K Cc) (iC : PySem.W.findIn Y.K (.ref Cc) "__init__" = some (some (.ref fJ))) (tI : PySem.W.typeIn Y.K (.ref fJ) = some (.type "function"))
    (G : FnOk Y.prog Y.w Y.K Y.mg Y.base CY jj fJ fe pz sq) (rm : Room (jj + 1) Y.A) (bi : Binds Y.K fe pz []) (px : Passes CY Y (fun _ _ _ => False)) (gl : Gl Y gn) (gm : Y.mg gn = some (.ref Cc)) (pa : PA Y (ar :: ars) wa)
    (nd : (gn == ("__debug__" : Str)) = false := by decide) (st : starEach (ar :: ars) Y.env = (false, eval ar Y.env) :: starEach ars Y.env := by rfl) (np : (backTo q1 (starEach ars Y.env)).any (·.1) = false := by rfl) :
    PE Y (.Call (.Name gn q0) (ar :: ars) [] q1) (tNewI Cc sq wa) := by
  refine ⟨fun pins s0 τ K0 R J h => ?_⟩
  obtain ⟨_, _, _, _, bm, _, _, _, _, _, _, _, _, _, _, hC, hbm⟩ := T.cls
  refine wpAny_Call_Name_kw (ld_glob J gl gm ?_ nd)
  refine PySem.W.callWith_K (h₀ := Y.base) J.ok.mod.kin T.kC (thn (pa.run q1 pins s0 τ K0 _ J h) fun as sA hA => ?_) st np
  obtain ⟨vs, K1, J1, rA, l1, k1⟩ := hA
  refine ⟨J1.kIn, ?_⟩
  show wpAny _ _ (call (.ref Cc) as) _ _ _
  obtain ⟨hp, gg, dr, tk, oo⟩ := sA
  let x := hp.objs.size
  have le1 : x ≤ x + 1 := Nat.le_succ _
  have no1 : K1 (x + 1) = none := J1.hok.fresh le1
  have goal1 := k1 (x + 1) no1
  let hh := (hp.push (PySem.W.kdv_tup as)).push (PySem.HandSPX.excO Cc x)
  have keep : ∀ b o, hp.get? b = some o → hh.get? b = some o := fun b o z => Heap.get?_push_of_some _ (Heap.get?_push_of_some _ z)
  have got : hh.get? (x + 1) = some (PySem.HandSPX.excO Cc x) := by
    show ((hp.push (PySem.W.kdv_tup as)).push (PySem.HandSPX.excO Cc hp.objs.size)).get? (hp.objs.size + 1) = _
    heap_get
  have J2 : Inv Y pins τ (upd K1 (x + 1) (exo (x + 1) Cc none)) ⟨hh, gg, dr, tk, oo⟩ := J1.laid (t' := tk) (a := x + 1) (o := exo (x + 1) Cc none) (h' := hh) keep le1 (exo_ok got)
  have rB : Vals (V.ref (x + 1) :: vs) (Value.ref (x + 1) :: as) := .cons rfl rA
  have ln : (Value.ref (x + 1) :: as).length = pz.length := by
    have z := rB.length
    rw [G.len _ _ _ _ goal1] at z
    exact z.symm
  have few : as.length ≤ sizeLine := by rw [← Paired.length rA, sizeLine_eq]; omega
  have bz : BindsTo ⟨hh, gg, dr, tk, oo⟩ fe ⟨Value.ref (x + 1) :: as, []⟩ (pz.zip (Value.ref (x + 1) :: as)) := by
    have z := bi ⟨hh, gg, dr, tk, oo⟩ (Value.ref (x + 1) :: as) J2.kIn (by simpa using ln)
    simpa using z
  have inner := G.run _ Y.stack _ _ ⟨Value.ref (x + 1) :: as, []⟩ (Value.ref (x + 1) :: as) _ _ (fun _ _ _ => False) (rm.make Cc as []) (J2.env0.make Cc as []) bz rB goal1
  refine wpAny_call (PySem.HandSPX.call_own F.excBase_ValueError (fun Z => PySem.HandSPX.refsVE_contains Z bm hbm) (J1.kIn _ _ hC) (PySem.W.looks_findIn J1.kIn iC) (fun self => PySem.W.bind_fn J1.kIn self tI) few (codeAny_mono inner fun r s' end1 => ?_))
  rcases r with er | fl
  · exact px pins τ _ _ er s' J2 end1
  · cases fl with
    | ret u =>
      obtain ⟨v, K2, oo2, bare2, un2, hok2, rv, ev, qq⟩ := end1
      subst ev
      exact ⟨rv, .ref (x + 1), K2, J2.call' (ch := []) oo2 un2 hok2 bare2 (fun b z => absurd z (by simp)), rfl, qq⟩
    | next => exact end1.elim
    | brk => exact end1.elim
    | cont => exact end1.elim
end
theorem newF_key {C : Addr} {f : Str} {Q : VK} {v : V} {H1 : Hp} (q : ∀ a d H2, Ex H1 H2 → H2 a = some (exo a C (some d)) → H2 d = some (exd d [(f, v)]) → Q (.ref a) H2) :
    ([v] : List V).length ≤ 1000 ∧ ∀ a, H1 a = none → spInit C f (.ref a :: [v]) (upd H1 a (exo a C none)) (fun v H2 => v = .non ∧ Q (.ref a) H2) (fun _ _ _ => False) := by
  refine ⟨by simp, fun a ha => ⟨a, v, rfl, upd_same, fun d hd hda => ⟨rfl, ?_⟩⟩⟩
  rw [upd_ne hda] at hd
  refine q a d _ (fun b o z => ?_) upd_same (by rw [upd_ne hda, upd_same])
  have hba : b ≠ a := fun z2 => by rw [z2, ha] at z; cases z
  have hbd : b ≠ d := fun z2 => by rw [z2, hd] at z; cases z
  rw [upd_ne hba, upd_ne hbd, upd_ne hba]; exact z
section
variable {X : Cx} {cl : Nat → Addr} {E : En} {e : Expr} {x f : Str} {p pos pos2 : Pos} {m : RM} {te : TE} {C : Addr}
def tFldE (C : Addr) (f : Str) (te : TE) : TE := fun σ H Q => te σ H fun x H1 => ∃ a d fs v, x = .ref a ∧ H1 a = some (exo a C (some d)) ∧ H1 d = some (exd d fs) ∧ fs.lookup f = some v ∧ Q v H1
theorem pe_fldE (T : XcC X.K C) (hno : PySem.W.findIn X.K (.ref C) f = some none) (he : PE X e te) (hb : attributeBase e f X.env (eval e X.env) = eval e X.env := by rfl) :
    PE X (.Attribute e f pos) (tFldE C f te) := by
  refine ⟨fun pins s σ H Q I h => ?_⟩
  refine attr_of hb (thn (he.run pins s σ H _ I h) fun u s1 hh => ?_)
  obtain ⟨x, H1, I1, rx, a, d, fs, v, ex, ea, ed, l, q⟩ := hh
  subst ex
  obtain rfl : u = Value.ref a := rx
  obtain ⟨t0, he⟩ := exo_at I1.hok ea
  obtain ⟨mA, hns, hr⟩ := exd_at I1.hok ed
  obtain ⟨od, ho, hl⟩ := lookIn_ns hns
  obtain ⟨u, hu, ru⟩ := RelO.some_of (v := v) (o := mA f) (by rw [← l]; exact hr f)
  have J : PySem.W.InstAt s1.heap a _ C (some od) := ⟨he, rfl, rfl, ho⟩
  exact HandSPX.exc_get I1.kIn J T.hga T.hgt T.hsub (PySem.W.findObj_own T.hd hno rfl (by rw [hl, hu])) (handed_of ru) ⟨v, H1, I1.tok _, ru, q⟩
theorem x_newF {CX : CXT} {k : Nat} {fI : Addr} {fd : FuncData} {ps : List Str} (T : OexC X.K C) (iC : PySem.W.findIn X.K (.ref C) "__init__" = some (some (.ref fI))) (tI : PySem.W.typeIn X.K (.ref fI) = some (.type "function")) (T2 : XcC X.K C) (hno : PySem.W.findIn X.K (.ref C) f = some none)
    (F1 : FnOk X.prog X.w X.K X.mg X.base CX k fI fd ps (spInit C f)) (hr : Room (k + 1) X.A) (hb : Binds X.K fd ps []) (hx : Passes CX X (fun _ _ _ => False)) (hg : Gl X x) (hm : X.mg x = some (.ref C)) (he : PE X e (tR ⟨X.K, cl, X.w⟩ E m))
    (hdb : (x == ("__debug__" : Str)) = false := by decide) (hs : starEach [e] X.env = (false, eval e X.env) :: starEach [] X.env := by rfl) (hpl : (backTo pos (starEach [] X.env)).any (·.1) = false := by rfl)
    (hat : attributeBase (.Call (.Name x p) [e] [] pos) f X.env (eval (.Call (.Name x p) [e] [] pos) X.env) = eval (.Call (.Name x p) [e] [] pos) X.env := by rfl) :
    PE X (.Attribute (.Call (.Name x p) [e] [] pos) f pos2) (tR ⟨X.K, cl, X.w⟩ E m) := PE_imp (pe_fldE (C := C) T2 hno (pe_newI T iC tI F1 hr hb hx hg hm (pa_cons he pa_nil hs) hdb hs hpl) hat) fun σ H Q ⟨P, S, T', ρ, d, w, h, q⟩ => by
  refine ⟨P, S, T', ρ, d, w, h, fun v H1 P1 U g r => newF_key (C := C) (f := f) (Q := fun x H1 => ∃ a d fs v, x = V.ref a ∧ H1 a = some (exo a C (some d)) ∧ H1 d = some (exd d fs) ∧ fs.lookup f = some v ∧ Q v H1) fun a dd H2 e2 h1 h2 => ⟨a, dd, _, v, rfl, h1, h2, by simp [List.lookup], ?_⟩⟩
  exact q v H2 P1 U (g.trans ⟨.refl _, e2, g.ph.trans e2, fun _ z => .inl z⟩) (Rep.mono (.refl _) d v U (fun b o _ z => e2 b o z) r)
def tErr (C : Addr) : TE := fun _ H Q => ∀ a H', Ex H H' → ErrAt H' a C → Q (.ref a) H'
theorem e_newI {v : V} {CX : CXT} {k : Nat} {fI : Addr} {fd : FuncData} {ps : List Str} (f : Str) (T : OexC X.K C) (iC : PySem.W.findIn X.K (.ref C) "__init__" = some (some (.ref fI))) (tI : PySem.W.typeIn X.K (.ref fI) = some (.type "function"))
    (F1 : FnOk X.prog X.w X.K X.mg X.base CX k fI fd ps (spInit C f)) (hr : Room (k + 1) X.A) (hb : Binds X.K fd ps []) (hx : Passes CX X (fun _ _ _ => False)) (hg : Gl X x) (hm : X.mg x = some (.ref C)) (he : PE X e (tC v))
    (hdb : (x == ("__debug__" : Str)) = false := by decide) (hs : starEach [e] X.env = (false, eval e X.env) :: starEach [] X.env := by rfl) (hpl : (backTo pos (starEach [] X.env)).any (·.1) = false := by rfl) :
    PE X (.Call (.Name x p) [e] [] pos) (tErr C) := PE_imp (pe_newI T iC tI F1 hr hb hx hg hm (pa_cons he pa_nil hs) hdb hs hpl) fun σ H Q h => newF_key (f := f) fun a d H2 e2 h1 h2 => h a H2 e2 (.inl ⟨d, _, h1, h2⟩)
theorem e_new0 {v : V} (q : PySem.W.excIn X.K C [.type "ValueError", .type "Exception", .type "BaseException", .type "object"] "ValueError.__new__" = true) (hg : Gl X x) (hm : X.mg x = some (.ref C)) (kC : PySem.W.keepIn X.K (.ref C) = true) (he : PE X e (tC v))
    (hs : starEach [e] X.env = (false, eval e X.env) :: starEach [] X.env := by rfl) (hdb : (x == ("__debug__" : Str)) = false := by decide) :
    PE X (.Call (.Name x p) [e] [] pos) (tErr C) := PE_imp (pe_exc1 F.excBase_ValueError q hm kC hg he hs hdb) fun σ H Q h => fun a ha => h a _ (fun b o z => by rw [upd_ne (ne_of_none z ha)]; exact z) (.inr upd_same)
def tErrs (cs : List Addr) : TA := fun _ H Q => ∀ as H', Ex H H' → Paired (ErrAt H') as cs → Q (as.map .ref) H'
theorem es_nil : PA X [] (tErrs []) := PA_imp pa_nil fun σ H Q h => h [] H (.refl _) .nil
theorem paired_mono {H H' : Hp} (e : Ex H H') : ∀ {as cs}, Paired (ErrAt H) as cs → Paired (ErrAt H') as cs
  | _, _, .nil => .nil
  | _, _, .cons h t => .cons (h.mono e) (paired_mono e t)
theorem es_cons {es : List Expr} {cs : List Addr} (he : PE X e (tErr C)) (hr : PA X es (tErrs cs)) (hs : starEach (e :: es) X.env = (false, eval e X.env) :: starEach es X.env := by rfl) : PA X (e :: es) (tErrs (C :: cs)) :=
  PA_imp (pa_cons he hr hs) fun σ H Q h => fun a H1 e1 h1 as H2 e2 h2 => h (a :: as) H2 (e1.trans e2) (.cons (h1.mono e2) h2)
end
def rIsErr (K : PySem.W.Frag) : List V → Hp → VK → Prop := fun xs H Q => ∃ (a C : Addr) (c : V) (u : Value) (b : Bool), xs = [.ref a, c] ∧ ErrAt H a C ∧ XcC K C ∧ ClsV c u ∧ PySem.W.kitOne K (.ref C) u = some b ∧ Q (.bl b) H
theorem call_isErr {X : Cx} : CallR X (.builtin "isinstance") (rIsErr X.K) := by
  intro pins s σ H xs us Q I r h
  obtain ⟨a, C, c, u, b, rfl, hE, T, k, e, q⟩ := h
  obtain ⟨u1, u2, rfl, r1, r2⟩ := vals2 r
  obtain rfl : u1 = Value.ref a := r1
  have e2 := k.eq r2
  subst e2
  obtain ⟨oe, od, J⟩ := hE.inst I.hok
  exact PySem.W.kia_one (PySem.W.kitx_exc T.hcl T.hga T.hgt T.hsub T.ha T.hn T.htk T.hm) I.kIn J e (fun z => nomatch z) fun tk => ⟨.bl b, H, I.kept (t' := tk) fun _ _ z => z, rfl, q⟩
theorem paired_at {H : Hp} : ∀ {as cs : List Addr}, Paired (ErrAt H) as cs → ∀ {i : Nat} {x : V}, (as.map V.ref)[i]? = some x → ∃ a C, x = .ref a ∧ C ∈ cs ∧ ErrAt H a C
  | _, _, .nil, i, x, h => by simp at h
  | _, _, .cons h t, 0, x, hx => by
    cases hx
    exact ⟨_, _, rfl, List.mem_cons_self, h⟩
  | _, _, .cons h t, i + 1, x, hx => by
    obtain ⟨a, C, h1, h2, h3⟩ := paired_at t (i := i) (x := x) (by simpa using hx)
    exact ⟨a, C, h1, List.mem_cons_of_mem _ h2, h3⟩
section
variable {X : Cx} {cl : Nat → Addr} {E : En} {es : List Expr} {cs : List Addr} {xe x : Str} {p1 p2 p3 p4 p5 p6 p7 p8 p9 pf pos : Pos} {mb : SM} {sa : List Stmt} {rest : List Stmt}
def errsM (i j : Nat) : SM := fun ρ => if i < ρ.length ∧ j < ρ.length ∧ i ≠ j then some (.nx, (ρ.set i .gone).set j .gone) else none
theorem s_errs (i j : Nat) {ma : SM} {ce : Expr} {c : V} {u : Value} (hp : PassesOwn (model X.prog X.w) X.A X.env X.xe) (hc : X.calm = true) (hl : PA X es (tErrs cs)) (hle : cs.length ≤ 1000) (hT : ∀ C ∈ cs, XcC X.K C ∧ PySem.W.kitOne X.K (.ref C) u = some true) (k : ClsV c u) (hce : PE X ce (tC c)) (hm : X.mg "isinstance" = none)
    (ha : PSs X sa (tS ⟨X.K, cl, X.w⟩ E ma)) (hr : PSs X rest (tS ⟨X.K, cl, X.w⟩ E mb)) (hN : X.N.Nodup) (hi : X.N[i]? = some xe := by rfl) (hj : X.N[j]? = some x := by rfl) (hki : E.kp[i]? ≠ some true := by rw [ek]; decide) (hkj : E.kp[j]? ≠ some true := by rw [ek]; decide)
    (hxi : L2.Loc X.env.scope xe := by first | exact Or.inl rfl | exact Or.inr rfl) (hxj : L2.Loc X.env.scope x := by first | exact Or.inl rfl | exact Or.inr rfl)
    (hfi : X.fn xe = true ∨ X.env.scope.names.lookup xe = some .local := by first | exact .inl rfl | exact .inr rfl | assumption) (hfj : X.fn x = true ∨ X.env.scope.names.lookup x = some .local := by first | exact .inl rfl | exact .inr rfl | assumption)
    (hvi : Vis X.env.scope xe := by first | exact Or.inl rfl | exact Or.inr (Or.inl rfl) | exact Or.inr (Or.inr rfl)) (hvj : Vis X.env.scope x := by first | exact Or.inl rfl | exact Or.inr (Or.inl rfl) | exact Or.inr (Or.inr rfl))
    (hd1 : (xe == ("__debug__" : Str)) = false := by decide) (hd2 : (xe == ("__classdict__" : Str)) = false := by decide) (hd3 : (x == ("__debug__" : Str)) = false := by decide) (hd4 : (x == ("__classdict__" : Str)) = false := by decide) (hg : Gl X "isinstance" := by rfl)
    (hs : swapsWith (.List es p1) (some (.Name xe p2)) pos.line X.env = pure false := by rfl) (hs0 : ∀ y, foldedSetIterable (.Name xe p3) X.env y = pure y := by intro _; rfl)
    (hs1 : starEach [.Name x p4, ce] X.env = (false, eval (.Name x p4) X.env) :: starEach [ce] X.env := by rfl) (hs2 : starEach [ce] X.env = (false, eval ce X.env) :: starEach [] X.env := by rfl) (hpl : (backTo p5 (starEach [ce] X.env)).any (·.1) = false := by rfl) :
    PSs X (.Assign [.Name xe p2] (.List es p1) pos :: .For (.Name x p6) (.Name xe p3) [.If (.UnaryOp .Not (.Call (.Name "isinstance" p7) [.Name x p4, ce] [] p5) p8) sa [] p9] [] pf :: rest) (tS ⟨X.K, cl, X.w⟩ E (seqM (errsM i j) mb)) := by
  refine PSs_imp (pss_cons (ps_set hN hi hxi (pe_lst hl) hs hfi) (pss_cons (ps_for hp hc (pi_list (pe_var hi hvi hd1 hd2)) (pg_name hN hj hxj hfj) (pss_one (ps_if (pt_not (pt_val (pe_callB call_isErr hg hm (by decide +kernel) (pa_cons (pe_var hj hvj hd3 hd4) (pa_cons hce pa_nil hs2) hs1) (by decide) (by decide) hs1 hpl))) ha pss_nil)) hs0) hr)) fun D σ H ⟨P, S, ρ, fl, ρ', w, hm2, q⟩ => ?_
  unfold seqM errsM at hm2
  split at hm2
  case isFalse => cases hm2
  rename_i hij
  obtain ⟨hil, hjl, hne⟩ := hij
  rw [Option.bind_some] at hm2
  have hlen := RepE.len _ _ _ w.env
  refine fun as H1 e1 hE => ⟨?_, fun la hla => ?_⟩
  · rw [List.length_map, Paired.length hE, sizeLine_eq]; omega
  have e2 : Ex H1 (upd H1 la (.lst (as.map .ref))) := fun b o z => by rw [upd_ne (ne_of_none z hla)]; exact z
  have w1 := w.grow ⟨.refl P, e1.trans e2, w.ph.trans (e1.trans e2), fun _ z => .inl z⟩
  generalize hH2 : upd H1 la (.lst (as.map .ref)) = H2 at *
  have hl2 : H2 la = some (.lst (as.map .ref)) := by rw [← hH2, upd_same]
  have hE2 := paired_mono e2 hE
  obtain ⟨S2, w2⟩ := (show Wd _ E P S (fa fz fz) σ H2 ρ by rw [fz_fa]; exact w1).store (d := .gone) (v := .ref la) (U := fz) rfl i hki
  obtain ⟨S3, w3⟩ := w2.forget [j]
  refine ⟨.ref la, by rw [List.getElem?_set_self (by omega)], la, rfl, ⟨_, .inl (.inl hl2)⟩, ?_⟩
  refine for_it (walk_list (xs := as.map .ref)) (fun _ σk Hk => Hk = H2 ∧ ∃ Sk, Wd ⟨X.K, cl, X.w⟩ E P Sk fz σk H2 ((ρ.set i .gone).set j .gone)) ⟨rfl, S3, w3⟩ ?_ ?_ ?_
  · rintro n σk Hk hn ⟨rfl, _⟩
    exact .inl (.inl hl2)
  · rintro n y σk Hk H3 hn ⟨rfl, Sk, wk⟩ ⟨rfl, hy⟩
    obtain ⟨a, C, rfl, hC, hA⟩ := paired_at hE2 hy
    obtain ⟨T1, T2⟩ := hT C hC
    obtain ⟨S4, w4⟩ := (show Wd _ E P Sk (fa fz fz) σk H3 _ by rw [fz_fa]; exact wk).store (d := .gone) (v := .ref a) (U := fz) rfl j hkj
    rw [List.set_set] at w4
    have lk := RepE.len _ _ _ wk.env
    simp only [List.length_set] at lk
    refine ⟨.ref a, by rw [List.getElem?_set_self (by omega)], a, C, c, u, true, rfl, hA, T1, k, T2, ?_⟩
    exact ⟨true, rfl, rfl, S4, w4⟩
  · rintro σk Hk ⟨rfl, Sk, wk⟩
    exact ⟨P, Sk, _, fl, ρ', wk, hm2, q⟩
end
section
variable {τ υ : Type} {Q : Fl → List D → υ → Prop} {ρ ρ2 : List D} {m : SM} {o : Option υ}
theorem b_errs {i j : Nat} (h : errsM i j ρ = some (.nx, ρ2)) (hb : Bk Q m ρ2 o) : Bk Q (seqM (errsM i j) m) ρ o := fun t ht => by
  unfold seqM
  rw [h]
  exact hb t ht
end
end LI

namespace OW
open PySem L2 LI
structure OReader where
  kept : Ts
  place : Int
def t_is_sign (thing : Ts) : Option Bool :=
  (if true = true then (((lenS thing).bind fun v1_ => some (decide (v1_ = (1 : Int)))).bind fun v2_ => (if v2_ = true then (some (!ltS thing [' '] && !ltS ['}'] thing)) else some false)) else some false)
def t_is_colour (thing : Ts) : Option Bool :=
  (if true = true then (((lenS thing).bind fun v1_ => some (decide (v1_ = (1 : Int)))).bind fun v2_ => (if v2_ = true then (inS thing ['a', 'b', 'c', 'd', 'e', 'f', 'g', 'h', '.']) else some false)) else some false)
def t_checked (text : Ts) : Option Unit :=
  if (!true) = true then
  none
  else
  (foldT (fun (s1_ : Unit) (x2_ : (Int × Ts)) =>
  ((((t_is_sign x2_.2).bind fun v3_ => some (!v3_)).bind fun v4_ => (if v4_ = true then ((inS x2_.2 ['\n', '\t']).bind fun k => some (!k)) else some false)).bind fun v5_ => if v5_ = true then
  none
  else
  some ())) (enumT 0 (chars text)) ()).bind fun (s1_ : Unit) =>
  some ()
def kt_ENDS : List (Ts × Ts) := [(['\n'], ['e', 'n', 'd']), (['\t'], ['a', 'n', 'e', 'w'])]
def t_sign_item (place : Int) (sign : Ts) : Option (Int × Ts × Ts) :=
  if ((kdS kt_ENDS sign).isSome) = true then
  ((kdS kt_ENDS sign).bind fun v1_ => some (place, v1_, ([] : Ts)))
  else
  some (place, (['s', 'i', 'g', 'n'] : Ts), sign)
def t_begins_mark (text : Ts) : Option Bool :=
  if (memT text ([(['['] : Ts), (['[', '/'] : Ts)] : (List Ts))) = true then
  some true
  else
  ((((lenS text).bind fun v1_ => some (decide (v1_ = (2 : Int)))).bind fun v2_ => (if v2_ = true then ((ixS text (0 : Int)).bind fun v3_ => some (decide (v3_ = (['['] : Ts)))) else some false)).bind fun v4_ => if v4_ = true then
  ((ixS text (1 : Int)).bind fun v5_ => (t_is_colour v5_))
  else
  (((lenS text).bind fun v6_ => some (decide (v6_ = (3 : Int)))).bind fun v7_ => (if v7_ = true then (((slS none (some (2 : Int)) text).bind fun v8_ => some (decide (v8_ = (['[', '/'] : Ts)))).bind fun v9_ => (if v9_ = true then ((ixS text (2 : Int)).bind fun v10_ => (t_is_colour v10_)) else some false)) else some false)))
def t_mark_item (place : Int) (text : Ts) : Option (Option (Int × Ts × Ts)) :=
  if (decide (text = (['[', '['] : Ts))) = true then
  some (some (place, (['s', 'i', 'g', 'n'] : Ts), (['['] : Ts)))
  else
  if (decide (text = (['[', ']'] : Ts))) = true then
  some (some (place, (['p', 'l', 'a', 'i', 'n'] : Ts), ([] : Ts)))
  else
  ((((lenS text).bind fun v1_ => some (decide (v1_ = (3 : Int)))).bind fun v2_ => (if v2_ = true then (((ixS text (0 : Int)).bind fun v3_ => some (decide (v3_ = (['['] : Ts)))).bind fun v4_ => (if v4_ = true then (((ixS text (1 : Int)).bind fun v5_ => (t_is_colour v5_)).bind fun v6_ => (if v6_ = true then ((ixS text (2 : Int)).bind fun v7_ => some ((decide (v7_ = ([']'] : Ts))))) else some false)) else some false)) else some false)).bind fun v8_ => if v8_ = true then
  (((ixS text (1 : Int)).bind fun v9_ => some (place, (['i', 'n', 'k'] : Ts), v9_)).bind fun v10_ => some (some v10_))
  else
  ((((lenS text).bind fun v11_ => some (decide (v11_ = (4 : Int)))).bind fun v12_ => (if v12_ = true then (((slS none (some (2 : Int)) text).bind fun v13_ => some (decide (v13_ = (['[', '/'] : Ts)))).bind fun v14_ => (if v14_ = true then (((ixS text (2 : Int)).bind fun v15_ => (t_is_colour v15_)).bind fun v16_ => (if v16_ = true then ((ixS text (3 : Int)).bind fun v17_ => some ((decide (v17_ = ([']'] : Ts))))) else some false)) else some false)) else some false)).bind fun v18_ => if v18_ = true then
  (((ixS text (2 : Int)).bind fun v19_ => some (place, (['g', 'r', 'o', 'u', 'n', 'd'] : Ts), v19_)).bind fun v20_ => some (some v20_))
  else
  some ((fun _ => none) ())))
def t_Reader_init  : Option OReader :=
  let u1_ : Ts := ([] : Ts)
  let u2_ : Int := (0 : Int)
  some ({ kept := u1_, place := u2_ : OReader })
def t_Reader_told (self : OReader) (many : Int) : Option ((List (Int × Ts × Ts)) × OReader) :=
  let found : (List (Int × Ts × Ts)) := ([] : (List (Int × Ts × Ts)))
  (((slS none (some many) self.kept).bind fun v1_ => some (chars v1_)).bind fun v2_ => (foldT (fun (s3_ : (OReader × (List (Int × Ts × Ts)))) (sign : Ts) =>
  (((t_sign_item s3_.1.place sign).bind fun v4_ => (appT s3_.2 v4_))).bind fun (u5_ : (List (Int × Ts × Ts))) =>
  let u6_ : Int := (s3_.1.place + (1 : Int))
  some ({ s3_.1 with place := u6_ }, u5_)) v2_ (self, found)).bind fun (s3_ : (OReader × (List (Int × Ts × Ts)))) =>
  ((slS (some many) none s3_.1.kept)).bind fun (u7_ : Ts) =>
  some (s3_.2, { s3_.1 with kept := u7_ }))
def t_Reader_take (self : OReader) (sign : Ts) : Option ((List (Int × Ts × Ts)) × OReader) :=
  (((catS self.kept sign).bind fun v1_ => (t_mark_item self.place v1_))).bind fun (whole : (Option (Int × Ts × Ts))) =>
  if (Option.isSome whole) = true then
  ((((lenS self.kept).bind fun v2_ => some (self.place + v2_)).bind fun v3_ => some (v3_ + (1 : Int)))).bind fun (u4_ : Int) =>
  let u5_ : Ts := ([] : Ts)
  ((whole.bind fun v6_ => some ([v6_] : (List (Int × Ts × Ts))))).bind fun u7_ => some (u7_, { { self with place := u4_ } with kept := u5_ })
  else
  (((catS self.kept sign).bind fun v8_ => (t_begins_mark v8_)).bind fun v9_ => if v9_ = true then
  ((catS self.kept sign)).bind fun (u10_ : Ts) =>
  some (([] : (List (Int × Ts × Ts))), { self with kept := u10_ })
  else
  (((lenS self.kept).bind fun v11_ => (t_Reader_told self v11_))).bind fun (u12_ : ((List (Int × Ts × Ts)) × OReader)) =>
  let u13_ : Ts := sign
  ((if (!decide (sign = (['['] : Ts))) = true then
  (((t_Reader_told ({ u12_.2 with kept := u13_ }) (1 : Int)).bind fun r14_ => (catL u12_.1 r14_.1).bind fun z15_ => some (r14_, z15_))).bind fun (u16_ : (((List (Int × Ts × Ts)) × OReader) × (List (Int × Ts × Ts)))) =>
  some (u16_.1.2, u16_.2)
  else
  some ({ u12_.2 with kept := u13_ }, u12_.1) : Option (OReader × (List (Int × Ts × Ts))))).bind fun (s17_ : (OReader × (List (Int × Ts × Ts)))) =>
  some (s17_.2, s17_.1))
def t_Reader_feed (self : OReader) (piece : Ts) : Option ((List (Int × Ts × Ts)) × OReader) :=
  ((t_checked piece)).bind fun (u1_ : Unit) =>
  let found : (List (Int × Ts × Ts)) := ([] : (List (Int × Ts × Ts)))
  (foldT (fun (s2_ : (OReader × (List (Int × Ts × Ts)))) (sign : Ts) =>
  (((t_Reader_take s2_.1 sign).bind fun r3_ => (catL s2_.2 r3_.1).bind fun z4_ => some (r3_, z4_))).bind fun (u5_ : (((List (Int × Ts × Ts)) × OReader) × (List (Int × Ts × Ts)))) =>
  some (u5_.1.2, u5_.2)) (chars piece) (self, found)).bind fun (s2_ : (OReader × (List (Int × Ts × Ts)))) =>
  some (s2_.2, s2_.1)
def t_Reader_finish (self : OReader) : Option ((List (Int × Ts × Ts)) × OReader) :=
  (((lenS self.kept).bind fun v1_ => (t_Reader_told self v1_))).bind fun u2_ => some (u2_.1, u2_.2)
def t_lw_cell (script : (List Int)) (k : Int) : Option Int :=
  if decide (k < (List.length script : Int)) = true then
  (atI script k)
  else
  some (0 : Int)
def t_lw_mix (cell_here : Int) (k : Int) : Option Int :=
  if decide ((1000000000000000000 : Int) < cell_here) = true then
  let rest : Int := cell_here
  ((rngT k).bind fun v1_ => (foldT (fun (s2_ : Int) (turn : Int) =>
  let rest : Int := (s2_ / 1000000000)
  some rest) v1_ rest).bind fun (s2_ : Int) =>
  some (s2_ % 1000000000))
  else
  let number : Int := ((cell_here % 2147483647) + (7919 : Int))
  ((rngT (k + (2 : Int))).bind fun v3_ => (foldT (fun (s4_ : Int) (turn : Int) =>
  let number : Int := (((s4_ * 48271) + (104729 : Int)) % 2147483629)
  some number) v3_ number).bind fun (s4_ : Int) =>
  (((mulT s4_ s4_).bind fun v5_ => some (v5_ % 998244353)).bind fun v6_ => some (v6_ / 11)))
def t_lw_signs  : Option Ts :=
  let some_ : Ts := ([' ', '!', '"', '#', '$', '&', '\'', '(', ')', '*', '+', ',', '-', '.', '/', '0', '1', '2', '3', '4', '5', '6', '7', '8', '9', ':', ';', '<', '=', '>', '?', '@', 'A', 'B', 'C', 'D', 'E', 'F', 'G', 'H', 'I', 'J', 'K', 'L', 'M', 'N', 'O', 'P', 'Q', 'R', 'S', 'T', 'U', 'V', 'W', 'X', 'Y', 'Z'] : Ts)
  (catS some_ (['[', '\\', ']', '^', '_', '`', 'a', 'b', 'c', 'd', 'e', 'f', 'g', 'h', 'i', 'j', 'k', 'l', 'm', 'n', 'o', 'p', 'q', 'r', 's', 't', 'u', 'v', 'w', 'x', 'y', 'z', '{', '|', '}'] : Ts))
def t_lw_token (cell_here : Int) : Option Ts :=
  ((((t_lw_mix cell_here (2 : Int)).bind fun v1_ => some (v1_ % 9)).bind fun v2_ => (ixS (['a', 'b', 'c', 'd', 'e', 'f', 'g', 'h', '.'] : Ts) v2_))).bind fun (colour : Ts) =>
  (((t_lw_mix cell_here (0 : Int)).bind fun v3_ => some (v3_ % 12))).bind fun (way : Int) =>
  ((t_lw_mix cell_here (1 : Int))).bind fun (pick : Int) =>
  (((catS (['['] : Ts) colour).bind fun v4_ => (catS (['[', '/'] : Ts) colour).bind fun v5_ => (((catS (['['] : Ts) colour).bind fun v6_ => (catS v6_ colour)).bind fun v7_ => (catS v7_ (([']'] : Ts)))).bind fun v8_ => some ([(['['] : Ts), (['[', '/'] : Ts), v4_, v5_, (['[', 'i', ']'] : Ts), (['[', '/', ']'] : Ts), v8_, (['[', 'A', ']'] : Ts), (['[', '/', 'i', ']'] : Ts), (['[', '[', '['] : Ts)] : (List Ts)))).bind fun (odd : (List Ts)) =>
  (((((catS (['['] : Ts) colour).bind fun v9_ => (catS v9_ (['['] : Ts))).bind fun v10_ => ((catS (['[', '/'] : Ts) colour).bind fun v11_ => (catS v11_ ((['/', ']'] : Ts)))).bind fun v12_ => ((catS (['[', '/', '/'] : Ts) colour).bind fun v13_ => (catS v13_ (([']'] : Ts)))).bind fun v14_ => ((catS (['['] : Ts) colour).bind fun v15_ => (catS v15_ (['\n'] : Ts))).bind fun v16_ => some ([(['[', '/', '['] : Ts), v10_, v12_, v14_, v16_, ([']'] : Ts), (['/'] : Ts)] : (List Ts))).bind fun v17_ => (catL odd v17_))).bind fun (odd_2 : (List Ts)) =>
  ((((catS (['[', '/'] : Ts) colour).bind fun v18_ => (catS v18_ ((['\t', ']'] : Ts)))).bind fun v19_ => (appT odd_2 v19_))).bind fun (u20_ : (List Ts)) =>
  if decide (way < (3 : Int)) = true then
  (t_lw_signs.bind fun v21_ => (ixS v21_ (pick % 93)))
  else
  if (decide (way = (3 : Int))) = true then
  (ixS ([' ', 'A', 'B', 'Z'] : Ts) (pick % 4))
  else
  if (decide (way = (4 : Int))) = true then
  ((catS (['['] : Ts) colour).bind fun v22_ => (catS v22_ (([']'] : Ts))))
  else
  if (decide (way = (5 : Int))) = true then
  ((catS (['[', '/'] : Ts) colour).bind fun v23_ => (catS v23_ (([']'] : Ts))))
  else
  if (decide (way = (6 : Int))) = true then
  (atI ([(['[', ']'] : Ts), (['[', '['] : Ts), (['[', ']', ']'] : Ts), (['[', '[', ']'] : Ts)] : (List Ts)) (pick % 4))
  else
  if (decide (way = (9 : Int))) = true then
  (atI ([(['\n'] : Ts), (['\t'] : Ts), (['\n'] : Ts)] : (List Ts)) (pick % 3))
  else
  if (decide (way = (10 : Int))) = true then
  some colour
  else
  if (decide (way = (11 : Int))) = true then
  (slS none (some ((2 : Int) + (pick % 8))) (['o', 'u', 't', 'w', 'e', 'a', 'v', 'e', 's'] : Ts))
  else
  (atI u20_ (pick % 18))
def t_lw_item (text : Ts) (at_ : Int) : Option ((Int × Ts × Ts) × Int) :=
  let colours : Ts := (['a', 'b', 'c', 'd', 'e', 'f', 'g', 'h', '.'] : Ts)
  ((slS (some at_) (some (at_ + (4 : Int))) text)).bind fun (here : Ts) =>
  (((ixS here (0 : Int)).bind fun v1_ => some (decide (v1_ = (['\n'] : Ts)))).bind fun v2_ => if v2_ = true then
  some ((at_, (['e', 'n', 'd'] : Ts), ([] : Ts)), (1 : Int))
  else
  (((ixS here (0 : Int)).bind fun v3_ => some (decide (v3_ = (['\t'] : Ts)))).bind fun v4_ => if v4_ = true then
  some ((at_, (['a', 'n', 'e', 'w'] : Ts), ([] : Ts)), (1 : Int))
  else
  (((slS none (some (2 : Int)) here).bind fun v5_ => some (decide (v5_ = (['[', ']'] : Ts)))).bind fun v6_ => if v6_ = true then
  some ((at_, (['p', 'l', 'a', 'i', 'n'] : Ts), ([] : Ts)), (2 : Int))
  else
  (((slS none (some (2 : Int)) here).bind fun v7_ => some (decide (v7_ = (['[', '['] : Ts)))).bind fun v8_ => if v8_ = true then
  some ((at_, (['s', 'i', 'g', 'n'] : Ts), (['['] : Ts)), (2 : Int))
  else
  ((((lenS here).bind fun v9_ => some (decide ((2 : Int) < v9_))).bind fun v10_ => (if v10_ = true then (((ixS here (0 : Int)).bind fun v11_ => some (decide (v11_ = (['['] : Ts)))).bind fun v12_ => (if v12_ = true then (((ixS here (1 : Int)).bind fun v13_ => (inS v13_ colours)).bind fun v14_ => (if v14_ = true then ((ixS here (2 : Int)).bind fun v15_ => some ((decide (v15_ = ([']'] : Ts))))) else some false)) else some false)) else some false)).bind fun v16_ => if v16_ = true then
  (((ixS here (1 : Int)).bind fun v17_ => some (at_, (['i', 'n', 'k'] : Ts), v17_)).bind fun v18_ => some (v18_, (3 : Int)))
  else
  ((((lenS here).bind fun v19_ => some (decide (v19_ = (4 : Int)))).bind fun v20_ => (if v20_ = true then (((slS none (some (2 : Int)) here).bind fun v21_ => some (decide (v21_ = (['[', '/'] : Ts)))).bind fun v22_ => (if v22_ = true then (((ixS here (2 : Int)).bind fun v23_ => (inS v23_ colours)).bind fun v24_ => (if v24_ = true then ((ixS here (3 : Int)).bind fun v25_ => some ((decide (v25_ = ([']'] : Ts))))) else some false)) else some false)) else some false)).bind fun v26_ => if v26_ = true then
  (((ixS here (2 : Int)).bind fun v27_ => some (at_, (['g', 'r', 'o', 'u', 'n', 'd'] : Ts), v27_)).bind fun v28_ => some (v28_, (4 : Int)))
  else
  (((ixS here (0 : Int)).bind fun v29_ => some (at_, (['s', 'i', 'g', 'n'] : Ts), v29_)).bind fun v30_ => some (v30_, (1 : Int)))))))))
def t_lw_items (text : Ts) : Option (List (Int × Ts × Ts)) :=
  let items_here : (List (Int × Ts × Ts)) := ([] : (List (Int × Ts × Ts)))
  let at_ : Int := (0 : Int)
  (whileT (fun (s1_ : ((List (Int × Ts × Ts)) × Int)) => ((lenS text).bind fun v2_ => some (decide (s1_.2 < v2_)))) (fun (s1_ : ((List (Int × Ts × Ts)) × Int)) =>
  ((t_lw_item text s1_.2)).bind fun (u3_ : ((Int × Ts × Ts) × Int)) =>
  ((appT s1_.1 u3_.1)).bind fun (u4_ : (List (Int × Ts × Ts))) =>
  let at_ : Int := (s1_.2 + u3_.2)
  some (u4_, at_)) 5000 (items_here, at_)).bind fun (s1_ : ((List (Int × Ts × Ts)) × Int)) =>
  some s1_.1
end OW

namespace OW
open PySem L2 LI
def t_Reader_held_text (self : OReader) : Option Ts :=
  some self.kept
end OW

namespace OW
open PySem L2 LI
end OW

namespace OW
open PySem L2 LI
end OW

namespace OW
open PySem L2 LI
end OW

namespace OW
open PySem L2 LI
end OW

namespace OW
open PySem L2 LI
end OW

namespace OW
open PySem L2 LI
end OW

namespace OW
open PySem L2 LI
end OW

namespace OW
open PySem L2 LI
end OW

namespace OW
open PySem L2 LI
end OW

namespace OW
open PySem L2 LI
end OW

namespace OW
open PySem L2 LI
end OW

namespace OW
open PySem L2 LI
end OW

namespace OW
open PySem L2 LI
end OW

namespace OW
open PySem L2 LI

def cols : Ts := ['a', 'b', 'c', 'd', 'e', 'f', 'g', 'h', '.']
def isCol (c : Char) : Bool := decide (c ∈ cols)
def isSg (c : Char) : Bool := decide (32 ≤ c.toNat) && decide (c.toNat ≤ 125)
def okC (c : Char) : Bool := isSg c || decide (c = '\n') || decide (c = '\t')
abbrev Im := Int × Ts × Ts
def kSign : Ts := ['s', 'i', 'g', 'n']
def kInk : Ts := ['i', 'n', 'k']
def kGround : Ts := ['g', 'r', 'o', 'u', 'n', 'd']
def kPlain : Ts := ['p', 'l', 'a', 'i', 'n']
def kEnd : Ts := ['e', 'n', 'd']
def kAnew : Ts := ['a', 'n', 'e', 'w']
def sgI (c : Char) : Ts × Ts := if c = '\n' then (kEnd, []) else if c = '\t' then (kAnew, []) else (kSign, [c])
def isColO : Option Char → Bool
  | some c => isCol c
  | none => false
def stp (s : Ts) : (Ts × Ts) × Nat :=
  if s[0]? = some '[' then
    if s[1]? = some ']' then ((kPlain, []), 2)
    else if s[1]? = some '[' then ((kSign, ['[']), 2)
    else if isColO s[1]? = true ∧ s[2]? = some ']' then ((kInk, [s[1]?.getD ' ']), 3)
    else if s[1]? = some '/' ∧ isColO s[2]? = true ∧ s[3]? = some ']' then ((kGround, [s[2]?.getD ' ']), 4)
    else ((kSign, ['[']), 1)
  else (sgI (s[0]?.getD ' '), 1)
def hld (s : Ts) : Bool := decide (s[0]? = some '[') && (decide (s.length = 1) || (decide (s.length = 2) && (decide (s[1]? = some '/') || isColO s[1]?)) || (decide (s.length = 3) && decide (s[1]? = some '/') && isColO s[2]?))
theorem stp_pos (s : Ts) : 0 < (stp s).2 := by
  unfold stp
  repeat' split
  all_goals simp
theorem stp_le {s : Ts} (h : s ≠ []) : (stp s).2 ≤ s.length := by
  rcases s with _ | ⟨a, _ | ⟨b, _ | ⟨c, _ | ⟨d, s⟩⟩⟩⟩
  · exact absurd rfl h
  all_goals
    unfold stp
    simp [isColO]
    repeat' split
    all_goals simp
    all_goals omega
def its (p : Int) (s : Ts) : List Im :=
  if h : s = [] then [] else (p, (stp s).1.1, (stp s).1.2) :: its (p + (stp s).2) (s.drop (stp s).2)
termination_by s.length
decreasing_by
  have := stp_pos s
  have : 0 < s.length := List.length_pos_iff.mpr h
  rw [List.length_drop]; omega
def sure (p : Int) (s : Ts) : List Im × Ts :=
  if h : s = [] then ([], []) else if hld s = true then ([], s) else ((p, (stp s).1.1, (stp s).1.2) :: (sure (p + (stp s).2) (s.drop (stp s).2)).1, (sure (p + (stp s).2) (s.drop (stp s).2)).2)
termination_by s.length
decreasing_by
  all_goals
    have := stp_pos s
    have : 0 < s.length := List.length_pos_iff.mpr h
    rw [List.length_drop]; omega
theorem its_nil (p : Int) : its p [] = [] := by rw [its]; simp
theorem its_cons {p : Int} {s : Ts} (h : s ≠ []) : its p s = (p, (stp s).1.1, (stp s).1.2) :: its (p + (stp s).2) (s.drop (stp s).2) := by rw [its, dif_neg h]
theorem sure_nil (p : Int) : sure p [] = ([], []) := by rw [sure]; simp
theorem sure_hld {p : Int} {s : Ts} (h : hld s = true) : sure p s = ([], s) := by
  rw [sure]
  by_cases hs : s = []
  · subst hs; cases h
  · rw [dif_neg hs, if_pos h]
theorem sure_cons {p : Int} {s : Ts} (h : s ≠ []) (h2 : hld s = false) : sure p s = ((p, (stp s).1.1, (stp s).1.2) :: (sure (p + (stp s).2) (s.drop (stp s).2)).1, (sure (p + (stp s).2) (s.drop (stp s).2)).2) := by
  rw [sure, dif_neg h, if_neg (by rw [h2]; exact Bool.false_ne_true)]
theorem hld_cases {K : Ts} (h : hld K = true) : K = ['['] ∨ K = ['[', '/'] ∨ (∃ k, isCol k = true ∧ K = ['[', k]) ∨ (∃ k, isCol k = true ∧ K = ['[', '/', k]) := by
  rcases K with _ | ⟨a, _ | ⟨b, _ | ⟨c, _ | ⟨d, s⟩⟩⟩⟩ <;> simp [hld, isColO] at h ⊢
  · exact h
  · obtain ⟨rfl, h | h⟩ := h <;> simp [h]
  · obtain ⟨⟨rfl, rfl⟩, h⟩ := h
    simp [h]
theorem col_ne {c : Char} (h : isCol c = true) : c ≠ '[' ∧ c ≠ ']' ∧ c ≠ '/' ∧ c ≠ '\n' ∧ c ≠ '\t' := by
  unfold isCol cols at h
  simp at h
  rcases h with rfl | rfl | rfl | rfl | rfl | rfl | rfl | rfl | rfl <;> decide
theorem stp_other {c : Char} {s : Ts} (h : c ≠ '[') : stp (c :: s) = (sgI c, 1) := by
  simp [stp, h]
theorem stp_app {s t : Ts} (h : s ≠ []) (hh : hld s = false) : stp (s ++ t) = stp s := by
  rcases s with _ | ⟨a, _ | ⟨b, _ | ⟨c, _ | ⟨d, s⟩⟩⟩⟩
  · exact absurd rfl h
  · simp [hld] at hh
    simp [stp, hh]
  · by_cases ha : a = '['
    · subst ha
      simp [hld, isColO] at hh
      simp [stp, isColO, hh]
    · simp [stp, ha]
  · by_cases ha : a = '['
    · subst ha
      simp [hld, isColO] at hh
      simp [stp, isColO]
      by_cases hb : b = '/'
      · simp [hh hb]
      · simp [hb]
    · simp [stp, ha]
  · simp [stp]
theorem hld_len {s : Ts} (h : hld s = true) : s.length ≤ 3 ∧ s ≠ [] := by
  rcases hld_cases h with rfl | rfl | ⟨k, _, rfl⟩ | ⟨k, _, rfl⟩ <;> simp
theorem sure_app : ∀ (n : Nat) (p : Int) (s t : Ts), s.length ≤ n → sure p (s ++ t) = ((sure p s).1 ++ (sure (p + s.length - (sure p s).2.length) ((sure p s).2 ++ t)).1, (sure (p + s.length - (sure p s).2.length) ((sure p s).2 ++ t)).2) := by
  intro n
  induction n with
  | zero =>
    intro p s t h
    have : s = [] := List.length_eq_zero_iff.mp (by omega)
    subst this
    simp [sure_nil]
  | succ n ih =>
    intro p s t h
    by_cases hs : s = []
    · subst hs; simp [sure_nil]
    · cases hh : hld s with
      | true =>
        rw [sure_hld hh]
        have : p + (s.length : Int) - (s.length : Int) = p := by omega
        simp [this]
      | false =>
        have hn : 0 < s.length := List.length_pos_iff.mpr hs
        have hp := stp_pos s
        have hl := stp_le hs
        have hst := stp_app (t := t) hs hh
        have hne : s ++ t ≠ [] := by simp [hs]
        have hhd : t = [] ∨ hld (s ++ t) = false := by
          by_cases ht : t = []
          · exact .inl ht
          · right
            cases hq : hld (s ++ t) with
            | false => rfl
            | true =>
              exfalso
              rcases hld_cases hq with e | e | ⟨k, hk, e⟩ | ⟨k, hk, e⟩
              all_goals
                rcases s with _ | ⟨a, _ | ⟨b, _ | ⟨c, s⟩⟩⟩ <;> simp_all [hld, isColO]
        rcases hhd with rfl | hhd
        · rw [List.append_nil, List.append_nil]
          have idem : ∀ (m : Nat) (q : Int) (u : Ts), u.length ≤ m → sure (q + u.length - (sure q u).2.length) (sure q u).2 = ([], (sure q u).2) := by
            intro m
            induction m with
            | zero =>
              intro q u hu
              have : u = [] := List.length_eq_zero_iff.mp (by omega)
              subst this; simp [sure_nil]
            | succ m ihm =>
              intro q u hu
              by_cases hu0 : u = []
              · subst hu0; simp [sure_nil]
              · cases hhu : hld u with
                | true => rw [sure_hld hhu]; simp [sure_hld hhu]
                | false =>
                  have hpu := stp_pos u
                  have hlu := stp_le hu0
                  have := ihm (q + (stp u).2) (u.drop (stp u).2) (by rw [List.length_drop]; omega)
                  rw [sure_cons hu0 hhu]
                  have e : q + (stp u).2 + ((u.drop (stp u).2).length : Int) = q + u.length := by rw [List.length_drop]; omega
                  rw [e] at this
                  exact this
          rw [idem s.length p s (Nat.le_refl _)]
          simp
        · rw [sure_cons hne hhd, sure_cons hs hh, hst]
          have hd : (s ++ t).drop (stp s).2 = s.drop (stp s).2 ++ t := by rw [List.drop_append_of_le_length hl]
          rw [hd, ih (p + (stp s).2) (s.drop (stp s).2) t (by rw [List.length_drop]; omega)]
          have e : p + (stp s).2 + ((s.drop (stp s).2).length : Int) = p + s.length := by rw [List.length_drop]; omega
          rw [e]
          simp
theorem sure_rest : ∀ (n : Nat) (p : Int) (s : Ts), s.length ≤ n → (sure p s).2 = [] ∨ hld (sure p s).2 = true := by
  intro n
  induction n with
  | zero =>
    intro p s h
    have : s = [] := List.length_eq_zero_iff.mp (by omega)
    subst this; simp [sure_nil]
  | succ n ih =>
    intro p s h
    by_cases hs : s = []
    · subst hs; simp [sure_nil]
    · cases hh : hld s with
      | true => right; rw [sure_hld hh]; exact hh
      | false =>
        have hp := stp_pos s
        have hl := stp_le hs
        rw [sure_cons hs hh]
        exact ih _ _ (by rw [List.length_drop]; omega)
def each (p : Int) : Ts → List Im
  | [] => []
  | c :: s => (p, (sgI c).1, (sgI c).2) :: each (p + 1) s
theorem its_one {p : Int} {c : Char} (h : c ≠ '[') (s : Ts) : its p (c :: s) = (p, (sgI c).1, (sgI c).2) :: its (p + 1) s := by
  rw [its_cons (by simp), stp_other h]; simp
theorem its_hld {p : Int} {s : Ts} (h : hld s = true) : its p s = each p s := by
  rcases hld_cases h with rfl | rfl | ⟨k, hk, rfl⟩ | ⟨k, hk, rfl⟩
  · rw [its_cons (by simp)]; simp [stp, isColO, its_nil, each, sgI]
  · rw [its_cons (by simp)]; simp [stp, isColO, its_nil, each, sgI, its_one]
  · have := col_ne hk
    rw [its_cons (by simp)]; simp [stp, isColO, its_nil, each, sgI, its_one, this]
  · have := col_ne hk
    rw [its_cons (by simp)]; simp [stp, isColO, its_nil, each, sgI, its_one, this]
theorem its_sure : ∀ (n : Nat) (p : Int) (s : Ts), s.length ≤ n → its p s = (sure p s).1 ++ each (p + s.length - (sure p s).2.length) (sure p s).2 := by
  intro n
  induction n with
  | zero =>
    intro p s h
    have : s = [] := List.length_eq_zero_iff.mp (by omega)
    subst this; simp [sure_nil, its_nil, each]
  | succ n ih =>
    intro p s h
    by_cases hs : s = []
    · subst hs; simp [sure_nil, its_nil, each]
    · cases hh : hld s with
      | true =>
        rw [sure_hld hh, its_hld hh]
        have : p + (s.length : Int) - (s.length : Int) = p := by omega
        simp [this]
      | false =>
        have hp := stp_pos s
        have hl := stp_le hs
        rw [its_cons hs, sure_cons hs hh, ih _ (s.drop (stp s).2) (by rw [List.length_drop]; omega)]
        have e : p + (stp s).2 + ((s.drop (stp s).2).length : Int) = p + s.length := by rw [List.length_drop]; omega
        rw [e]; simp
theorem its_len : ∀ (n : Nat) (p : Int) (s : Ts), s.length ≤ n → (its p s).length ≤ s.length := by
  intro n
  induction n with
  | zero =>
    intro p s h
    have : s = [] := List.length_eq_zero_iff.mp (by omega)
    subst this; simp [its_nil]
  | succ n ih =>
    intro p s h
    by_cases hs : s = []
    · subst hs; simp [its_nil]
    · have hp := stp_pos s
      have hl := stp_le hs
      rw [its_cons hs, List.length_cons]
      have := ih (p + (stp s).2) (s.drop (stp s).2) (by rw [List.length_drop]; omega)
      rw [List.length_drop] at this; omega
end OW

namespace OW
open PySem L2 LI

theorem lim_lt {n : Nat} (h : n ≤ 4000000) : n ≤ LIM := h
theorem ltS_11 (a b : Char) : ltS [a] [b] = decide (a.toNat < b.toNat) := by
  unfold ltS
  simp [List.cons_lt_cons_iff]
theorem is_sign_1 (c : Char) : t_is_sign [c] = some (isSg c) := by
  unfold t_is_sign isSg
  simp [lenS, ltS_11]
  rw [Bool.eq_iff_iff]; simp
theorem is_colour_1 (c : Char) : t_is_colour [c] = some (isCol c) := by
  unfold t_is_colour isCol cols
  simp [lenS]
theorem checked_ok {s : Ts} (h : ∀ c ∈ s, okC c = true) : t_checked s = some () := by
  unfold t_checked
  simp only [Bool.not_true, Bool.false_eq_true, if_false]
  have : ∀ (n : Nat) (s : Ts), (∀ c ∈ s, okC c = true) → foldT (fun (s1 : Unit) (x2 : Int × Ts) => ((((t_is_sign x2.2).bind fun v3 => some (!v3)).bind fun v4 => (if v4 = true then ((inS x2.2 ['\n', '\t']).bind fun k => some (!k)) else some false)).bind fun v5 => if v5 = true then none else some ())) (enumT n (chars s)) () = some () := by
    intro n s
    induction s generalizing n with
    | nil => intro _; rfl
    | cons c s ih =>
      intro h
      have hc := h c (by simp)
      show foldT _ (((n : Int), [c]) :: enumT (n + 1) (chars s)) () = _
      rw [foldT_cons]
      simp only [is_sign_1, Option.bind_some, inS_1]
      have e : (if (!isSg c) = true then some (!decide (c ∈ ['\n', '\t'])) else some false) = some false := by
        unfold okC at hc
        cases hs : isSg c with
        | true => simp
        | false =>
          rw [hs] at hc
          simp at hc ⊢
          intro h; rcases hc with q | q
          · exact absurd q h
          · exact q
      rw [e]
      simp only [Option.bind_some, Bool.false_eq_true, if_false]
      exact ih (n + 1) fun d hd => h d (by simp [hd])
  have h2 := this 0 s h
  rw [h2]; rfl
theorem sign_item_1 (p : Int) (c : Char) : t_sign_item p [c] = some (p, (sgI c).1, (sgI c).2) := by
  unfold t_sign_item kt_ENDS sgI
  by_cases h1 : c = '\n'
  · subst h1; rfl
  · by_cases h2 : c = '\t'
    · subst h2; rfl
    · have e1 : ¬ '\n' = c := fun e => h1 e.symm
      have e2 : ¬ '\t' = c := fun e => h2 e.symm
      simp [kdS, h1, h2, e1, e2, kSign]
theorem lw_item_eq {s : Ts} {a : Nat} (ha : a < s.length) (hl : s.length ≤ LIM) : t_lw_item s (a : Int) = some (((a : Int), (stp (s.drop a)).1.1, (stp (s.drop a)).1.2), ((stp (s.drop a)).2 : Int)) := by
  unfold t_lw_item
  have e4 : cutL s (some (a : Int)) (some ((a : Int) + 4)) = (s.drop a).take 4 := by
    have := cut_nat (xs := s) (a := a) (b := a + 4)
    rw [show ((a + 4 : Nat) : Int) = (a : Int) + 4 by omega] at this
    rw [this, List.drop_take]
    congr 1; omega
  simp only [slS_ok hl, e4, Option.bind_some]
  have hd : (s.drop a) ≠ [] := by
    intro e
    have := congrArg List.length e
    rw [List.length_drop, List.length_nil] at this; omega
  generalize s.drop a = r at hd
  have b3 : ∀ x : Ts, (kInk, x) = (['i', 'n', 'k'], x) := fun _ => rfl
  rcases r with _ | ⟨c0, _ | ⟨c1, _ | ⟨c2, _ | ⟨c3, r⟩⟩⟩⟩
  · exact absurd rfl hd
  all_goals
    simp [LIM, ixS, slS, lenS, cut_to, stp, isColO, isCol, cols, sgI, kInk, kGround, kPlain, kSign, kEnd, kAnew]
    by_cases h0 : c0 = '['
    · subst h0
      simp
      try
        repeat' split
        all_goals simp_all
    · simp [h0]
      repeat' split
      all_goals simp_all
theorem lw_items_eq {s : Ts} (hl : s.length < 5000) : t_lw_items s = some (its 0 s) := by
  have hL : s.length ≤ LIM := lim_lt (by omega)
  unfold t_lw_items
  dsimp only
  obtain ⟨st, h1, h2, h3⟩ := whileT_inv (p := fun (s1 : (List (Int × Ts × Ts)) × Int) => ((lenS s).bind fun v2 => some (decide (s1.2 < v2)))) (g := fun (s1 : (List (Int × Ts × Ts)) × Int) => ((t_lw_item s s1.2)).bind fun u3 => ((appT s1.1 u3.1)).bind fun u4 => some (u4, s1.2 + u3.2))
    (fun st => ∃ a : Nat, st.2 = (a : Int) ∧ a ≤ s.length ∧ st.1 ++ its (a : Int) (s.drop a) = its 0 s ∧ st.1.length ≤ a) (fun st => (s.length - st.2).toNat) (fun st => ¬ st.2 < (s.length : Int)) (by
      rintro ⟨acc, at_⟩ ⟨a, e1, h2, h3, h4⟩
      dsimp only at e1 h2 h3 h4 ⊢
      subst e1
      rw [lenS_ok hL]
      by_cases ha : a < s.length
      · right
        refine ⟨by simp [ha], ?_⟩
        have hd : s.drop a ≠ [] := fun e => by
          have := congrArg List.length e
          rw [List.length_drop, List.length_nil] at this; omega
        have hp := stp_pos (s.drop a)
        have hle := stp_le hd
        rw [List.length_drop] at hle
        rw [lw_item_eq ha hL, Option.bind_some, appT_ok (by unfold LIM; omega), Option.bind_some]
        refine ⟨_, rfl, ⟨a + (stp (s.drop a)).2, by simp, by omega, ?_, by simp; omega⟩, by simp; omega⟩
        rw [← h3, its_cons hd, List.append_assoc, List.drop_drop]
        simp
      · left
        exact ⟨by simp [ha], by omega⟩) 5000 ([], 0) ⟨0, rfl, Nat.zero_le _, by simp, Nat.le_refl _⟩ (by simp; omega)
  rw [h1, Option.bind_some]
  obtain ⟨a, e1, e2, e3, e4⟩ := h2
  have : a = s.length := by rw [e1] at h3; omega
  subst this
  rw [List.drop_length, its_nil, List.append_nil] at e3
  rw [e3]
theorem told_eq (K : Ts) (p : Int) (n : Nat) (hn : n ≤ K.length) (hK : K.length ≤ LIM) : t_Reader_told ⟨K, p⟩ (n : Int) = some (each p (K.take n), ⟨K.drop n, p + n⟩) := by
  unfold t_Reader_told
  dsimp only
  rw [slS_ok hK, Option.bind_some, cut_to (by omega), Option.bind_some, Int.toNat_natCast]
  have main : ∀ (s : Ts) (q : Int) (acc : List Im), acc.length + s.length ≤ LIM → foldT (fun (s2 : OReader × (List (Int × Ts × Ts))) (sign : Ts) => (((t_sign_item s2.1.place sign).bind fun v3 => (appT s2.2 v3))).bind fun u4 => some ({ s2.1 with place := s2.1.place + (1 : Int) }, u4)) (chars s) (⟨K, q⟩, acc) = some (⟨K, q + s.length⟩, acc ++ each q s) := by
    intro s
    induction s with
    | nil => intro q acc _; simp [chars, each]
    | cons c s ih =>
      intro q acc h
      show foldT _ ([c] :: chars s) _ = _
      rw [foldT_cons, sign_item_1, Option.bind_some, appT_ok (by simp at h ⊢; omega), Option.bind_some]
      simp only [Option.bind_some]
      rw [ih (q + 1) _ (by simp at h ⊢; omega)]
      simp [each]
      omega
  have h2 := main (K.take n) p [] (by rw [List.length_take]; simp; omega)
  rw [h2, Option.bind_some, slS_ok hK, Option.bind_some, cut_from (by omega), Int.toNat_natCast]
  have e : (List.take n K).length = n := by rw [List.length_take]; omega
  rw [e]; simp
theorem take_eq (K : Ts) (p : Int) (c : Char) (hK : K = [] ∨ hld K = true) : t_Reader_take ⟨K, p⟩ [c] = some ((sure p (K ++ [c])).1, ⟨(sure p (K ++ [c])).2, p + K.length + 1 - (sure p (K ++ [c])).2.length⟩) := by
  have tl : ∀ (K : Ts) (n : Nat), n ≤ K.length → K.length ≤ 4 → t_Reader_told ⟨K, p⟩ (n : Int) = some (each p (K.take n), ⟨K.drop n, p + n⟩) := fun K n h1 h2 => told_eq K p n h1 (lim_lt (by omega))
  have t1 : ∀ q : Int, t_Reader_told ⟨[c], q⟩ 1 = some (each q [c], ⟨[], q + 1⟩) := fun q => by
    have := told_eq [c] q 1 (by simp) (lim_lt (by simp))
    exact this
  have sg : ∀ q : Int, c ≠ '[' → sure q [c] = ([(q, (sgI c).1, (sgI c).2)], []) := fun q hc => by
    rw [sure_cons (by simp) (by simp [hld, hc]), stp_other hc]
    simp [sure_nil]
  have sb : ∀ q : Int, sure q ['['] = ([], ['[']) := fun q => sure_hld (by decide)
  unfold t_Reader_take
  dsimp only
  rcases hK with rfl | hK
  · -- nothing is held
    by_cases hb : c = '['
    · subst hb
      rw [List.nil_append, sb]
      simp [catS, t_mark_item, t_begins_mark, memT, lenS]
    · have h0 : t_Reader_told ⟨([] : Ts), p⟩ 0 = some ([], ⟨[], p⟩) := by simpa [each] using tl [] 0 (by simp) (by simp)
      rw [List.nil_append, sg p hb]
      simp [catS, t_mark_item, t_begins_mark, memT, lenS, h0, hb, t1, each, catL]
  · have one : ∀ (q : Int) (d : Char) (r : Ts), d ≠ '[' → sure q (d :: r) = ((q, (sgI d).1, (sgI d).2) :: (sure (q + 1) r).1, (sure (q + 1) r).2) := fun q d r hd => by
      rw [sure_cons (by simp) (by simp [hld, hd]), stp_other hd]; simp
    have br : ∀ (q : Int) (r : Ts), hld ('[' :: r) = false → stp ('[' :: r) = ((kSign, ['[']), 1) → sure q ('[' :: r) = ((q, kSign, ['[']) :: (sure (q + 1) r).1, (sure (q + 1) r).2) := fun q r h1 h2 => by
      rw [sure_cons (by simp) h1, h2]; simp
    have hsl : isCol '/' = false := by decide
    have cl : ∀ d : Char, t_is_colour [d] = some (isCol d) := is_colour_1
    rcases hld_cases hK with rfl | rfl | ⟨k, hk, rfl⟩ | ⟨k, hk, rfl⟩
    · have h1 := tl ['['] 1 (by simp) (by simp)
      simp [each] at h1
      by_cases c1 : c = ']'
      · subst c1
        rw [show (['['] ++ [']'] : Ts) = ['[', ']'] from rfl, sure_cons (by simp) (by decide)]
        simp [stp, sure_nil, catS, LIM, t_mark_item, lenS, kPlain]
        all_goals omega
      · by_cases c2 : c = '['
        · subst c2
          rw [show (['['] ++ ['['] : Ts) = ['[', '['] from rfl, sure_cons (by simp) (by decide)]
          simp [stp, sure_nil, catS, LIM, t_mark_item, lenS, kSign]
          all_goals omega
        · by_cases c3 : c = '/'
          · subst c3
            rw [show (['['] ++ ['/'] : Ts) = ['[', '/'] from rfl, sure_hld (by decide)]
            simp [catS, LIM, t_mark_item, t_begins_mark, memT, lenS]
            all_goals omega
          · cases c4 : isCol c with
            | true =>
              rw [show (['['] ++ [c] : Ts) = ['[', c] from rfl, sure_hld (by simp [hld, isColO, c4])]
              simp [catS, LIM, t_mark_item, t_begins_mark, memT, lenS, ixS, c1, c2, c3, cl, c4]
              all_goals omega
            | false =>
              rw [show (['['] ++ [c] : Ts) = ['[', c] from rfl, br p [c] (by simp [hld, isColO, c3, c4]) (by simp [stp, isColO, c1, c2]), sg _ c2]
              simp [catS, catL, LIM, t_mark_item, t_begins_mark, memT, lenS, ixS, c1, c2, c3, cl, c4, h1, t1, each, sgI, kSign]
              all_goals omega
    · have h1 := tl ['[', '/'] 2 (by simp) (by simp)
      simp [each] at h1
      cases c4 : isCol c with
      | true =>
        rw [show (['[', '/'] ++ [c] : Ts) = ['[', '/', c] from rfl, sure_hld (by simp [hld, isColO, c4])]
        have := col_ne c4
        simp [catS, LIM, t_mark_item, t_begins_mark, memT, lenS, ixS, slS, cut_to, cl, c4, this, hsl]
        all_goals omega
      | false =>
        rw [show (['[', '/'] ++ [c] : Ts) = ['[', '/', c] from rfl, br p ['/', c] (by simp [hld, isColO, c4]) (by simp [stp, isColO, isCol, cols]), one _ _ _ (by decide)]
        by_cases c2 : c = '['
        · subst c2
          rw [sb]
          simp [catS, catL, LIM, t_mark_item, t_begins_mark, memT, lenS, ixS, slS, cut_to, cl, c4, h1, t1, each, sgI, kSign, hsl]
          all_goals omega
        · rw [sg _ c2]
          simp [catS, catL, LIM, t_mark_item, t_begins_mark, memT, lenS, ixS, slS, cut_to, cl, c4, h1, t1, each, c2, sgI, kSign, hsl]
          all_goals omega
    · have hn := col_ne hk
      have h1 := tl ['[', k] 2 (by simp) (by simp)
      simp [each] at h1
      by_cases c1 : c = ']'
      · subst c1
        rw [show (['[', k] ++ [']'] : Ts) = ['[', k, ']'] from rfl, sure_cons (by simp) (by simp [hld, isColO, hn])]
        simp [stp, sure_nil, isColO, hn, hk, catS, LIM, t_mark_item, lenS, ixS, cl, kInk]
        all_goals omega
      · rw [show (['[', k] ++ [c] : Ts) = ['[', k, c] from rfl, br p [k, c] (by simp [hld, isColO, hn]) (by simp [stp, isColO, hn, c1]), one _ _ _ hn.1]
        by_cases c2 : c = '['
        · subst c2
          rw [sb]
          simp [catS, catL, LIM, t_mark_item, t_begins_mark, memT, lenS, ixS, slS, cut_to, cl, hk, h1, t1, each, hn, sgI, kSign]
          all_goals omega
        · rw [sg _ c2]
          simp [catS, catL, LIM, t_mark_item, t_begins_mark, memT, lenS, ixS, slS, cut_to, cl, hk, h1, t1, each, hn, c1, c2, sgI, kSign]
          all_goals omega
    · have hn := col_ne hk
      have h1 := tl ['[', '/', k] 3 (by simp) (by simp)
      simp [each] at h1
      by_cases c1 : c = ']'
      · subst c1
        rw [show (['[', '/', k] ++ [']'] : Ts) = ['[', '/', k, ']'] from rfl, sure_cons (by simp) (by simp [hld])]
        simp [stp, sure_nil, isColO, hn, hk, catS, LIM, t_mark_item, lenS, ixS, slS, cut_to, cl, kGround]
        all_goals omega
      · rw [show (['[', '/', k] ++ [c] : Ts) = ['[', '/', k, c] from rfl, br p ['/', k, c] (by simp [hld]) (by simp [stp, isColO, hn, c1]), one _ _ _ (by decide), one _ _ _ hn.1]
        by_cases c2 : c = '['
        · subst c2
          rw [sb]
          simp [catS, catL, LIM, t_mark_item, t_begins_mark, memT, lenS, ixS, slS, cut_to, cl, hk, h1, t1, each, hn, sgI, kSign]
          all_goals omega
        · rw [sg _ c2]
          simp [catS, catL, LIM, t_mark_item, t_begins_mark, memT, lenS, ixS, slS, cut_to, cl, hk, h1, t1, each, hn, c1, c2, sgI, kSign]
          all_goals omega
theorem sure_len : ∀ (n : Nat) (p : Int) (s : Ts), s.length ≤ n → (sure p s).1.length + (sure p s).2.length ≤ s.length := by
  intro n
  induction n with
  | zero =>
    intro p s h
    have : s = [] := List.length_eq_zero_iff.mp (by omega)
    subst this; simp [sure_nil]
  | succ n ih =>
    intro p s h
    by_cases hs : s = []
    · subst hs; simp [sure_nil]
    · cases hh : hld s with
      | true => rw [sure_hld hh]; simp
      | false =>
        have hp := stp_pos s
        have hl := stp_le hs
        have := ih (p + (stp s).2) (s.drop (stp s).2) (by rw [List.length_drop]; omega)
        rw [List.length_drop] at this
        rw [sure_cons hs hh, List.length_cons]
        dsimp only
        omega
theorem feed_eq (K : Ts) (p : Int) (s : Ts) (hK : K = [] ∨ hld K = true) (hs : ∀ c ∈ s, okC c = true) (hl : s.length ≤ 900000) : t_Reader_feed ⟨K, p⟩ s = some ((sure p (K ++ s)).1, ⟨(sure p (K ++ s)).2, p + K.length + s.length - (sure p (K ++ s)).2.length⟩) := by
  unfold t_Reader_feed
  rw [checked_ok hs, Option.bind_some]
  dsimp only
  have main : ∀ (s : Ts) (K : Ts) (q : Int) (acc : List Im), (K = [] ∨ hld K = true) → acc.length + K.length + s.length ≤ 990000 →
      foldT (fun (s2 : OReader × (List (Int × Ts × Ts))) (sign : Ts) => (((t_Reader_take s2.1 sign).bind fun r4 => (catL s2.2 r4.1).bind fun z5 => some (r4, z5))).bind fun u6 => some (u6.1.2, u6.2)) (chars s) (⟨K, q⟩, acc) = some (⟨(sure q (K ++ s)).2, q + K.length + s.length - (sure q (K ++ s)).2.length⟩, acc ++ (sure q (K ++ s)).1) := by
    intro s
    induction s with
    | nil =>
      intro K q acc hK _
      have : sure q K = ([], K) := by
        rcases hK with rfl | hK
        · exact sure_nil q
        · exact sure_hld hK
      simp [chars, this]
      try omega
    | cons c s ih =>
      intro K q acc hK h
      have hlen := sure_len _ q (K ++ [c]) (Nat.le_refl _)
      have hr := sure_rest _ q (K ++ [c]) (Nat.le_refl _)
      have happ := sure_app _ q (K ++ [c]) s (Nat.le_refl _)
      rw [List.length_append, List.length_singleton] at hlen
      have hq : ((K ++ [c]).length : Int) = K.length + 1 := by simp
      rw [hq] at happ
      rw [List.append_assoc, List.singleton_append] at happ
      show foldT _ ([c] :: chars s) _ = _
      rw [foldT_cons, take_eq K q c hK, Option.bind_some]
      dsimp only
      have eq1 : q + ((K.length : Int) + 1) - ((sure q (K ++ [c])).2.length : Int) = q + K.length + 1 - (sure q (K ++ [c])).2.length := by omega
      rw [eq1] at happ
      rw [happ]
      generalize sure q (K ++ [c]) = R at *
      rw [List.length_cons] at h
      rw [catL_ok (by unfold LIM; omega), Option.bind_some, Option.bind_some, Option.bind_some]
      dsimp only
      rw [ih R.2 _ (acc ++ R.1) hr (by rw [List.length_append]; omega)]
      rw [List.append_assoc, List.length_cons]
      have eq2 : q + (K.length : Int) + 1 - (R.2.length : Int) + (R.2.length : Int) + (s.length : Int) = q + K.length + ((s.length + 1 : Nat) : Int) := by omega
      rw [eq2]
  have hK4 : K.length ≤ 3 := by
    rcases hK with rfl | hK
    · simp
    · exact (hld_len hK).1
  rw [main s K p [] hK (by simp; omega), Option.bind_some]
  simp
theorem finish_eq (K : Ts) (p : Int) (hl : K.length ≤ 900000) : t_Reader_finish ⟨K, p⟩ = some (each p K, ⟨[], p + K.length⟩) := by
  unfold t_Reader_finish
  dsimp only
  rw [lenS_ok (lim_lt (by omega)), Option.bind_some, told_eq K p K.length (Nat.le_refl _) (lim_lt (by omega)), Option.bind_some]
  simp
theorem cell_eq (ns : List Int) (k : Nat) : t_lw_cell ns (k : Int) = some (ns.getD k 0) := by
  unfold t_lw_cell
  by_cases h : k < ns.length
  · simp [h, atI_nat h]
  · simp [h]
theorem mix_ex (c : Int) (k : Int) (h0 : 0 ≤ k) (hk : k ≤ 1000000) : ∃ v, t_lw_mix c k = some v ∧ 0 ≤ v ∧ v < 1000000000 := by
  unfold t_lw_mix
  by_cases hc : (1000000000000000000 : Int) < c
  · rw [if_pos (by simpa using hc)]
    dsimp only
    rw [rngT_ok (by omega) (by omega), Option.bind_some]
    obtain ⟨s, h1, _⟩ := foldT_inv (g := fun (s1 : Int) (turn : Int) => some (s1 / 1000000000)) (fun _ => True) ((List.range k.toNat).map fun (k : Nat) => (k : Int)) c trivial fun s x _ _ => ⟨_, rfl, trivial⟩
    rw [h1]
    exact ⟨_, rfl, by omega, by omega⟩
  · rw [if_neg (by simpa using hc)]
    dsimp only
    rw [rngT_ok (by omega) (by omega), Option.bind_some]
    obtain ⟨s, h1, h2, h3⟩ := foldT_inv (g := fun (s1 : Int) (turn : Int) => some ((s1 * 48271 + 104729) % 2147483629)) (fun s => 0 ≤ s ∧ s < 4294967296) ((List.range (k + 2).toNat).map fun (k : Nat) => (k : Int)) (c % 2147483647 + 7919) ⟨by omega, by omega⟩ fun s x _ _ => ⟨_, rfl, by omega, by omega⟩
    rw [h1, Option.bind_some, mulT_ok (by omega) (by omega), Option.bind_some, Option.bind_some]
    refine ⟨_, rfl, ?_⟩
    generalize s * s = z
    exact ⟨by omega, by omega⟩
end OW

namespace OW
open PySem L2 LI
def gd (s : Ts) : Bool := s.all okC && decide (1 ≤ s.length) && decide (s.length ≤ 9)
theorem cols_ok : ∀ k ∈ cols, okC k = true := by decide
def lwS : Ts := [' ', '!', '"', '#', '$', '&', '\'', '(', ')', '*', '+', ',', '-', '.', '/', '0', '1', '2', '3', '4', '5', '6', '7', '8', '9', ':', ';', '<', '=', '>', '?', '@', 'A', 'B', 'C', 'D', 'E', 'F', 'G', 'H', 'I', 'J', 'K', 'L', 'M', 'N', 'O', 'P', 'Q', 'R', 'S', 'T', 'U', 'V', 'W', 'X', 'Y', 'Z', '[', '\\', ']', '^', '_', '`', 'a', 'b', 'c', 'd', 'e', 'f', 'g', 'h', 'i', 'j', 'k', 'l', 'm', 'n', 'o', 'p', 'q', 'r', 's', 't', 'u', 'v', 'w', 'x', 'y', 'z', '{', '|', '}']
theorem lw_signs_eq : t_lw_signs = some lwS := by
  unfold t_lw_signs
  dsimp only
  rw [catS_ok (by decide)]; rfl
theorem lwS_ok : ∀ c ∈ lwS, isSg c = true := by decide
theorem lwS_len : lwS.length = 93 := by decide
theorem atI_all {α : Type} {xs : List α} {P : α → Prop} {i : Int} (h0 : 0 ≤ i) (h1 : i < (xs.length : Int)) (h : ∀ x ∈ xs, P x) : ∃ x, atI xs i = some x ∧ P x := by
  obtain ⟨x, h2, h3⟩ := atI_ok h0 h1
  exact ⟨x, h3, h x h2⟩
theorem colour_ex {v : Int} : ∃ k ∈ cols, ixS ['a', 'b', 'c', 'd', 'e', 'f', 'g', 'h', '.'] (v % 9) = some [k] := by
  have := mod_in v 9 (by omega)
  exact ixS_mem (s := ['a', 'b', 'c', 'd', 'e', 'f', 'g', 'h', '.']) (by simp [LIM]) this.1 (by simpa using this.2)
theorem token_ex (c : Int) : ∃ s, t_lw_token c = some s ∧ gd s = true := by
  obtain ⟨v2, e2, _, _⟩ := mix_ex c 2 (by omega) (by omega)
  obtain ⟨v0, e0, _, _⟩ := mix_ex c 0 (by omega) (by omega)
  obtain ⟨v1, e1, _, _⟩ := mix_ex c 1 (by omega) (by omega)
  obtain ⟨k, hk, ek⟩ := colour_ex (v := v2)
  have hok : okC k = true := cols_ok k hk
  unfold t_lw_token
  simp only [e2, e0, e1, Option.bind_some, ek]
  simp only [catS, catL, appT, LIM, List.length_cons, List.length_nil, List.length_append, List.cons_append, List.nil_append, Nat.reduceAdd, Nat.reduceLeDiff, Nat.reduceLT, if_true, Option.bind_some]
  have h93 := mod_in v1 93 (by omega)
  have h4 := mod_in v1 4 (by omega)
  have h3 := mod_in v1 3 (by omega)
  have h8 := mod_in v1 8 (by omega)
  have h18 := mod_in v1 18 (by omega)
  split
  · rw [lw_signs_eq, Option.bind_some]
    obtain ⟨d, hd, ed⟩ := ixS_mem (s := lwS) (by rw [lwS_len]; decide) h93.1 (by rw [lwS_len]; exact h93.2)
    exact ⟨_, ed, by simp [gd, okC, lwS_ok d hd]⟩
  · split
    · obtain ⟨d, hd, ed⟩ := ixS_mem (s := [' ', 'A', 'B', 'Z']) (by simp [LIM]) h4.1 (by simpa using h4.2)
      exact ⟨_, ed, by
        simp at hd
        rcases hd with rfl | rfl | rfl | rfl <;> decide⟩
    · split
      · exact ⟨_, rfl, by simp [gd, hok]; decide⟩
      · split
        · exact ⟨_, rfl, by simp [gd, hok]; decide⟩
        · split
          · exact atI_all h4.1 (by simpa using h4.2) (by decide)
          · split
            · exact atI_all h3.1 (by simpa using h3.2) (by decide)
            · split
              · exact ⟨_, rfl, by simp [gd, hok]⟩
              · split
                · rw [slS_ok (by simp [LIM]), cut_to (by omega)]
                  refine ⟨_, rfl, ?_⟩
                  obtain ⟨n, hn⟩ : ∃ n : Nat, (2 + v1 % 8).toNat = n ∧ 2 ≤ n ∧ n ≤ 9 := ⟨_, rfl, by omega, by omega⟩
                  rw [hn.1]
                  obtain ⟨_, h5, h6⟩ := hn
                  have : n = 2 ∨ n = 3 ∨ n = 4 ∨ n = 5 ∨ n = 6 ∨ n = 7 ∨ n = 8 ∨ n = 9 := by omega
                  rcases this with rfl | rfl | rfl | rfl | rfl | rfl | rfl | rfl <;> decide
                · refine atI_all h18.1 (by simpa using h18.2) ?_
                  have b1 : okC '[' = true := by decide
                  have b2 : okC ']' = true := by decide
                  have b3 : okC '/' = true := by decide
                  have b4 : okC '\n' = true := by decide
                  have b5 : okC '\t' = true := by decide
                  have b6 : okC 'i' = true := by decide
                  have b7 : okC 'A' = true := by decide
                  simp [gd, hok, b1, b2, b3, b4, b5, b6, b7]
theorem join_nil : ∀ ss : List Ts, joinT [] ss = ss.flatten
  | [] => rfl
  | [s] => by simp [joinT]
  | s :: t :: ss => by
    have := join_nil (t :: ss)
    simp [joinT, this]
theorem flat_len {ss : List Ts} {n : Nat} (h : ∀ s ∈ ss, s.length ≤ n) : ss.flatten.length ≤ ss.length * n := by
  induction ss with
  | nil => simp
  | cons s ss ih =>
    have h1 := h s (by simp)
    have h2 := ih fun t ht => h t (by simp [ht])
    simp only [List.flatten_cons, List.length_append, List.length_cons, Nat.succ_mul]
    omega
theorem flat_sum (ss : List Ts) : (ss.map List.length).sum = ss.flatten.length := by rw [List.length_flatten]
theorem gd_ok {s : Ts} (h : gd s = true) : (∀ c ∈ s, okC c = true) ∧ 1 ≤ s.length ∧ s.length ≤ 9 := by
  unfold gd at h
  simp at h
  exact ⟨h.1.1, by have := h.1.2; omega, h.2⟩
theorem tokens_ex (ns : List Int) (hl : ns.length ≤ 63) : ∃ s, ((compT (fun (_ : Int) => some true) (fun (c : Int) => t_lw_token c) ns).bind fun v => joinS [] v) = some s ∧ (∀ c ∈ s, okC c = true) ∧ s.length ≤ 9 * ns.length := by
  obtain ⟨ts, h1, h2, h3⟩ := compT_ex (g := fun (c : Int) => t_lw_token c) (P := fun _ s => gd s = true) (xs := ns) (by unfold LIM; omega) fun c _ => token_ex c
  have h4 : ∀ s ∈ ts, gd s = true := fun s hs => by
    obtain ⟨_, _, h⟩ := h3 s hs; exact h
  have h5 := flat_len (ss := ts) (n := 9) fun s hs => (gd_ok (h4 s hs)).2.2
  refine ⟨ts.flatten, ?_, ?_, by omega⟩
  · rw [h1, Option.bind_some]
    unfold joinS
    rw [if_pos (by rw [flat_sum, List.length_nil, Nat.mul_zero, Nat.add_zero]; unfold LIM; omega), join_nil]
  · intro c hc
    obtain ⟨s, hs, hc⟩ := List.mem_flatten.mp hc
    exact (gd_ok (h4 s hs)).1 c hc
end OW

namespace OW
open PySem L2 LI
end OW

namespace LW
open PySem L2 LI OW
def xL : List (Nat × List Str) := [(1, ["at"]), (2, []), (3, ["name"]), (4, ["name"]), (5, ["name"]), (6, []), (7, ["at"]), (8, ["at"]), (9, []), (10, [])]
def kL : List Nat := [0, 1, 2, 3, 4, 5, 6, 7, 8, 9, 10]
def subX (n k : Nat) : Bool := decide ((n, k) ∈ ([(5, 5), (5, 0), (9, 9), (9, 0), (3, 3), (3, 0), (2, 2), (2, 0), (8, 8), (8, 0), (7, 7), (7, 0), (10, 10), (10, 0), (1, 1), (1, 0), (6, 6), (6, 0), (4, 0), (4, 4)] : List (Nat × Nat)))
def xL_OutError : List (Nat × List Str) := [(1, ["at"]), (2, []), (3, ["name"]), (4, ["name"]), (5, ["name"]), (6, []), (7, ["at"]), (8, ["at"]), (9, []), (10, [])]
theorem sbX_OutError : ∀ p ∈ xL_OutError, p ∈ xL := by decide
def t_checked__X1 (text : An) : Option (Exn ⊕ Unit) :=
  (((isiA "str" text).bind fun v1_ => some (!v1_)).bind fun v2_ => if v2_ = true then
  (some (0 : Int)).bind fun x3_ => some (.inl (1, [("at", an eI x3_)]) : (Exn ⊕ Unit))
  else
  (((dS text.d).bind fun v4_ => some (enumT 0 (chars v4_))).bind fun v5_ => (forT (τ := (Exn ⊕ Unit)) (fun (s6_ : Unit) (x7_ : (Int × Ts)) =>
  ((((t_is_sign x7_.2).bind fun v8_ => some (!v8_)).bind fun v9_ => (if v9_ = true then ((inS x7_.2 ['\n', '\t']).bind fun k => some (!k)) else some false)).bind fun v10_ => if v10_ = true then
  (some x7_.1).bind fun x11_ => some (.rt (.inl (1, [("at", an eI x11_)]) : (Exn ⊕ Unit)) : (St Unit (Exn ⊕ Unit)))
  else
  some (.nx () : (St Unit (Exn ⊕ Unit))))) v5_ ()).bind fun u => seqT u fun (s6_ : Unit) => some (.inr () : (Exn ⊕ Unit))))
def t_Reader_feed__X1 (self : OReader) (piece : An) : Option ((Exn ⊕ (List Im)) × OReader) :=
  bindX (fun r => r) (t_checked__X1 piece) (fun (r1_ : (Exn ⊕ Unit)) (y2_ : Unit) =>
  let found : (List Im) := ([] : (List Im))
  (((dS piece.d).bind fun v3_ => some (chars v3_)).bind fun v4_ => (foldT (fun (s5_ : (OReader × (List Im))) (sign : Ts) =>
  (((t_Reader_take s5_.1 sign).bind fun r6_ => (catL s5_.2 r6_.1).bind fun z7_ => some (r6_, z7_))).bind fun (u8_ : (((List Im) × OReader) × (List Im))) =>
  some (u8_.1.2, u8_.2)) v4_ (self, found)).bind fun (s5_ : (OReader × (List Im))) =>
  some ((.inr s5_.2 : Exn ⊕ (List Im)), s5_.1))) (fun (r1_ : (Exn ⊕ Unit)) (x9_ : Exn) => ((.inl x9_ : Exn ⊕ (List Im)), self))
def t_items_of__X1 (text : An) : Option (Exn ⊕ (List Im)) :=
  (t_Reader_init).bind fun (reader : OReader) =>
  bindX (fun r => r.1) (t_Reader_feed__X1 reader text) (fun (r1_ : ((Exn ⊕ (List Im)) × OReader)) (found : (List Im)) =>
  (((t_Reader_finish r1_.2).bind fun r2_ => (catL found r2_.1).bind fun z3_ => some (z3_, r2_))).bind fun u4_ => some (.inr u4_.1 : (Exn ⊕ (List Im)))) (fun (r1_ : ((Exn ⊕ (List Im)) × OReader)) (x5_ : Exn) => (.inl x5_ : (Exn ⊕ (List Im))))
def t_lw_whole_c (found : An) : Option Bool :=
  ((isiA "int" found).bind fun v1_ => (if v1_ = true then ((isiA "bool" found).bind fun v2_ => some (!v2_)) else some false))
def t_lw_same_c (found : (List Im)) (due : (List Im)) : Option Bool :=
  if ((!true) || (!decide ((List.length found : Int) = (List.length due : Int)))) = true then
  some false
  else
  (forT (τ := Bool) (fun (s1_ : Unit) (item_here : Im) =>
  ((if (!true) = true then some true else (if (!decide ((3 : Int) = (3 : Int))) = true then some true else ((t_lw_whole_c ((an eI) item_here.1)).bind fun v2_ => some (!v2_)))).bind fun v3_ => if v3_ = true then
  some (.rt false : (St Unit Bool))
  else
  if ((!true) || (!true)) = true then
  some (.rt false : (St Unit Bool))
  else
  some (.nx () : (St Unit Bool)))) found ()).bind fun u => seqT u fun (s1_ : Unit) => some (decide (found = due))
def t_lw_did (way : Int) (reader : OReader) (thing : An) : Option ((Exn ⊕ An) × OReader) :=
  if (decide (way = (0 : Int))) = true then
  bindX (fun r => (mapR (an eU) r)) (t_checked__X1 thing) (fun (r1_ : (Exn ⊕ Unit)) (y2_ : An) => some ((.inr y2_ : Exn ⊕ An), reader)) (fun (r1_ : (Exn ⊕ Unit)) (x3_ : Exn) => ((.inl x3_ : Exn ⊕ An), reader))
  else
  if (decide (way = (1 : Int))) = true then
  bindX (fun r => (mapR (an (eL false (e3 eI eS eS))) r)) (t_items_of__X1 thing) (fun (r4_ : (Exn ⊕ (List Im))) (y5_ : An) => some ((.inr y5_ : Exn ⊕ An), reader)) (fun (r4_ : (Exn ⊕ (List Im))) (x6_ : Exn) => ((.inl x6_ : Exn ⊕ An), reader))
  else
  bindX (fun r => (mapR (an (eL false (e3 eI eS eS))) r.1)) (t_Reader_feed__X1 reader thing) (fun (r7_ : ((Exn ⊕ (List Im)) × OReader)) (y8_ : An) => some ((.inr y8_ : Exn ⊕ An), r7_.2)) (fun (r7_ : ((Exn ⊕ (List Im)) × OReader)) (x9_ : Exn) => ((.inl x9_ : Exn ⊕ An), r7_.2))
def t_lw_refused (way : Int) (reader : OReader) (thing : An) (at_ : Int) : Option (Bool × OReader) :=
  ((tryB (fun e_ => okL xL_OutError e_.1 (exF e_)) (bindX (fun r => r.1) (t_lw_did way reader thing) (fun (r1_ : ((Exn ⊕ An) × OReader)) (y2_ : An) =>
  some (.inr (.inl r1_.2 : (OReader ⊕ (Bool × OReader))) : ((Exn × OReader) ⊕ (OReader ⊕ (Bool × OReader))))) (fun (r1_ : ((Exn ⊕ An) × OReader)) (x3_ : Exn) => (.inl (x3_, r1_.2) : ((Exn × OReader) ⊕ (OReader ⊕ (Bool × OReader))))) : Option ((Exn × OReader) ⊕ (OReader ⊕ (Bool × OReader)))) (fun (s4_ : OReader) (e5_ : Exn) =>
  if (([5, 9, 3, 2, 8, 7, 10, 6, 4] : List Nat).any (subX e5_.1)) = true then
  some (.inr (false, s4_) : (OReader ⊕ (Bool × OReader)))
  else
  ((if (subX e5_.1 1) = true then (if true = true then (((fldT "at" e5_).bind fun v6_ => (t_lw_whole_c v6_)).bind fun v7_ => (if v7_ = true then ((fldT "at" e5_).bind fun v8_ => (eqA v8_ ((an eI) at_))) else some false)) else some false) else some false)).bind fun u9_ => some (.inr (u9_, s4_) : (OReader ⊕ (Bool × OReader)))) : Option (OReader ⊕ (Bool × OReader)))).bind fun u => seqT u fun (s10_ : OReader) => some (false, s10_)
def t_lw_by_hand (number : Int) : Option Bool :=
  let some_ : (List Int) := ([number, (number + (1 : Int)), (number + (2 : Int))] : (List Int))
  let names : (List Ts) := ([(['a'] : Ts), (['b'] : Ts), (['c'] : Ts)] : (List Ts))
  some ((decide (some_ = ([number, (number + (1 : Int)), (number + (2 : Int))] : (List Int)))) && (decide (names = ([(['a'] : Ts), (['b'] : Ts), (['c'] : Ts)] : (List Ts)))))
def t_lw_spoilt (text : Ts) (cell_here : Int) : Option Ts :=
  (((t_lw_mix cell_here (11 : Int)).bind fun v1_ => ((lenS text).bind fun v2_ => some (v2_ + (1 : Int))).bind fun v3_ => (modT v1_ v3_))).bind fun (at_ : Int) =>
  ((((t_lw_mix cell_here (12 : Int)).bind fun v4_ => some (v4_ % 5)).bind fun v5_ => some (decide (v5_ = (0 : Int)))).bind fun v6_ => ((if v6_ = true then
  ((((lenS text).bind fun v7_ => some ([(0 : Int), v7_] : (List Int))).bind fun v8_ => ((t_lw_mix cell_here (13 : Int)).bind fun v9_ => some (v9_ % 2)).bind fun v10_ => (atI v8_ v10_))).bind fun (at__2 : Int) =>
  some at__2
  else
  some at_ : Option Int)).bind fun (s11_ : Int) =>
  ((((slS none (some s11_) text).bind fun v12_ => (catS v12_ (['~'] : Ts))).bind fun v13_ => (slS (some s11_) none text).bind fun v14_ => (catS v13_ v14_))).bind fun (bad : Ts) =>
  (((t_lw_mix cell_here (14 : Int)).bind fun v15_ => ((lenS bad).bind fun v16_ => some (v16_ + (1 : Int))).bind fun v17_ => (modT v15_ v17_))).bind fun (other : Int) =>
  ((((t_lw_mix cell_here (15 : Int)).bind fun v18_ => some (v18_ % 2)).bind fun v19_ => some (decide (v19_ = (0 : Int)))).bind fun v20_ => ((if v20_ = true then
  ((((slS none (some other) bad).bind fun v21_ => (catS v21_ (['~'] : Ts))).bind fun v22_ => (slS (some other) none bad).bind fun v23_ => (catS v22_ v23_))).bind fun (bad_2 : Ts) =>
  some bad_2
  else
  some bad : Option Ts)).bind fun (s24_ : Ts) =>
  some s24_))
def t_law_b1 (bad : Ts) (thing : An) (s1_ : OReader) (way : Int) : Option (St OReader Bool) :=
  ((((((sidxT bad (['~'] : Ts)).bind fun v2_ => (t_lw_refused way s1_ ((an eS) bad) v2_)).bind fun (r3_ : (Bool × OReader)) => some (r3_.1, r3_.2)).bind fun (k4_ : Bool × OReader) => some (!k4_.1, k4_.2)).bind fun (k5_ : Bool × OReader) => if k5_.1 = true then some (true, k5_.2) else (((t_lw_refused way k5_.2 thing (0 : Int)).bind fun (r6_ : (Bool × OReader)) => some (r6_.1, r6_.2)).bind fun (k7_ : Bool × OReader) => some (!k7_.1, k7_.2)))).bind fun (k8_ : Bool × OReader) => if k8_.1 = true then
  some (.rt false : (St OReader Bool))
  else
  some (.nx k8_.2 : (St OReader Bool))
def t_law (script : (List Int)) : Option Bool :=
  (((compT (fun (cell_here : Int) => (some true)) (fun (cell_here : Int) => (t_lw_token cell_here)) (cutL script (some (1 : Int)) (some (41 : Int)))).bind fun v1_ => (joinS ([] : Ts) v1_))).bind fun (text : Ts) =>
  ((t_lw_cell script (0 : Int))).bind fun (cell_here : Int) =>
  ((((t_lw_cell script (41 : Int)).bind fun v2_ => (t_lw_token v2_)).bind fun v3_ => ((t_lw_cell script (42 : Int)).bind fun v4_ => (t_lw_token v4_)).bind fun v5_ => (catS v3_ v5_))).bind fun (ahead : Ts) =>
  (t_Reader_init).bind fun (reader : OReader) =>
  ((t_Reader_feed reader ahead)).bind fun (u6_ : ((List Im) × OReader)) =>
  ((t_Reader_held_text u6_.2)).bind fun (held : Ts) =>
  ((t_lw_spoilt text cell_here)).bind fun (bad : Ts) =>
  (((((dispT ([] : (List (Ts × Int)))).bind fun v7_ => some ((an (eD false kS eI)) v7_)).bind fun v8_ => some ([((an eU) ()), ((an eI) (5 : Int)), ((an eB) true), ((an (eL false eS)) ([(['a'] : Ts)] : (List Ts))), ((an (e1 eS)) ((['a'] : Ts))), v8_, ((an (eL false eS)) ([bad] : (List Ts)))] : (List An))).bind fun v9_ => ((t_lw_mix cell_here (16 : Int)).bind fun v10_ => some (v10_ % 7)).bind fun v11_ => (atI v9_ v11_))).bind fun (thing : An) =>
  ((((t_checked text).bind fun v12_ => some false).bind fun v13_ => (if v13_ = true then some true else (((t_checked ([] : Ts)).bind fun v14_ => some false).bind fun v15_ => (if v15_ = true then some true else (((t_lw_mix cell_here (17 : Int)).bind fun v16_ => (t_lw_by_hand v16_)).bind fun v17_ => some (!v17_)))))).bind fun v18_ => if v18_ = true then
  some false
  else
  (forT (τ := Bool) (fun (s19_ : OReader) (way : Int) =>
  (t_law_b1 bad thing s19_ way)) ([(0 : Int), (1 : Int), (2 : Int), (2 : Int)] : (List Int)) u6_.2).bind fun u => seqT u fun (s19_ : OReader) => (((t_Reader_held_text s19_).bind fun v20_ => some (!decide (v20_ = held))).bind fun v21_ => if v21_ = true then
  some false
  else
  ((((t_Reader_feed s19_ text).bind fun r22_ => (catL u6_.1 r22_.1).bind fun z23_ => some (z23_, r22_)).bind fun (r24_ : ((List Im) × ((List Im) × OReader))) => (t_Reader_finish r24_.2.2).bind fun (r25_ : ((List Im) × OReader)) => (catL r24_.1 r25_.1).bind fun z26_ => some (z26_, r24_, r25_))).bind fun (u27_ : ((List Im) × ((List Im) × ((List Im) × OReader)) × ((List Im) × OReader))) =>
  (((catS ahead text).bind fun v28_ => (t_lw_items v28_)).bind fun v29_ => (t_lw_same_c u27_.1 v29_))))
end LW

namespace LW
open PySem L2 PyProof.Rows LI
def kv_ENDS : List (List Nat × List Nat) := [([10], [101, 110, 100]), ([9], [97, 110, 101, 119])]
def m_is_sign : SM := (seqM (retM (upF (andM (isiM "str" (vM 0)) (andM (m2 eqD (mA lenD (consM (vM 0) nilM)) (kM (.int 1))) (chM leD leD (kM (.str [32])) (vM 0) (kM (.str [125]))))))) skipM)
def F_is_sign : FM := runM 1 [true] m_is_sign
def m_is_colour : SM := (seqM (retM (upF (andM (isiM "str" (vM 0)) (andM (m2 eqD (mA lenD (consM (vM 0) nilM)) (kM (.int 1))) (m2 inD (vM 0) (kM (.str [97, 98, 99, 100, 101, 102, 103, 104, 46]))))))) skipM)
def F_is_colour : FM := runM 1 [true] m_is_colour
def m_checked__X1 : SM := (seqM (ifM (notB (truM (isiM "str" (vM 0)))) (seqM (raise1 1 "at" (kM (.int 0))) skipM) skipM)
  (seqM (forM (tupT (consT (nameT 1) (consT (nameT 2) nilT))) (seqM (ifM (andB (notB (truM (callM F_is_sign (consM (vM 2) nilM)))) (bM (m2 ninD (vM 2) (kM (.str [10, 9]))))) (seqM (raise1 1 "at" (vM 1)) skipM) skipM)
  skipM) [1, 2] (enumSM (vM 0)))
  skipM))
def F_checked__X1 : FX := runX 3 [true] m_checked__X1
def m_checked : SM := (seqM (ifM (notB (truM (isiM "str" (vM 0)))) (seqM noM' skipM) skipM)
  (seqM (forM (tupT (consT (nameT 1) (consT (nameT 2) nilT))) (seqM (ifM (andB (notB (truM (callM F_is_sign (consM (vM 2) nilM)))) (bM (m2 ninD (vM 2) (kM (.str [10, 9]))))) (seqM noM' skipM) skipM)
  skipM) [1, 2] (enumSM (vM 0)))
  skipM))
def F_checked : FM := runM 3 [true] m_checked
def m_sign_item : SM := (seqM (ifM (bM (m1 (inK kv_ENDS) (vM 1))) (seqM (retM (upF (tupM (consM (vM 0) (consM (m1 (ixK kv_ENDS) (vM 1)) (consM (kM (.str [])) nilM)))))) skipM) skipM)
  (seqM (retM (upF (tupM (consM (vM 0) (consM (kM (.str [115, 105, 103, 110])) (consM (vM 1) nilM)))))) skipM))
def F_sign_item : FM := runM 2 [true, true] m_sign_item
def m_begins_mark : SM := (seqM (ifM (bM (m2 inD (vM 0) (tupM (consM (kM (.str [91])) (consM (kM (.str [91, 47])) nilM))))) (seqM (retM (upF (kM (.bl true)))) skipM) skipM)
  (seqM (ifM (andB (bM (m2 eqD (mA lenD (consM (vM 0) nilM)) (kM (.int 2)))) (bM (m2 eqD (m2 ixD (vM 0) (kM (.int 0))) (kM (.str [91]))))) (seqM (retM (upF (callM F_is_colour (consM (m2 ixD (vM 0) (kM (.int 1))) nilM)))) skipM) skipM)
  (seqM (retM (upF (andM (m2 eqD (mA lenD (consM (vM 0) nilM)) (kM (.int 3))) (andM (m2 eqD (slM (vM 0) noM (soM (kM (.int 2)))) (kM (.str [91, 47]))) (callM F_is_colour (consM (m2 ixD (vM 0) (kM (.int 2))) nilM)))))) skipM)))
def F_begins_mark : FM := runM 1 [true] m_begins_mark
def m_mark_item : SM := (seqM (ifM (bM (m2 eqD (vM 1) (kM (.str [91, 91])))) (seqM (retM (upF (tupM (consM (vM 0) (consM (kM (.str [115, 105, 103, 110])) (consM (kM (.str [91])) nilM)))))) skipM) skipM)
  (seqM (ifM (bM (m2 eqD (vM 1) (kM (.str [91, 93])))) (seqM (retM (upF (tupM (consM (vM 0) (consM (kM (.str [112, 108, 97, 105, 110])) (consM (kM (.str [])) nilM)))))) skipM) skipM)
  (seqM (ifM (andB (bM (m2 eqD (mA lenD (consM (vM 1) nilM)) (kM (.int 3)))) (andB (bM (m2 eqD (m2 ixD (vM 1) (kM (.int 0))) (kM (.str [91])))) (andB (truM (callM F_is_colour (consM (m2 ixD (vM 1) (kM (.int 1))) nilM))) (bM (m2 eqD (m2 ixD (vM 1) (kM (.int 2))) (kM (.str [93]))))))) (seqM (retM (upF (tupM (consM (vM 0) (consM (kM (.str [105, 110, 107])) (consM (m2 ixD (vM 1) (kM (.int 1))) nilM)))))) skipM) skipM)
  (seqM (ifM (andB (bM (m2 eqD (mA lenD (consM (vM 1) nilM)) (kM (.int 4)))) (andB (bM (m2 eqD (slM (vM 1) noM (soM (kM (.int 2)))) (kM (.str [91, 47])))) (andB (truM (callM F_is_colour (consM (m2 ixD (vM 1) (kM (.int 2))) nilM))) (bM (m2 eqD (m2 ixD (vM 1) (kM (.int 3))) (kM (.str [93]))))))) (seqM (retM (upF (tupM (consM (vM 0) (consM (kM (.str [103, 114, 111, 117, 110, 100])) (consM (m2 ixD (vM 1) (kM (.int 2))) nilM)))))) skipM) skipM)
  (seqM (retM (upF (kM .non))) skipM)))))
def F_mark_item : FM := runM 2 [true, true] m_mark_item
def m_Reader_init : SM := (seqM (fldM 11 "kept" (vL 0) (upF (kM (.str []))))
  (seqM (fldM 11 "place" (vL 0) (upF (kM (.int 0))))
  skipM))
def F_Reader_init : FM := runM 1 [true] m_Reader_init
def m_Reader_held_text : SM := (seqM (retM (upR (fldL 11 "kept" (vL 0)).get)) skipM)
def F_Reader_held_text : FM := runM 1 [true] m_Reader_held_text
def m_Reader_told : SM := (seqM (asgM (nameT 2) (upF (lstM nilM)))
  (seqM (forM (nameT 3) (seqM (exprM (appL (vL 2) (callM F_sign_item (consM (fldL 11 "place" (vL 0)).get (consM (vM 3) nilM)))))
  (seqM (fldM 11 "place" (vL 0) (upF (m2 addD (fldL 11 "place" (vL 0)).get (kM (.int 1)))))
  skipM)) [3] (itM (slM (fldL 11 "kept" (vL 0)).get noM (soM (vM 1)))))
  (seqM (fldM 11 "kept" (vL 0) (upF (slM (fldL 11 "kept" (vL 0)).get (soM (vM 1)) noM)))
  (seqM (retM (mvM (vL 2))) skipM))))
def F_Reader_told : FM := runM 4 [true, true] m_Reader_told
def m_Reader_take : SM := (seqM (asgM (nameT 2) (upF (callM F_mark_item (consM (fldL 11 "place" (vL 0)).get (consM (m2 addD (fldL 11 "kept" (vL 0)).get (vM 1)) nilM)))))
  (seqM (ifM (bM (m2 nisD (vM 2) (kM .non))) (seqM (fldM 11 "place" (vL 0) (upF (m2 addD (m2 addD (fldL 11 "place" (vL 0)).get (mA lenD (consM (fldL 11 "kept" (vL 0)).get nilM))) (kM (.int 1)))))
  (seqM (fldM 11 "kept" (vL 0) (upF (kM (.str []))))
  (seqM (retM (upF (lstM (consM (vM 2) nilM)))) skipM))) skipM)
  (seqM (ifM (truM (callM F_begins_mark (consM (m2 addD (fldL 11 "kept" (vL 0)).get (vM 1)) nilM))) (seqM (fldM 11 "kept" (vL 0) (upF (m2 addD (fldL 11 "kept" (vL 0)).get (vM 1))))
  (seqM (retM (upF (lstM nilM))) skipM)) skipM)
  (seqM (asgM (nameT 3) (methM 11 "told" (vL 0) F_Reader_told (consM (mA lenD (consM (fldL 11 "kept" (vL 0)).get nilM)) nilM)))
  (seqM (fldM 11 "kept" (vL 0) (upR (vM 1)))
  (seqM (ifM (bM (m2 neD (vM 1) (kM (.str [91])))) (seqM (exprM (extS 3 (methM 11 "told" (vL 0) F_Reader_told (consM (kM (.int 1)) nilM))))
  skipM) skipM)
  (killM [] (seqM (retM (mvM (vL 3))) skipM))))))))
def F_Reader_take : FM := runM 4 [true, true] m_Reader_take
def m_Reader_feed__X1 : SM := (seqM (exprX (callX F_checked__X1 (consM (vM 1) nilM)))
  (seqM (asgM (nameT 2) (upF (lstM nilM)))
  (seqM (forM (nameT 3) (seqM (exprM (extS 2 (methM 11 "take" (vL 0) F_Reader_take (consM (vM 3) nilM))))
  skipM) [3] (itM (vM 1)))
  (seqM (retM (mvM (vL 2))) skipM))))
def F_Reader_feed__X1 : FX := runX 4 [true, true] m_Reader_feed__X1
def m_Reader_feed : SM := (seqM (exprM (upF (callM F_checked (consM (vM 1) nilM))))
  (seqM (asgM (nameT 2) (upF (lstM nilM)))
  (seqM (forM (nameT 3) (seqM (exprM (extS 2 (methM 11 "take" (vL 0) F_Reader_take (consM (vM 3) nilM))))
  skipM) [3] (itM (vM 1)))
  (seqM (retM (mvM (vL 2))) skipM))))
def F_Reader_feed : FM := runM 4 [true, true] m_Reader_feed
def m_Reader_finish : SM := (seqM (retM (methM 11 "told" (vL 0) F_Reader_told (consM (mA lenD (consM (fldL 11 "kept" (vL 0)).get nilM)) nilM))) skipM)
def F_Reader_finish : FM := runM 1 [true] m_Reader_finish
def m_items_of__X1 : SM := (seqM (asgM (nameT 1) (upF (mkM 11 F_Reader_init nilM)))
  (seqM (setX 2 (methX 11 "feed" (vL 1) F_Reader_feed__X1 (consM (vM 0) nilM)))
  (frzM 2 (seqM (retM (coldG (binVG addD 2 (methM 11 "finish" (vL 1) F_Reader_finish nilM)))) skipM))))
def F_items_of__X1 : FX := runX 3 [true] m_items_of__X1
def m_lw_cell : SM := (seqM (ifM (bM (m2 ltD (vM 1) (mA lenD (consM (vM 0) nilM)))) (seqM (retM (upR (m2 ixD (vM 0) (vM 1)))) skipM) skipM)
  (seqM (retM (upF (kM (.int 0)))) skipM))
def F_lw_cell : FM := runM 2 [true, true] m_lw_cell
def m_lw_mix : SM := (seqM (ifM (bM (m2 gtD (vM 0) (m2 powD (kM (.int 10)) (kM (.int 18))))) (seqM (asgM (nameT 2) (upR (vM 0)))
  (seqM (forM (nameT 3) (seqM (asgM (nameT 2) (upF (m2 fdivD (vM 2) (m2 powD (kM (.int 10)) (kM (.int 9))))))
  skipM) [3] (rng1M (vM 1)))
  (seqM (retM (upF (m2 modD (vM 2) (m2 powD (kM (.int 10)) (kM (.int 9)))))) skipM))) skipM)
  (seqM (asgM (nameT 4) (upF (m2 addD (m2 modD (vM 0) (kM (.int 2147483647))) (kM (.int 7919)))))
  (seqM (forM (nameT 3) (seqM (asgM (nameT 4) (upF (m2 modD (m2 addD (m2 mulD (vM 4) (kM (.int 48271))) (kM (.int 104729))) (kM (.int 2147483629)))))
  skipM) [3] (rng1M (m2 addD (vM 1) (kM (.int 2)))))
  (seqM (retM (upF (m2 fdivD (m2 modD (m2 mulD (vM 4) (vM 4)) (kM (.int 998244353))) (kM (.int 11))))) skipM))))
def F_lw_mix : FM := runM 5 [true, true] m_lw_mix
def m_lw_signs : SM := (seqM (asgM (nameT 0) (upF (kM (.str [32, 33, 34, 35, 36, 38, 39, 40, 41, 42, 43, 44, 45, 46, 47, 48, 49, 50, 51, 52, 53, 54, 55, 56, 57, 58, 59, 60, 61, 62, 63, 64, 65, 66, 67, 68, 69, 70, 71, 72, 73, 74, 75, 76, 77, 78, 79, 80, 81, 82, 83, 84, 85, 86, 87, 88, 89, 90]))))
  (seqM (retM (upF (m2 addD (vM 0) (kM (.str [91, 92, 93, 94, 95, 96, 97, 98, 99, 100, 101, 102, 103, 104, 105, 106, 107, 108, 109, 110, 111, 112, 113, 114, 115, 116, 117, 118, 119, 120, 121, 122, 123, 124, 125]))))) skipM))
def F_lw_signs : FM := runM 1 [] m_lw_signs
def m_lw_token : SM := (seqM (asgM (nameT 1) (upR (m2 ixD (kM (.str [97, 98, 99, 100, 101, 102, 103, 104, 46])) (m2 modD (callM F_lw_mix (consM (vM 0) (consM (kM (.int 2)) nilM))) (kM (.int 9))))))
  (seqM (asgM (nameT 2) (upF (m2 modD (callM F_lw_mix (consM (vM 0) (consM (kM (.int 0)) nilM))) (kM (.int 12)))))
  (seqM (asgM (nameT 3) (upF (callM F_lw_mix (consM (vM 0) (consM (kM (.int 1)) nilM)))))
  (seqM (asgM (nameT 4) (upF (lstM (consM (kM (.str [91])) (consM (kM (.str [91, 47])) (consM (m2 addD (kM (.str [91])) (vM 1)) (consM (m2 addD (kM (.str [91, 47])) (vM 1)) (consM (kM (.str [91, 105, 93])) (consM (kM (.str [91, 47, 93])) (consM (m2 addD (m2 addD (m2 addD (kM (.str [91])) (vM 1)) (vM 1)) (kM (.str [93]))) (consM (kM (.str [91, 65, 93])) (consM (kM (.str [91, 47, 105, 93])) (consM (kM (.str [91, 91, 91])) nilM)))))))))))))
  (seqM (asgM (nameT 4) (upF (m2 addD (vM 4) (lstM (consM (kM (.str [91, 47, 91])) (consM (m2 addD (m2 addD (kM (.str [91])) (vM 1)) (kM (.str [91]))) (consM (m2 addD (m2 addD (kM (.str [91, 47])) (vM 1)) (kM (.str [47, 93]))) (consM (m2 addD (m2 addD (kM (.str [91, 47, 47])) (vM 1)) (kM (.str [93]))) (consM (m2 addD (m2 addD (kM (.str [91])) (vM 1)) (kM (.str [10]))) (consM (kM (.str [93])) (consM (kM (.str [47])) nilM)))))))))))
  (seqM (exprM (appL (vL 4) (m2 addD (m2 addD (kM (.str [91, 47])) (vM 1)) (kM (.str [9, 93])))))
  (seqM (ifM (bM (m2 ltD (vM 2) (kM (.int 3)))) (seqM (retM (upR (m2 ixD (callM F_lw_signs nilM) (m2 modD (vM 3) (kM (.int 93)))))) skipM) skipM)
  (seqM (ifM (bM (m2 eqD (vM 2) (kM (.int 3)))) (seqM (retM (upR (m2 ixD (kM (.str [32, 65, 66, 90])) (m2 modD (vM 3) (kM (.int 4)))))) skipM) skipM)
  (seqM (ifM (bM (m2 eqD (vM 2) (kM (.int 4)))) (seqM (retM (upF (m2 addD (m2 addD (kM (.str [91])) (vM 1)) (kM (.str [93]))))) skipM) skipM)
  (seqM (ifM (bM (m2 eqD (vM 2) (kM (.int 5)))) (seqM (retM (upF (m2 addD (m2 addD (kM (.str [91, 47])) (vM 1)) (kM (.str [93]))))) skipM) skipM)
  (seqM (ifM (bM (m2 eqD (vM 2) (kM (.int 6)))) (seqM (retM (upR (m2 ixD (lstM (consM (kM (.str [91, 93])) (consM (kM (.str [91, 91])) (consM (kM (.str [91, 93, 93])) (consM (kM (.str [91, 91, 93])) nilM))))) (m2 modD (vM 3) (kM (.int 4)))))) skipM) skipM)
  (seqM (ifM (bM (m2 eqD (vM 2) (kM (.int 9)))) (seqM (retM (upR (m2 ixD (lstM (consM (kM (.str [10])) (consM (kM (.str [9])) (consM (kM (.str [10])) nilM)))) (m2 modD (vM 3) (kM (.int 3)))))) skipM) skipM)
  (seqM (ifM (bM (m2 eqD (vM 2) (kM (.int 10)))) (seqM (retM (upR (vM 1))) skipM) skipM)
  (seqM (ifM (bM (m2 eqD (vM 2) (kM (.int 11)))) (seqM (retM (upF (slM (kM (.str [111, 117, 116, 119, 101, 97, 118, 101, 115])) noM (soM (m2 addD (kM (.int 2)) (m2 modD (vM 3) (kM (.int 8)))))))) skipM) skipM)
  (seqM (retM (upR (m2 ixD (vM 4) (m2 modD (vM 3) (kM (.int 18)))))) skipM)))))))))))))))
def F_lw_token : FM := runM 5 [true] m_lw_token
def m_lw_item : SM := (seqM (asgM (nameT 2) (upF (kM (.str [97, 98, 99, 100, 101, 102, 103, 104, 46]))))
  (seqM (asgM (nameT 3) (upF (slM (vM 0) (soM (vM 1)) (soM (m2 addD (vM 1) (kM (.int 4)))))))
  (seqM (ifM (bM (m2 eqD (m2 ixD (vM 3) (kM (.int 0))) (kM (.str [10])))) (seqM (retM (upF (tupM (consM (tupM (consM (vM 1) (consM (kM (.str [101, 110, 100])) (consM (kM (.str [])) nilM)))) (consM (kM (.int 1)) nilM))))) skipM) skipM)
  (seqM (ifM (bM (m2 eqD (m2 ixD (vM 3) (kM (.int 0))) (kM (.str [9])))) (seqM (retM (upF (tupM (consM (tupM (consM (vM 1) (consM (kM (.str [97, 110, 101, 119])) (consM (kM (.str [])) nilM)))) (consM (kM (.int 1)) nilM))))) skipM) skipM)
  (seqM (ifM (bM (m2 eqD (slM (vM 3) noM (soM (kM (.int 2)))) (kM (.str [91, 93])))) (seqM (retM (upF (tupM (consM (tupM (consM (vM 1) (consM (kM (.str [112, 108, 97, 105, 110])) (consM (kM (.str [])) nilM)))) (consM (kM (.int 2)) nilM))))) skipM) skipM)
  (seqM (ifM (bM (m2 eqD (slM (vM 3) noM (soM (kM (.int 2)))) (kM (.str [91, 91])))) (seqM (retM (upF (tupM (consM (tupM (consM (vM 1) (consM (kM (.str [115, 105, 103, 110])) (consM (kM (.str [91])) nilM)))) (consM (kM (.int 2)) nilM))))) skipM) skipM)
  (seqM (ifM (andB (bM (m2 gtD (mA lenD (consM (vM 3) nilM)) (kM (.int 2)))) (andB (bM (m2 eqD (m2 ixD (vM 3) (kM (.int 0))) (kM (.str [91])))) (andB (bM (m2 inD (m2 ixD (vM 3) (kM (.int 1))) (vM 2))) (bM (m2 eqD (m2 ixD (vM 3) (kM (.int 2))) (kM (.str [93]))))))) (seqM (retM (upF (tupM (consM (tupM (consM (vM 1) (consM (kM (.str [105, 110, 107])) (consM (m2 ixD (vM 3) (kM (.int 1))) nilM)))) (consM (kM (.int 3)) nilM))))) skipM) skipM)
  (seqM (ifM (andB (bM (m2 eqD (mA lenD (consM (vM 3) nilM)) (kM (.int 4)))) (andB (bM (m2 eqD (slM (vM 3) noM (soM (kM (.int 2)))) (kM (.str [91, 47])))) (andB (bM (m2 inD (m2 ixD (vM 3) (kM (.int 2))) (vM 2))) (bM (m2 eqD (m2 ixD (vM 3) (kM (.int 3))) (kM (.str [93]))))))) (seqM (retM (upF (tupM (consM (tupM (consM (vM 1) (consM (kM (.str [103, 114, 111, 117, 110, 100])) (consM (m2 ixD (vM 3) (kM (.int 2))) nilM)))) (consM (kM (.int 4)) nilM))))) skipM) skipM)
  (seqM (retM (upF (tupM (consM (tupM (consM (vM 1) (consM (kM (.str [115, 105, 103, 110])) (consM (m2 ixD (vM 3) (kM (.int 0))) nilM)))) (consM (kM (.int 1)) nilM))))) skipM)))))))))
def F_lw_item : FM := runM 4 [true, true] m_lw_item
def m_lw_items : SM := (seqM (asgM (nameT 1) (upF (lstM nilM)))
  (seqM (asgM (nameT 2) (upF (kM (.int 0))))
  (seqM (whileM 5000 (bM (m2 ltD (vM 2) (mA lenD (consM (vM 0) nilM)))) (seqM (asgM (tupT (consT (nameT 3) (consT (nameT 4) nilT))) (upF (callM F_lw_item (consM (vM 0) (consM (vM 2) nilM)))))
  (seqM (exprM (appL (vL 1) (frM (vM 3))))
  (seqM (asgM (nameT 2) (upF (m2 addD (vM 2) (vM 4))))
  skipM))) [3, 4])
  (seqM (retM (mvM (vL 1))) skipM))))
def F_lw_items : FM := runM 5 [true] m_lw_items
def m_lw_whole : SM := (seqM (retM (upF (andM (isiM "int" (vM 0)) (notD (isiM "bool" (vM 0)))))) skipM)
def F_lw_whole : FM := runM 1 [true] m_lw_whole
def m_lw_same : SM := (seqM (ifM (orB (notB (truM (isiM "list" (vM 0)))) (bM (m2 neD (mA lenD (consM (vM 0) nilM)) (mA lenD (consM (vM 1) nilM))))) (seqM (retM (upF (kM (.bl false)))) skipM) skipM)
  (seqM (forM (nameT 2) (seqM (ifM (orB (notB (truM (isiM "tuple" (vM 2)))) (orB (bM (m2 neD (mA lenD (consM (vM 2) nilM)) (kM (.int 3)))) (notB (truM (callM F_lw_whole (consM (m2 ixD (vM 2) (kM (.int 0))) nilM)))))) (seqM (retM (upF (kM (.bl false)))) skipM) skipM)
  (seqM (ifM (orB (notB (truM (isiM "str" (m2 ixD (vM 2) (kM (.int 1)))))) (notB (truM (isiM "str" (m2 ixD (vM 2) (kM (.int 2))))))) (seqM (retM (upF (kM (.bl false)))) skipM) skipM)
  skipM)) [2] (itM (vM 0)))
  (seqM (retM (upF (m2 eqD (vM 0) (vM 1)))) skipM)))
def F_lw_same : FM := runM 3 [true, true] m_lw_same
def m_lw_did : SM := (seqM (ifM (bM (m2 eqD (vM 0) (kM (.int 0)))) (seqM (retX (callX F_checked__X1 (consM (vM 2) nilM))) skipM) skipM)
  (seqM (ifM (bM (m2 eqD (vM 0) (kM (.int 1)))) (seqM (retX (callX F_items_of__X1 (consM (vM 2) nilM))) skipM) skipM)
  (seqM (retX (coldX (methX 11 "feed" (vL 1) F_Reader_feed__X1 (consM (vM 2) nilM)))) skipM)))
def F_lw_did : FX := runX 3 [true, true, true] m_lw_did
def m_lw_refused : SM := (seqM (tryM 4 (okL xL_OutError) (seqM (exprX (lendsX F_lw_did [.inl (vM 0), .inr 1, .inl (vM 2)]))
  skipM) (fun n fs es => (seqM (ifM (truM (kM (.bl (([5, 9, 3, 2, 8, 7, 10, 6, 4] : List Nat).any (subX n))))) (seqM (retM (upF (kM (.bl false)))) skipM) skipM)
  (seqM (retM (upF (andM (kM (.bl (subX n 1))) (andM (kM (.bl true)) (andM (callM F_lw_whole (consM (xfldM "at" fs es) nilM)) (m2 eqD (xfldM "at" fs es) (vM 3))))))) skipM))))
  (killM [4] (seqM (retM (upF (kM (.bl false)))) skipM)))
def F_lw_refused : FM := runM 5 [true, true, true, true] m_lw_refused
def m_lw_by_hand : SM := (seqM (asgM (nameT 1) (upF (coldM (lstM (consM (vM 0) (consM (m2 addD (vM 0) (kM (.int 1))) (consM (m2 addD (vM 0) (kM (.int 2))) nilM)))))))
  (seqM (asgM (nameT 2) (upF (coldM (lstM (consM (kM (.str [97])) (consM (kM (.str [98])) (consM (kM (.str [99])) nilM)))))))
  (seqM (errsM 3 4)
  (seqM (retM (upF (andM (m2 eqD (vM 1) (lstM (consM (vM 0) (consM (m2 addD (vM 0) (kM (.int 1))) (consM (m2 addD (vM 0) (kM (.int 2))) nilM))))) (m2 eqD (vM 2) (lstM (consM (kM (.str [97])) (consM (kM (.str [98])) (consM (kM (.str [99])) nilM)))))))) skipM))))
def F_lw_by_hand : FM := runM 5 [true] m_lw_by_hand
def m_lw_spoilt : SM := (seqM (asgM (nameT 2) (upF (m2 modD (callM F_lw_mix (consM (vM 1) (consM (kM (.int 11)) nilM))) (m2 addD (mA lenD (consM (vM 0) nilM)) (kM (.int 1))))))
  (seqM (ifM (bM (m2 eqD (m2 modD (callM F_lw_mix (consM (vM 1) (consM (kM (.int 12)) nilM))) (kM (.int 5))) (kM (.int 0)))) (seqM (asgM (nameT 2) (upR (m2 ixD (lstM (consM (kM (.int 0)) (consM (mA lenD (consM (vM 0) nilM)) nilM))) (m2 modD (callM F_lw_mix (consM (vM 1) (consM (kM (.int 13)) nilM))) (kM (.int 2))))))
  skipM) skipM)
  (killM [] (seqM (asgM (nameT 3) (upF (m2 addD (m2 addD (slM (vM 0) noM (soM (vM 2))) (kM (.str [126]))) (slM (vM 0) (soM (vM 2)) noM))))
  (seqM (asgM (nameT 4) (upF (m2 modD (callM F_lw_mix (consM (vM 1) (consM (kM (.int 14)) nilM))) (m2 addD (mA lenD (consM (vM 3) nilM)) (kM (.int 1))))))
  (seqM (ifM (bM (m2 eqD (m2 modD (callM F_lw_mix (consM (vM 1) (consM (kM (.int 15)) nilM))) (kM (.int 2))) (kM (.int 0)))) (seqM (asgM (nameT 3) (upF (m2 addD (m2 addD (slM (vM 3) noM (soM (vM 4))) (kM (.str [126]))) (slM (vM 3) (soM (vM 4)) noM))))
  skipM) skipM)
  (killM [] (seqM (retM (upR (vM 3))) skipM))))))))
def F_lw_spoilt : FM := runM 5 [true, true] m_lw_spoilt
def m_law_b1 : SM := (seqM (ifGM (orG (notG (truG (lendM F_lw_refused (consM (vM 9) nilM) (vL 4) (consM (vM 7) (consM (m2 sidxD (vM 7) (kM (.str [126]))) nilM))))) (notG (truG (lendM F_lw_refused (consM (vM 9) nilM) (vL 4) (consM (vM 8) (consM (kM (.int 0)) nilM)))))) (seqM (retM (upF (kM (.bl false)))) skipM) skipM)
  skipM)
def m_law : SM := (seqM (asgM (nameT 1) (upF (m2 joinD2 (kM (.str [])) (compM [2] (nameT 2) yesB (callM F_lw_token (consM (vM 2) nilM)) (itV (coldM (slM (vM 0) (soM (kM (.int 1))) (soM (kM (.int 41))))))))))
  (seqM (asgM (nameT 2) (upF (callM F_lw_cell (consM (vM 0) (consM (kM (.int 0)) nilM)))))
  (seqM (asgM (nameT 3) (upF (m2 addD (callM F_lw_token (consM (callM F_lw_cell (consM (vM 0) (consM (kM (.int 41)) nilM))) nilM)) (callM F_lw_token (consM (callM F_lw_cell (consM (vM 0) (consM (kM (.int 42)) nilM))) nilM)))))
  (seqM (asgM (nameT 4) (upF (mkM 11 F_Reader_init nilM)))
  (seqM (iceM 5 (asgM (nameT 5) (methM 11 "feed" (vL 4) F_Reader_feed (consM (vM 3) nilM))))
  (seqM (asgM (nameT 6) (upF (lookM 11 "held_text" (vL 4).get F_Reader_held_text nilM)))
  (seqM (asgM (nameT 7) (upF (callM F_lw_spoilt (consM (vM 1) (consM (vM 2) nilM)))))
  (seqM (asgM (nameT 8) (upR (m2 ixD (lstM (consM (kM .non) (consM (kM (.int 5)) (consM (kM (.bl true)) (consM (coldM (lstM (consM (kM (.str [97])) nilM))) (consM (tupM (consM (kM (.str [97])) nilM)) (consM (coldM (dispM nilM nilM)) (consM (coldM (lstM (consM (vM 7) nilM))) nilM)))))))) (m2 modD (callM F_lw_mix (consM (vM 2) (consM (kM (.int 16)) nilM))) (kM (.int 7))))))
  (seqM (ifM (orB (bM (m2 nisD (callM F_checked (consM (vM 1) nilM)) (kM .non))) (orB (bM (m2 nisD (callM F_checked (consM (kM (.str [])) nilM)) (kM .non))) (notB (truM (callM F_lw_by_hand (consM (callM F_lw_mix (consM (vM 2) (consM (kM (.int 17)) nilM))) nilM)))))) (seqM (retM (upF (kM (.bl false)))) skipM) skipM)
  (seqM (forM (nameT 9) m_law_b1 [9] (itM (coldM (lstM (consM (kM (.int 0)) (consM (kM (.int 1)) (consM (kM (.int 2)) (consM (kM (.int 2)) nilM))))))))
  (seqM (ifM (bM (m2 neD (lookM 11 "held_text" (vL 4).get F_Reader_held_text nilM) (vM 6))) (seqM (retM (upF (kM (.bl false)))) skipM) skipM)
  (seqM (iceM 5 (asgM (nameT 5) (bin2G addD (binVG addD 5 (methM 11 "feed" (vL 4) F_Reader_feed (consM (vM 1) nilM))) (methM 11 "finish" (vL 4) F_Reader_finish nilM))))
  (seqM (retM (upF (callM F_lw_same (consM (vM 5) (consM (coldM (callM F_lw_items (consM (m2 addD (vM 3) (vM 1)) nilM))) nilM))))) skipM)))))))))))))
def F_law : FM := runM 10 [true] m_law
end LW

namespace LW
open PySem L2 LI OW
abbrev eIm := e3 eI eS eS
def e_Reader (o : Bool) (x : OReader) : D := .obj o 11 ["kept", "place"] [eS x.kept, eI x.place]
instance {o : Bool} : Ic (e_Reader o) (e_Reader false) := ⟨fun x => by simp [e_Reader, eL, Ic.ic, icL]⟩
theorem L_is_sign  (thing : Ts) {r : Bool} (h : t_is_sign thing = some r) : F_is_sign [eS thing] = some (eB r, (fun _ => [eS thing]) r) := by
  have hb : Bk (Qf eB [true] (fun _ => [eS thing])) m_is_sign [eS thing] _ := (b_retI (eg_f (x_and (x_isK kit_str_str (x_v eS thing rfl)) (x_and (x_m2 (o2_eq (e' := eI) (by decide)) (x_a1 o1_lenS (x_v eS thing rfl)) (x_k eI (1) rfl)) (x_chT o2_leS o2_leS (x_k eS [' '] rfl) (x_v eS thing rfl) (x_k eS ['}'] rfl))))) (fun u3_ => ⟨.inl rfl, rfl⟩))
  refine run_T (n := 1) (kp := [true]) (m := m_is_sign) (ds := [eS thing]) rfl hb ?_
  first
    | (simp -implicitDefEqProofs only [t_is_sign, Option.bind_assoc, Option.bind_some, bind_same] at h ⊢; exact h)
    | (simp -implicitDefEqProofs only [t_is_sign, Option.bind_assoc, Option.bind_some, bind_same] at h; exact h)
    | exact h
    | (simp [t_is_sign] at h ⊢; exact h)
theorem T_is_sign : Tf (τ := Ts × Unit) (fun t => [eS t.1]) eB F_is_sign (fun t => t_is_sign t.1) := fun t r h => ⟨_, L_is_sign t.1 h⟩
theorem L_is_colour  (thing : Ts) {r : Bool} (h : t_is_colour thing = some r) : F_is_colour [eS thing] = some (eB r, (fun _ => [eS thing]) r) := by
  have hb : Bk (Qf eB [true] (fun _ => [eS thing])) m_is_colour [eS thing] _ := (b_retI (eg_f (x_and (x_isK kit_str_str (x_v eS thing rfl)) (x_and (x_m2 (o2_eq (e' := eI) (by decide)) (x_a1 o1_lenS (x_v eS thing rfl)) (x_k eI (1) rfl)) (x_m2 o2_in (x_v eS thing rfl) (x_k eS ['a', 'b', 'c', 'd', 'e', 'f', 'g', 'h', '.'] rfl))))) (fun u3_ => ⟨.inl rfl, rfl⟩))
  refine run_T (n := 1) (kp := [true]) (m := m_is_colour) (ds := [eS thing]) rfl hb ?_
  first
    | (simp -implicitDefEqProofs only [t_is_colour, Option.bind_assoc, Option.bind_some, bind_same] at h ⊢; exact h)
    | (simp -implicitDefEqProofs only [t_is_colour, Option.bind_assoc, Option.bind_some, bind_same] at h; exact h)
    | exact h
    | (simp [t_is_colour] at h ⊢; exact h)
theorem T_is_colour : Tf (τ := Ts × Unit) (fun t => [eS t.1]) eB F_is_colour (fun t => t_is_colour t.1) := fun t r h => ⟨_, L_is_colour t.1 h⟩
theorem L_checked__X1  (text : An) {r : (Exn ⊕ Unit)} (h : t_checked__X1 text = some r) : ∃ ds', F_checked__X1 [eA text] = some (exR eU ds' r) := by
  have hb : Bk (QfX eU [true] (fun _ => [eA text])) m_checked__X1 [eA text, .gone, .gone] _ := (b_ifT (et_not (et_tru (x_isiA (x_v eA text rfl)))) (b_raise1 (k := fun x2_ => (.inl (1, [("at", an eI x2_)]) : (Exn ⊕ Unit))) (x_k eI (0) rfl) (fun x2_ => ⟨rfl, rfl⟩)) (b_forR (fun (s4_ : Unit) => [eA text, .gone, .gone]) () (fun (s4_ : Unit) (x5_ : (Int × Ts)) => [eA text, eI x5_.1, eS x5_.2]) (ei_enumS (x_dec (e := eS) (x_v eA text rfl))) rfl (fun _ _ => rfl) (fun (s4_ : Unit) (x5_ : (Int × Ts)) => (b_ifT (et_and (et_not (et_tru (x_call T_is_sign (ea_cons (x_v eS x5_.2 rfl) ea_nil)))) (et_b (x_m2 o2_nin (x_v eS x5_.2 rfl) (x_k eS ['\n', '\t'] rfl)))) (b_raise1 (k := fun x8_ => (.rt (.inl (1, [("at", an eI x8_)]) : (Exn ⊕ Unit)) : (St Unit (Exn ⊕ Unit)))) (x_v eI x5_.1 rfl) (fun x8_ => ⟨rfl, ⟨rfl, rfl⟩⟩)) (b_nil (t := (.nx () : (St Unit (Exn ⊕ Unit)))) ⟨rfl, rfl⟩))) (fun (s4_ : Unit) => (b_nil (t := (.inr () : (Exn ⊕ Unit))) ⟨.inr ⟨rfl, rfl⟩, rfl⟩))))
  refine run_TX (n := 3) (kp := [true]) (m := m_checked__X1) (ds := [eA text]) rfl hb ?_
  first
    | (simp -implicitDefEqProofs only [t_checked__X1, Option.bind_assoc, Option.bind_some, bind_same] at h ⊢; exact h)
    | (simp -implicitDefEqProofs only [t_checked__X1, Option.bind_assoc, Option.bind_some, bind_same] at h; exact h)
    | exact h
    | (simp [t_checked__X1] at h ⊢; exact h)
theorem T_checked__X1 : Tfx (τ := An × Unit) (fun t => [eA t.1]) eU F_checked__X1 (fun t => t_checked__X1 t.1) := fun t r h => L_checked__X1 t.1 h
theorem L_checked  (text : Ts) {r : Unit} (h : t_checked text = some r) : F_checked [eS text] = some (eU r, (fun _ => [eS text]) r) := by
  have hb : Bk (Qf eU [true] (fun _ => [eS text])) m_checked [eS text, .gone, .gone] _ := (b_ifT (et_not (et_tru (x_isK kit_str_str (x_v eS text rfl)))) b_never (b_for (fun (s1_ : Unit) => [eS text, .gone, .gone]) () (fun (s1_ : Unit) (x2_ : (Int × Ts)) => [eS text, eI x2_.1, eS x2_.2]) (ei_enumS (x_v eS text rfl)) rfl (fun _ _ => rfl) (fun (s1_ : Unit) (x2_ : (Int × Ts)) => (b_ifT (et_and (et_not (et_tru (x_call T_is_sign (ea_cons (x_v eS x2_.2 rfl) ea_nil)))) (et_b (x_m2 o2_nin (x_v eS x2_.2 rfl) (x_k eS ['\n', '\t'] rfl)))) b_never (b_nil (t := ()) ⟨rfl, rfl⟩))) (fun (s1_ : Unit) => (b_nil (t := ()) ⟨.inr ⟨rfl, rfl⟩, rfl⟩))))
  refine run_T (n := 3) (kp := [true]) (m := m_checked) (ds := [eS text]) rfl hb ?_
  first
    | (simp -implicitDefEqProofs only [t_checked, Option.bind_assoc, Option.bind_some, bind_same] at h ⊢; exact h)
    | (simp -implicitDefEqProofs only [t_checked, Option.bind_assoc, Option.bind_some, bind_same] at h; exact h)
    | exact h
    | (simp [t_checked] at h ⊢; exact h)
theorem T_checked : Tf (τ := Ts × Unit) (fun t => [eS t.1]) eU F_checked (fun t => t_checked t.1) := fun t r h => ⟨_, L_checked t.1 h⟩
theorem L_sign_item  (place : Int) (sign : Ts) {r : Im} (h : t_sign_item place sign = some r) : F_sign_item [eI place, eS sign] = some (eIm r, (fun _ => [eI place, eS sign]) r) := by
  have hb : Bk (Qf eIm [true, true] (fun _ => [eI place, eS sign])) m_sign_item [eI place, eS sign] _ := (b_ifT (et_b (x_m1 (o1_inK (kt := kt_ENDS) rfl) (x_v eS sign rfl))) (b_retI (eg_f (x_tup (f := eIm) (fun t : Int × Ts × Ts × Unit => (t.1, t.2.1, t.2.2.1)) (ea_cons (x_v eI place rfl) (ea_cons (x_m1 (o1_ixK (kt := kt_ENDS) rfl) (x_v eS sign rfl)) (ea_cons (x_k eS ([] : Ts) rfl) ea_nil))) (fun _ => rfl) (fun _ => (by decide : 3 ≤ LIM)))) (fun u2_ => ⟨rfl, ⟨.inl rfl, rfl⟩⟩)) (b_ret (k := fun (u3_ : Im) => u3_) (eg_f (x_tup (f := eIm) (fun t : Int × Ts × Ts × Unit => (t.1, t.2.1, t.2.2.1)) (ea_cons (x_v eI place rfl) (ea_cons (x_k eS ['s', 'i', 'g', 'n'] rfl) (ea_cons (x_v eS sign rfl) ea_nil))) (fun _ => rfl) (fun _ => (by decide : 3 ≤ LIM)))) (fun u3_ => ⟨.inl rfl, rfl⟩)))
  refine run_T (n := 2) (kp := [true, true]) (m := m_sign_item) (ds := [eI place, eS sign]) rfl hb ?_
  first
    | (simp -implicitDefEqProofs only [t_sign_item, Option.bind_assoc, Option.bind_some, bind_same] at h ⊢; exact h)
    | (simp -implicitDefEqProofs only [t_sign_item, Option.bind_assoc, Option.bind_some, bind_same] at h; exact h)
    | exact h
    | (simp [t_sign_item] at h ⊢; exact h)
theorem T_sign_item : Tf (τ := Int × Ts × Unit) (fun t => [eI t.1, eS t.2.1]) eIm F_sign_item (fun t => t_sign_item t.1 t.2.1) := fun t r h => ⟨_, L_sign_item t.1 t.2.1 h⟩
theorem L_begins_mark  (text : Ts) {r : Bool} (h : t_begins_mark text = some r) : F_begins_mark [eS text] = some (eB r, (fun _ => [eS text]) r) := by
  have hb : Bk (Qf eB [true] (fun _ => [eS text])) m_begins_mark [eS text] _ := (b_ifT (et_b (x_m2 o2_in (x_v eS text rfl) (x_tup (f := (eV eS)) (fun t : Ts × Ts × Unit => ([t.1, t.2.1] : (List Ts))) (ea_cons (x_k eS ['['] rfl) (ea_cons (x_k eS ['[', '/'] rfl) ea_nil)) (fun _ => rfl) (fun _ => (by decide : 2 ≤ LIM))))) (b_ret (k := fun (u1_ : Bool) => u1_) (eg_f (x_k eB true rfl)) (fun u1_ => ⟨rfl, ⟨.inl rfl, rfl⟩⟩)) (b_ifT (et_and (et_b (x_m2 (o2_eq (e' := eI) (by decide)) (x_a1 o1_lenS (x_v eS text rfl)) (x_k eI (2) rfl))) (et_b (x_m2 (o2_eq (e' := eS) (by decide)) (x_m2 o2_ixS (x_v eS text rfl) (x_k eI (0) rfl)) (x_k eS ['['] rfl)))) (b_retI (eg_f (x_call T_is_colour (ea_cons (x_m2 o2_ixS (x_v eS text rfl) (x_k eI (1) rfl)) ea_nil))) (fun u6_ => ⟨rfl, ⟨.inl rfl, rfl⟩⟩)) (b_retI (eg_f (x_and (x_m2 (o2_eq (e' := eI) (by decide)) (x_a1 o1_lenS (x_v eS text rfl)) (x_k eI (3) rfl)) (x_and (x_m2 (o2_eq (e' := eS) (by decide)) (x_sl (x_v eS text rfl) eo_no (eo_so (x_k eI (2) rfl))) (x_k eS ['[', '/'] rfl)) (x_call T_is_colour (ea_cons (x_m2 o2_ixS (x_v eS text rfl) (x_k eI (2) rfl)) ea_nil))))) (fun u12_ => ⟨.inl rfl, rfl⟩))))
  refine run_T (n := 1) (kp := [true]) (m := m_begins_mark) (ds := [eS text]) rfl hb ?_
  first
    | (simp -implicitDefEqProofs only [t_begins_mark, Option.bind_assoc, Option.bind_some, bind_same] at h ⊢; exact h)
    | (simp -implicitDefEqProofs only [t_begins_mark, Option.bind_assoc, Option.bind_some, bind_same] at h; exact h)
    | exact h
    | (simp [t_begins_mark] at h ⊢; exact h)
theorem T_begins_mark : Tf (τ := Ts × Unit) (fun t => [eS t.1]) eB F_begins_mark (fun t => t_begins_mark t.1) := fun t r h => ⟨_, L_begins_mark t.1 h⟩
theorem L_mark_item  (place : Int) (text : Ts) {r : (Option Im)} (h : t_mark_item place text = some r) : F_mark_item [eI place, eS text] = some ((eO eIm) r, (fun _ => [eI place, eS text]) r) := by
  have hb : Bk (Qf (eO eIm) [true, true] (fun _ => [eI place, eS text])) m_mark_item [eI place, eS text] _ := (b_ifT (et_b (x_m2 (o2_eq (e' := eS) (by decide)) (x_v eS text rfl) (x_k eS ['[', '['] rfl))) (b_ret (k := fun (u1_ : (Option Im)) => u1_) (eg_f (x_map (e := eIm) (f := (eO eIm)) some (fun _ => rfl) (x_tup (f := eIm) (fun t : Int × Ts × Ts × Unit => (t.1, t.2.1, t.2.2.1)) (ea_cons (x_v eI place rfl) (ea_cons (x_k eS ['s', 'i', 'g', 'n'] rfl) (ea_cons (x_k eS ['['] rfl) ea_nil))) (fun _ => rfl) (fun _ => (by decide : 3 ≤ LIM))))) (fun u1_ => ⟨rfl, ⟨.inl rfl, rfl⟩⟩)) (b_ifT (et_b (x_m2 (o2_eq (e' := eS) (by decide)) (x_v eS text rfl) (x_k eS ['[', ']'] rfl))) (b_ret (k := fun (u2_ : (Option Im)) => u2_) (eg_f (x_map (e := eIm) (f := (eO eIm)) some (fun _ => rfl) (x_tup (f := eIm) (fun t : Int × Ts × Ts × Unit => (t.1, t.2.1, t.2.2.1)) (ea_cons (x_v eI place rfl) (ea_cons (x_k eS ['p', 'l', 'a', 'i', 'n'] rfl) (ea_cons (x_k eS ([] : Ts) rfl) ea_nil))) (fun _ => rfl) (fun _ => (by decide : 3 ≤ LIM))))) (fun u2_ => ⟨rfl, ⟨.inl rfl, rfl⟩⟩)) (b_ifT (et_and (et_b (x_m2 (o2_eq (e' := eI) (by decide)) (x_a1 o1_lenS (x_v eS text rfl)) (x_k eI (3) rfl))) (et_and (et_b (x_m2 (o2_eq (e' := eS) (by decide)) (x_m2 o2_ixS (x_v eS text rfl) (x_k eI (0) rfl)) (x_k eS ['['] rfl))) (et_and (et_tru (x_call T_is_colour (ea_cons (x_m2 o2_ixS (x_v eS text rfl) (x_k eI (1) rfl)) ea_nil))) (et_b (x_m2 (o2_eq (e' := eS) (by decide)) (x_m2 o2_ixS (x_v eS text rfl) (x_k eI (2) rfl)) (x_k eS [']'] rfl)))))) (b_retI (eg_f (x_map (e := eIm) (f := (eO eIm)) some (fun _ => rfl) (x_tup (f := eIm) (fun t : Int × Ts × Ts × Unit => (t.1, t.2.1, t.2.2.1)) (ea_cons (x_v eI place rfl) (ea_cons (x_k eS ['i', 'n', 'k'] rfl) (ea_cons (x_m2 o2_ixS (x_v eS text rfl) (x_k eI (1) rfl)) ea_nil))) (fun _ => rfl) (fun _ => (by decide : 3 ≤ LIM))))) (fun u12_ => ⟨rfl, ⟨.inl rfl, rfl⟩⟩)) (b_ifT (et_and (et_b (x_m2 (o2_eq (e' := eI) (by decide)) (x_a1 o1_lenS (x_v eS text rfl)) (x_k eI (4) rfl))) (et_and (et_b (x_m2 (o2_eq (e' := eS) (by decide)) (x_sl (x_v eS text rfl) eo_no (eo_so (x_k eI (2) rfl))) (x_k eS ['[', '/'] rfl))) (et_and (et_tru (x_call T_is_colour (ea_cons (x_m2 o2_ixS (x_v eS text rfl) (x_k eI (2) rfl)) ea_nil))) (et_b (x_m2 (o2_eq (e' := eS) (by decide)) (x_m2 o2_ixS (x_v eS text rfl) (x_k eI (3) rfl)) (x_k eS [']'] rfl)))))) (b_retI (eg_f (x_map (e := eIm) (f := (eO eIm)) some (fun _ => rfl) (x_tup (f := eIm) (fun t : Int × Ts × Ts × Unit => (t.1, t.2.1, t.2.2.1)) (ea_cons (x_v eI place rfl) (ea_cons (x_k eS ['g', 'r', 'o', 'u', 'n', 'd'] rfl) (ea_cons (x_m2 o2_ixS (x_v eS text rfl) (x_k eI (2) rfl)) ea_nil))) (fun _ => rfl) (fun _ => (by decide : 3 ≤ LIM))))) (fun u22_ => ⟨rfl, ⟨.inl rfl, rfl⟩⟩)) (b_ret (k := fun (u23_ : (Option Im)) => u23_) (eg_f (x_map (e := eU) (f := (eO eIm)) (fun _ => none) (fun _ => rfl) (x_k eU () rfl))) (fun u23_ => ⟨.inl rfl, rfl⟩))))))
  refine run_T (n := 2) (kp := [true, true]) (m := m_mark_item) (ds := [eI place, eS text]) rfl hb ?_
  first
    | (simp -implicitDefEqProofs only [t_mark_item, Option.bind_assoc, Option.bind_some, bind_same] at h ⊢; exact h)
    | (simp -implicitDefEqProofs only [t_mark_item, Option.bind_assoc, Option.bind_some, bind_same] at h; exact h)
    | exact h
    | (simp [t_mark_item] at h ⊢; exact h)
theorem T_mark_item : Tf (τ := Int × Ts × Unit) (fun t => [eI t.1, eS t.2.1]) (eO eIm) F_mark_item (fun t => t_mark_item t.1 t.2.1) := fun t r h => ⟨_, L_mark_item t.1 t.2.1 h⟩
theorem L_Reader_init   {r : OReader} (h : t_Reader_init  = some r) : F_Reader_init [.obj true 11 [] []] = some ((fun _ => .non) r, (fun r : OReader => e_Reader true r :: []) r) := by
  have hb : Bk (Qf (fun _ => .non) [true] (fun r : OReader => e_Reader true r :: [])) m_Reader_init [(fun p_ : Unit => .obj true 11 [] []) ()] _ := (b_fld (fun (u1_ : Ts) => [(fun p_ : Ts => .obj true 11 ["kept"] [eS p_]) u1_]) (eg_f (x_k eS ([] : Ts) rfl)) (fun _ => rfl) (fun (u1_ : Ts) => (b_fld (fun (u2_ : Int) => [e_Reader true ({ kept := u1_, place := u2_ : OReader })]) (eg_f (x_k eI (0) rfl)) (fun _ => rfl) (fun (u2_ : Int) => (b_nil (t := ({ kept := u1_, place := u2_ : OReader })) ⟨.inr ⟨rfl, rfl⟩, rfl⟩)))))
  refine run_T (n := 1) (kp := [true]) (m := m_Reader_init) (ds := [.obj true 11 [] []]) rfl hb ?_
  first
    | (simp -implicitDefEqProofs only [t_Reader_init, Option.bind_assoc, Option.bind_some, bind_same] at h ⊢; exact h)
    | (simp -implicitDefEqProofs only [t_Reader_init, Option.bind_assoc, Option.bind_some, bind_same] at h; exact h)
    | exact h
    | (simp [t_Reader_init] at h ⊢; exact h)
theorem T_Reader_init : Tn (τ := Unit) 11 (fun t => []) (e_Reader true) F_Reader_init (fun t => t_Reader_init ) := fun t r h => ⟨_, L_Reader_init  h⟩
theorem L_Reader_held_text (o_ : Bool) (self : OReader) {r : Ts} (h : t_Reader_held_text self = some r) : F_Reader_held_text [(e_Reader o_) self] = some (eS r, (fun _ => [(e_Reader o_) self]) r) := by
  have hb : Bk (Qf eS [true] (fun _ => [(e_Reader o_) self])) m_Reader_held_text [(e_Reader o_) self] _ := (b_ret (k := fun (u1_ : Ts) => u1_) (eg_r (ev_get (e := eS) (x := self.kept) rfl)) (fun u1_ => ⟨.inl rfl, rfl⟩))
  refine run_T (n := 1) (kp := [true]) (m := m_Reader_held_text) (ds := [(e_Reader o_) self]) rfl hb ?_
  first
    | (simp -implicitDefEqProofs only [t_Reader_held_text, Option.bind_assoc, Option.bind_some, bind_same] at h ⊢; exact h)
    | (simp -implicitDefEqProofs only [t_Reader_held_text, Option.bind_assoc, Option.bind_some, bind_same] at h; exact h)
    | exact h
    | (simp [t_Reader_held_text] at h ⊢; exact h)
theorem T_Reader_held_text {o_ : Bool} : To (τ := Unit) (e_Reader o_) (fun t => []) eS F_Reader_held_text (fun x t => t_Reader_held_text x ) := fun x t r h => ⟨_, L_Reader_held_text o_ x  h⟩
theorem L_Reader_told  (self : OReader) (many : Int) {r : ((List Im) × OReader)} (h : t_Reader_told self many = some r) : F_Reader_told [(e_Reader true) self, eI many] = some ((fun r : ((List Im) × OReader) => (eL true eIm) r.1) r, (fun r : ((List Im) × OReader) => e_Reader true r.2 :: [eI many]) r) := by
  have hb : Bk (Qf (fun r : ((List Im) × OReader) => (eL true eIm) r.1) [true, true] (fun r : ((List Im) × OReader) => e_Reader true r.2 :: [eI many])) m_Reader_told [(e_Reader true) self, eI many, .gone, .gone] _ := (b_asg (fun (found : (List Im)) => [(e_Reader true) self, eI many, (eL true eIm) found, .gone]) (eg_f (x_lst (f := (eL true eIm)) (fun t : Unit => ([] : (List Im))) ea_nil (fun _ => rfl) (fun _ => (by decide : 0 ≤ LIM)))) (fun _ => rfl) (fun (found : (List Im)) => (b_for (fun (s2_ : (OReader × (List Im))) => [(e_Reader true) s2_.1, eI many, (eL true eIm) s2_.2, .gone]) (self, found) (fun (s2_ : (OReader × (List Im))) (sign : Ts) => [(e_Reader true) s2_.1, eI many, (eL true eIm) s2_.2, eS sign]) (ei_it (x_sl (ev_get (e := eS) (x := self.kept) rfl) eo_no (eo_so (x_v eI many rfl)))) rfl (fun _ _ => rfl) (fun (s2_ : (OReader × (List Im))) (sign : Ts) => (b_expr (eg_app (a := eIm) (xs := s2_.2) (env := fun r_ => [(e_Reader true) s2_.1, eI many, (eL true eIm) r_, eS sign]) rfl (x_call T_sign_item (ea_cons (ev_get (e := eI) (x := s2_.1.place) rfl) (ea_cons (x_v eS sign rfl) ea_nil))) (fun _ => rfl)) (fun (u4_ : (List Im)) => (b_fld (fun (u5_ : Int) => [(e_Reader true) ({ s2_.1 with place := u5_ }), eI many, (eL true eIm) u4_, eS sign]) (eg_f (x_m2 o2_addI (ev_get (e := eI) (x := s2_.1.place) rfl) (x_k eI (1) rfl))) (fun _ => rfl) (fun (u5_ : Int) => (b_nil (t := ({ s2_.1 with place := u5_ }, u4_)) ⟨rfl, rfl⟩)))))) (fun (s2_ : (OReader × (List Im))) => (b_fld (fun (u6_ : Ts) => [(e_Reader true) ({ s2_.1 with kept := u6_ }), eI many, (eL true eIm) s2_.2, .gone]) (eg_f (x_sl (ev_get (e := eS) (x := s2_.1.kept) rfl) (eo_so (x_v eI many rfl)) eo_no)) (fun _ => rfl) (fun (u6_ : Ts) => (b_ret (k := fun (u7_ : (List Im)) => (((u7_, { s2_.1 with kept := u6_ })) : ((List Im) × OReader))) (eg_mv (eL true eIm) s2_.2 [(e_Reader true) ({ s2_.1 with kept := u6_ }), eI many, .gone, .gone] rfl rfl) (fun u7_ => ⟨.inl rfl, rfl⟩))))))))
  refine run_T (n := 4) (kp := [true, true]) (m := m_Reader_told) (ds := [(e_Reader true) self, eI many]) rfl hb ?_
  first
    | (simp -implicitDefEqProofs only [t_Reader_told, Option.bind_assoc, Option.bind_some, bind_same] at h ⊢; exact h)
    | (simp -implicitDefEqProofs only [t_Reader_told, Option.bind_assoc, Option.bind_some, bind_same] at h; exact h)
    | exact h
    | (simp [t_Reader_told] at h ⊢; exact h)
theorem T_Reader_told : Tm (τ := Int × Unit) (e_Reader true) (fun t => [eI t.1]) (fun r : ((List Im) × OReader) => (eL true eIm) r.1) (fun r => r.2) F_Reader_told (fun x t => t_Reader_told x t.1) := fun x t r h => ⟨_, L_Reader_told x t.1 h⟩
theorem L_Reader_take  (self : OReader) (sign : Ts) {r : ((List Im) × OReader)} (h : t_Reader_take self sign = some r) : F_Reader_take [(e_Reader true) self, eS sign] = some ((fun r : ((List Im) × OReader) => (eL true eIm) r.1) r, (fun r : ((List Im) × OReader) => e_Reader true r.2 :: [eS sign]) r) := by
  have hb : Bk (Qf (fun r : ((List Im) × OReader) => (eL true eIm) r.1) [true, true] (fun r : ((List Im) × OReader) => e_Reader true r.2 :: [eS sign])) m_Reader_take [(e_Reader true) self, eS sign, .gone, .gone] _ := (b_asg (fun (whole : (Option Im)) => [(e_Reader true) self, eS sign, (eO eIm) whole, .gone]) (eg_f (x_call T_mark_item (ea_cons (ev_get (e := eI) (x := self.place) rfl) (ea_cons (x_m2 o2_catS (ev_get (e := eS) (x := self.kept) rfl) (x_v eS sign rfl)) ea_nil)))) (fun _ => rfl) (fun (whole : (Option Im)) => (b_ifT (et_b (x_m2 o2_nisN (x_v (eO eIm) whole rfl) (x_k eU () rfl))) (b_fld (fun (u4_ : Int) => [(e_Reader true) ({ self with place := u4_ }), eS sign, (eO eIm) whole, .gone]) (eg_f (x_m2 o2_addI (x_m2 o2_addI (ev_get (e := eI) (x := self.place) rfl) (x_a1 o1_lenS (ev_get (e := eS) (x := self.kept) rfl))) (x_k eI (1) rfl))) (fun _ => rfl) (fun (u4_ : Int) => (b_fld (fun (u5_ : Ts) => [(e_Reader true) ({ { self with place := u4_ } with kept := u5_ }), eS sign, (eO eIm) whole, .gone]) (eg_f (x_k eS ([] : Ts) rfl)) (fun _ => rfl) (fun (u5_ : Ts) => (b_ret (k := fun (u7_ : (List Im)) => (((u7_, { self with place := u4_, kept := u5_ })) : ((List Im) × OReader))) (eg_f (x_lst (f := (eL true eIm)) (fun t : Im × Unit => ([t.1] : (List Im))) (ea_cons (x_un (x_v (eO eIm) whole rfl)) ea_nil) (fun _ => rfl) (fun _ => (by decide : 1 ≤ LIM)))) (fun u7_ => ⟨rfl, ⟨.inl rfl, rfl⟩⟩)))))) (b_ifT (et_tru (x_call T_begins_mark (ea_cons (x_m2 o2_catS (ev_get (e := eS) (x := self.kept) rfl) (x_v eS sign rfl)) ea_nil))) (b_fld (fun (u9_ : Ts) => [(e_Reader true) ({ self with kept := u9_ }), eS sign, (eO eIm) whole, .gone]) (eg_f (x_m2 o2_catS (ev_get (e := eS) (x := self.kept) rfl) (x_v eS sign rfl))) (fun _ => rfl) (fun (u9_ : Ts) => (b_ret (k := fun (u10_ : (List Im)) => (((u10_, { self with kept := u9_ })) : ((List Im) × OReader))) (eg_f (x_lst (f := (eL true eIm)) (fun t : Unit => ([] : (List Im))) ea_nil (fun _ => rfl) (fun _ => (by decide : 0 ≤ LIM)))) (fun u10_ => ⟨rfl, ⟨.inl rfl, rfl⟩⟩)))) (b_asg (fun (u13_ : ((List Im) × OReader)) => [(e_Reader true) u13_.2, eS sign, (eO eIm) whole, (eL true eIm) u13_.1]) (eg_meth (x := self) (env := fun r12_ => [(e_Reader true) r12_.2, eS sign, (eO eIm) whole, .gone]) (T_Reader_told) rfl rfl (ea_cons (x_a1 o1_lenS (ev_get (e := eS) (x := self.kept) rfl)) ea_nil) (fun _ => rfl)) (fun _ => rfl) (fun (u13_ : ((List Im) × OReader)) => (b_fld (fun (u14_ : Ts) => [(e_Reader true) ({ u13_.2 with kept := u14_ }), eS sign, (eO eIm) whole, (eL true eIm) u13_.1]) (eg_r (x_v eS sign rfl)) (fun _ => rfl) (fun (u14_ : Ts) => (b_join (fun (s15_ : (OReader × (List Im))) => [(e_Reader true) s15_.1, eS sign, (eO eIm) whole, (eL true eIm) s15_.2]) (et_b (x_m2 (o2_ne (e' := eS) (by decide)) (x_v eS sign rfl) (x_k eS ['['] rfl))) (b_expr (eg_ext (a := eIm) (xs := fun r18_ => u13_.1) (ys := fun r18_ => r18_.1) (env := fun p_ => [(e_Reader true) p_.1.2, eS sign, (eO eIm) whole, (eL true eIm) p_.2]) rfl (eg_meth (x := { u13_.2 with kept := u14_ }) (env := fun r17_ => [(e_Reader true) r17_.2, eS sign, (eO eIm) whole, (eL true eIm) u13_.1]) (T_Reader_told) rfl rfl (ea_cons (x_k eI (1) rfl) ea_nil) (fun _ => rfl)) (fun _ => rfl) (fun _ => rfl) (fun _ => rfl)) (fun (u20_ : (((List Im) × OReader) × (List Im))) => (b_nil (t := (u20_.1.2, u20_.2)) ⟨rfl, rfl⟩))) (b_nil (t := ({ u13_.2 with kept := u14_ }, u13_.1)) ⟨rfl, rfl⟩) (fun (s15_ : (OReader × (List Im))) => (b_ret (k := fun (u21_ : (List Im)) => (u21_, s15_.1)) (eg_mv (eL true eIm) s15_.2 [(e_Reader true) s15_.1, eS sign, (eO eIm) whole, .gone] rfl rfl) (fun u21_ => ⟨.inl rfl, rfl⟩))))))))))))
  refine run_T (n := 4) (kp := [true, true]) (m := m_Reader_take) (ds := [(e_Reader true) self, eS sign]) rfl hb ?_
  first
    | (simp -implicitDefEqProofs only [t_Reader_take, Option.bind_assoc, Option.bind_some, bind_same] at h ⊢; exact h)
    | (simp -implicitDefEqProofs only [t_Reader_take, Option.bind_assoc, Option.bind_some, bind_same] at h; exact h)
    | exact h
    | (simp [t_Reader_take] at h ⊢; exact h)
theorem T_Reader_take : Tm (τ := Ts × Unit) (e_Reader true) (fun t => [eS t.1]) (fun r : ((List Im) × OReader) => (eL true eIm) r.1) (fun r => r.2) F_Reader_take (fun x t => t_Reader_take x t.1) := fun x t r h => ⟨_, L_Reader_take x t.1 h⟩
theorem L_Reader_feed__X1  (self : OReader) (piece : An) {r : ((Exn ⊕ (List Im)) × OReader)} (h : t_Reader_feed__X1 self piece = some r) : F_Reader_feed__X1 [(e_Reader true) self, eA piece] = some (exR (eL true eIm) ((fun r : OReader => e_Reader true r :: [eA piece]) r.2) r.1) := by
  have hb : Bk (QfXS (eL true eIm) [true, true] (fun r : OReader => e_Reader true r :: [eA piece])) m_Reader_feed__X1 [(e_Reader true) self, eA piece, .gone, .gone] _ := (b_exprE (f := (fun (r1_ : (Exn ⊕ Unit)) (x3_ : Exn) => ((.inl x3_ : Exn ⊕ (List Im)), self))) (x_callX T_checked__X1 (ea_cons (x_v eA piece rfl) ea_nil)).eg (fun (r1_ : (Exn ⊕ Unit)) (y2_ : Unit) => (b_asg (fun (found : (List Im)) => [(e_Reader true) self, eA piece, (eL true eIm) found, .gone]) (eg_f (x_lst (f := (eL true eIm)) (fun t : Unit => ([] : (List Im))) ea_nil (fun _ => rfl) (fun _ => (by decide : 0 ≤ LIM)))) (fun _ => rfl) (fun (found : (List Im)) => (b_for (fun (s5_ : (OReader × (List Im))) => [(e_Reader true) s5_.1, eA piece, (eL true eIm) s5_.2, .gone]) (self, found) (fun (s5_ : (OReader × (List Im))) (sign : Ts) => [(e_Reader true) s5_.1, eA piece, (eL true eIm) s5_.2, eS sign]) (ei_it (x_dec (e := eS) (x_v eA piece rfl))) rfl (fun _ _ => rfl) (fun (s5_ : (OReader × (List Im))) (sign : Ts) => (b_expr (eg_ext (a := eIm) (xs := fun r8_ => s5_.2) (ys := fun r8_ => r8_.1) (env := fun p_ => [(e_Reader true) p_.1.2, eA piece, (eL true eIm) p_.2, eS sign]) rfl (eg_meth (x := s5_.1) (env := fun r7_ => [(e_Reader true) r7_.2, eA piece, (eL true eIm) s5_.2, eS sign]) (T_Reader_take) rfl rfl (ea_cons (x_v eS sign rfl) ea_nil) (fun _ => rfl)) (fun _ => rfl) (fun _ => rfl) (fun _ => rfl)) (fun (u10_ : (((List Im) × OReader) × (List Im))) => (b_nil (t := (u10_.1.2, u10_.2)) ⟨rfl, rfl⟩)))) (fun (s5_ : (OReader × (List Im))) => (b_ret (k := fun (u11_ : (List Im)) => ((.inr u11_ : Exn ⊕ (List Im)), s5_.1)) (eg_mv (eL true eIm) s5_.2 [(e_Reader true) s5_.1, eA piece, .gone, .gone] rfl rfl) (fun u11_ => ⟨.inl rfl, rfl⟩))))))) (fun (r1_ : (Exn ⊕ Unit)) (x3_ : Exn) => ⟨rfl, rfl⟩))
  refine run_TXS (n := 4) (kp := [true, true]) (m := m_Reader_feed__X1) (ds := [(e_Reader true) self, eA piece]) rfl hb ?_
  first
    | (simp -implicitDefEqProofs only [t_Reader_feed__X1, Option.bind_assoc, Option.bind_some, bind_same] at h ⊢; exact h)
    | (simp -implicitDefEqProofs only [t_Reader_feed__X1, Option.bind_assoc, Option.bind_some, bind_same] at h; exact h)
    | exact h
    | (simp [t_Reader_feed__X1] at h ⊢; exact h)
theorem T_Reader_feed__X1 : Tmx (τ := An × Unit) (e_Reader true) (fun t => [eA t.1]) (eL true eIm) F_Reader_feed__X1 (fun x t => t_Reader_feed__X1 x t.1) := fun x t r h => ⟨_, L_Reader_feed__X1 x t.1 h⟩
theorem L_Reader_feed  (self : OReader) (piece : Ts) {r : ((List Im) × OReader)} (h : t_Reader_feed self piece = some r) : F_Reader_feed [(e_Reader true) self, eS piece] = some ((fun r : ((List Im) × OReader) => (eL true eIm) r.1) r, (fun r : ((List Im) × OReader) => e_Reader true r.2 :: [eS piece]) r) := by
  have hb : Bk (Qf (fun r : ((List Im) × OReader) => (eL true eIm) r.1) [true, true] (fun r : ((List Im) × OReader) => e_Reader true r.2 :: [eS piece])) m_Reader_feed [(e_Reader true) self, eS piece, .gone, .gone] _ := (b_expr (eg_f (x_call T_checked (ea_cons (x_v eS piece rfl) ea_nil))) (fun (u1_ : Unit) => (b_asg (fun (found : (List Im)) => [(e_Reader true) self, eS piece, (eL true eIm) found, .gone]) (eg_f (x_lst (f := (eL true eIm)) (fun t : Unit => ([] : (List Im))) ea_nil (fun _ => rfl) (fun _ => (by decide : 0 ≤ LIM)))) (fun _ => rfl) (fun (found : (List Im)) => (b_for (fun (s2_ : (OReader × (List Im))) => [(e_Reader true) s2_.1, eS piece, (eL true eIm) s2_.2, .gone]) (self, found) (fun (s2_ : (OReader × (List Im))) (sign : Ts) => [(e_Reader true) s2_.1, eS piece, (eL true eIm) s2_.2, eS sign]) (ei_it (x_v eS piece rfl)) rfl (fun _ _ => rfl) (fun (s2_ : (OReader × (List Im))) (sign : Ts) => (b_expr (eg_ext (a := eIm) (xs := fun r5_ => s2_.2) (ys := fun r5_ => r5_.1) (env := fun p_ => [(e_Reader true) p_.1.2, eS piece, (eL true eIm) p_.2, eS sign]) rfl (eg_meth (x := s2_.1) (env := fun r4_ => [(e_Reader true) r4_.2, eS piece, (eL true eIm) s2_.2, eS sign]) (T_Reader_take) rfl rfl (ea_cons (x_v eS sign rfl) ea_nil) (fun _ => rfl)) (fun _ => rfl) (fun _ => rfl) (fun _ => rfl)) (fun (u7_ : (((List Im) × OReader) × (List Im))) => (b_nil (t := (u7_.1.2, u7_.2)) ⟨rfl, rfl⟩)))) (fun (s2_ : (OReader × (List Im))) => (b_ret (k := fun (u8_ : (List Im)) => (u8_, s2_.1)) (eg_mv (eL true eIm) s2_.2 [(e_Reader true) s2_.1, eS piece, .gone, .gone] rfl rfl) (fun u8_ => ⟨.inl rfl, rfl⟩))))))))
  refine run_T (n := 4) (kp := [true, true]) (m := m_Reader_feed) (ds := [(e_Reader true) self, eS piece]) rfl hb ?_
  first
    | (simp -implicitDefEqProofs only [t_Reader_feed, Option.bind_assoc, Option.bind_some, bind_same] at h ⊢; exact h)
    | (simp -implicitDefEqProofs only [t_Reader_feed, Option.bind_assoc, Option.bind_some, bind_same] at h; exact h)
    | exact h
    | (simp [t_Reader_feed] at h ⊢; exact h)
theorem T_Reader_feed : Tm (τ := Ts × Unit) (e_Reader true) (fun t => [eS t.1]) (fun r : ((List Im) × OReader) => (eL true eIm) r.1) (fun r => r.2) F_Reader_feed (fun x t => t_Reader_feed x t.1) := fun x t r h => ⟨_, L_Reader_feed x t.1 h⟩
theorem L_Reader_finish  (self : OReader) {r : ((List Im) × OReader)} (h : t_Reader_finish self = some r) : F_Reader_finish [(e_Reader true) self] = some ((fun r : ((List Im) × OReader) => (eL true eIm) r.1) r, (fun r : ((List Im) × OReader) => e_Reader true r.2 :: []) r) := by
  have hb : Bk (Qf (fun r : ((List Im) × OReader) => (eL true eIm) r.1) [true] (fun r : ((List Im) × OReader) => e_Reader true r.2 :: [])) m_Reader_finish [(e_Reader true) self] _ := (b_ret (k := fun (u3_ : ((List Im) × OReader)) => (u3_.1, u3_.2)) (eg_meth (x := self) (env := fun r2_ => [(e_Reader true) r2_.2]) (T_Reader_told) rfl rfl (ea_cons (x_a1 o1_lenS (ev_get (e := eS) (x := self.kept) rfl)) ea_nil) (fun _ => rfl)) (fun u3_ => ⟨.inl rfl, rfl⟩))
  refine run_T (n := 1) (kp := [true]) (m := m_Reader_finish) (ds := [(e_Reader true) self]) rfl hb ?_
  first
    | (simp -implicitDefEqProofs only [t_Reader_finish, Option.bind_assoc, Option.bind_some, bind_same] at h ⊢; exact h)
    | (simp -implicitDefEqProofs only [t_Reader_finish, Option.bind_assoc, Option.bind_some, bind_same] at h; exact h)
    | exact h
    | (simp [t_Reader_finish] at h ⊢; exact h)
theorem T_Reader_finish : Tm (τ := Unit) (e_Reader true) (fun t => []) (fun r : ((List Im) × OReader) => (eL true eIm) r.1) (fun r => r.2) F_Reader_finish (fun x t => t_Reader_finish x ) := fun x t r h => ⟨_, L_Reader_finish x  h⟩
theorem L_items_of__X1  (text : An) {r : (Exn ⊕ (List Im))} (h : t_items_of__X1 text = some r) : ∃ ds', F_items_of__X1 [eA text] = some (exR (eL false eIm) ds' r) := by
  have hb : Bk (QfX (eL false eIm) [true] (fun _ => [eA text])) m_items_of__X1 [eA text, .gone, .gone] _ := (b_asg (fun (reader : OReader) => [eA text, (e_Reader true) reader, .gone]) (eg_f (x_mk T_Reader_init ea_nil)) (fun _ => rfl) (fun (reader : OReader) => (b_setE (f := (fun (r2_ : ((Exn ⊕ (List Im)) × OReader)) (x3_ : Exn) => (.inl x3_ : (Exn ⊕ (List Im))))) (fun (r2_ : ((Exn ⊕ (List Im)) × OReader)) (found : (List Im)) => [eA text, (e_Reader true) r2_.2, (eL true eIm) found]) (eg_methX (x := reader) (env := fun (r1_ : ((Exn ⊕ (List Im)) × OReader)) => [eA text, (e_Reader true) r1_.2, .gone]) T_Reader_feed__X1 rfl rfl (ea_cons (x_v eA text rfl) ea_nil) (fun _ => rfl)) (fun _ _ => rfl) (fun (r2_ : ((Exn ⊕ (List Im)) × OReader)) (found : (List Im)) => (b_frz (ρ2 := [eA text, (e_Reader true) r2_.2, (eL false eIm) found]) (e := (eL true eIm)) (x := found) rfl rfl (b_ret (k := fun (u8_ : ((List Im) × ((List Im) × OReader))) => (.inr u8_.1 : (Exn ⊕ (List Im)))) (eg_cold (ic := icFst) (eg_binV o2_catL (eg_meth (x := r2_.2) (env := fun r5_ => [eA text, (e_Reader true) r5_.2, (eL false eIm) found]) (T_Reader_finish) rfl rfl ea_nil (fun _ => rfl)) (fun r6_ => r6_.1) (fun _ => rfl) rfl (fun _ => rfl))) (fun u8_ => ⟨.inl rfl, rfl⟩)))) (fun (r2_ : ((Exn ⊕ (List Im)) × OReader)) (x3_ : Exn) => rfl))))
  refine run_TX (n := 3) (kp := [true]) (m := m_items_of__X1) (ds := [eA text]) rfl hb ?_
  first
    | (simp -implicitDefEqProofs only [t_items_of__X1, Option.bind_assoc, Option.bind_some, bind_same] at h ⊢; exact h)
    | (simp -implicitDefEqProofs only [t_items_of__X1, Option.bind_assoc, Option.bind_some, bind_same] at h; exact h)
    | exact h
    | (simp [t_items_of__X1] at h ⊢; exact h)
theorem T_items_of__X1 : Tfx (τ := An × Unit) (fun t => [eA t.1]) (eL false eIm) F_items_of__X1 (fun t => t_items_of__X1 t.1) := fun t r h => L_items_of__X1 t.1 h
theorem L_lw_cell  (script : (List Int)) (k : Int) {r : Int} (h : t_lw_cell script k = some r) : F_lw_cell [eC script, eI k] = some (eI r, (fun _ => [eC script, eI k]) r) := by
  have hb : Bk (Qf eI [true, true] (fun _ => [eC script, eI k])) m_lw_cell [eC script, eI k] _ := (b_ifT (et_b (x_m2 o2_ltI (x_v eI k rfl) (x_a1 o1_lenC (x_v eC script rfl)))) (b_retI (eg_r (x_m2 o2_ixC (x_v eC script rfl) (x_v eI k rfl))) (fun u1_ => ⟨rfl, ⟨.inl rfl, rfl⟩⟩)) (b_ret (k := fun (u2_ : Int) => u2_) (eg_f (x_k eI (0) rfl)) (fun u2_ => ⟨.inl rfl, rfl⟩)))
  refine run_T (n := 2) (kp := [true, true]) (m := m_lw_cell) (ds := [eC script, eI k]) rfl hb ?_
  first
    | (simp -implicitDefEqProofs only [t_lw_cell, Option.bind_assoc, Option.bind_some, bind_same] at h ⊢; exact h)
    | (simp -implicitDefEqProofs only [t_lw_cell, Option.bind_assoc, Option.bind_some, bind_same] at h; exact h)
    | exact h
    | (simp [t_lw_cell] at h ⊢; exact h)
theorem T_lw_cell : Tf (τ := (List Int) × Int × Unit) (fun t => [eC t.1, eI t.2.1]) eI F_lw_cell (fun t => t_lw_cell t.1 t.2.1) := fun t r h => ⟨_, L_lw_cell t.1 t.2.1 h⟩
theorem L_lw_mix  (cell_here : Int) (k : Int) {r : Int} (h : t_lw_mix cell_here k = some r) : F_lw_mix [eI cell_here, eI k] = some (eI r, (fun _ => [eI cell_here, eI k]) r) := by
  have hb : Bk (Qf eI [true, true] (fun _ => [eI cell_here, eI k])) m_lw_mix [eI cell_here, eI k, .gone, .gone, .gone] _ := (b_ifT (et_b (x_m2 o2_gtI (x_v eI cell_here rfl) (x_pow 10 18 1000000000000000000 (by decide)))) (b_asg (fun (rest : Int) => [eI cell_here, eI k, eI rest, .gone, .gone]) (eg_r (x_v eI cell_here rfl)) (fun _ => rfl) (fun (rest : Int) => (b_for (fun (s1_ : Int) => [eI cell_here, eI k, eI s1_, .gone, .gone]) rest (fun (s1_ : Int) (turn : Int) => [eI cell_here, eI k, eI s1_, eI turn, .gone]) (ei_rng1 (x_v eI k rfl)) rfl (fun _ _ => rfl) (fun (s1_ : Int) (turn : Int) => (b_asg (fun (rest : Int) => [eI cell_here, eI k, eI rest, eI turn, .gone]) (eg_f (x_fdivP 1000000000 (by decide) (x_v eI s1_ rfl) (x_pow 10 9 1000000000 (by decide)))) (fun _ => rfl) (fun (rest : Int) => (b_nil (t := rest) ⟨rfl, rfl⟩)))) (fun (s1_ : Int) => (b_ret (k := fun (u2_ : Int) => u2_) (eg_f (x_modP 1000000000 (by decide) (x_v eI s1_ rfl) (x_pow 10 9 1000000000 (by decide)))) (fun u2_ => ⟨rfl, ⟨.inl rfl, rfl⟩⟩)))))) (b_asg (fun (number : Int) => [eI cell_here, eI k, .gone, .gone, eI number]) (eg_f (x_m2 o2_addI (x_modP 2147483647 (by decide) (x_v eI cell_here rfl) (x_k eI (2147483647) rfl)) (x_k eI (7919) rfl))) (fun _ => rfl) (fun (number : Int) => (b_for (fun (s4_ : Int) => [eI cell_here, eI k, .gone, .gone, eI s4_]) number (fun (s4_ : Int) (turn : Int) => [eI cell_here, eI k, .gone, eI turn, eI s4_]) (ei_rng1 (x_m2 o2_addI (x_v eI k rfl) (x_k eI (2) rfl))) rfl (fun _ _ => rfl) (fun (s4_ : Int) (turn : Int) => (b_asg (fun (number : Int) => [eI cell_here, eI k, .gone, eI turn, eI number]) (eg_f (x_modP 2147483629 (by decide) (x_m2 o2_addI (x_mulR 48271 (by decide) (x_v eI s4_ rfl)) (x_k eI (104729) rfl)) (x_k eI (2147483629) rfl))) (fun _ => rfl) (fun (number : Int) => (b_nil (t := number) ⟨rfl, rfl⟩)))) (fun (s4_ : Int) => (b_retI (eg_f (x_fdivP 11 (by decide) (x_modP 998244353 (by decide) (x_m2 o2_mul (x_v eI s4_ rfl) (x_v eI s4_ rfl)) (x_k eI (998244353) rfl)) (x_k eI (11) rfl))) (fun u7_ => ⟨.inl rfl, rfl⟩)))))))
  refine run_T (n := 5) (kp := [true, true]) (m := m_lw_mix) (ds := [eI cell_here, eI k]) rfl hb ?_
  first
    | (simp -implicitDefEqProofs only [t_lw_mix, Option.bind_assoc, Option.bind_some, bind_same] at h ⊢; exact h)
    | (simp -implicitDefEqProofs only [t_lw_mix, Option.bind_assoc, Option.bind_some, bind_same] at h; exact h)
    | exact h
    | (simp [t_lw_mix] at h ⊢; exact h)
theorem T_lw_mix : Tf (τ := Int × Int × Unit) (fun t => [eI t.1, eI t.2.1]) eI F_lw_mix (fun t => t_lw_mix t.1 t.2.1) := fun t r h => ⟨_, L_lw_mix t.1 t.2.1 h⟩
theorem L_lw_signs   {r : Ts} (h : t_lw_signs  = some r) : F_lw_signs [] = some (eS r, (fun _ => []) r) := by
  have hb : Bk (Qf eS [] (fun _ => [])) m_lw_signs [.gone] _ := (b_asg (fun (some_ : Ts) => [eS some_]) (eg_f (x_k eS [' ', '!', '"', '#', '$', '&', '\'', '(', ')', '*', '+', ',', '-', '.', '/', '0', '1', '2', '3', '4', '5', '6', '7', '8', '9', ':', ';', '<', '=', '>', '?', '@', 'A', 'B', 'C', 'D', 'E', 'F', 'G', 'H', 'I', 'J', 'K', 'L', 'M', 'N', 'O', 'P', 'Q', 'R', 'S', 'T', 'U', 'V', 'W', 'X', 'Y', 'Z'] rfl)) (fun _ => rfl) (fun (some_ : Ts) => (b_retI (eg_f (x_m2 o2_catS (x_v eS some_ rfl) (x_k eS ['[', '\\', ']', '^', '_', '`', 'a', 'b', 'c', 'd', 'e', 'f', 'g', 'h', 'i', 'j', 'k', 'l', 'm', 'n', 'o', 'p', 'q', 'r', 's', 't', 'u', 'v', 'w', 'x', 'y', 'z', '{', '|', '}'] rfl))) (fun u1_ => ⟨.inl rfl, rfl⟩))))
  refine run_T (n := 1) (kp := []) (m := m_lw_signs) (ds := []) rfl hb ?_
  first
    | (simp -implicitDefEqProofs only [t_lw_signs, Option.bind_assoc, Option.bind_some, bind_same] at h ⊢; exact h)
    | (simp -implicitDefEqProofs only [t_lw_signs, Option.bind_assoc, Option.bind_some, bind_same] at h; exact h)
    | exact h
    | (simp [t_lw_signs] at h ⊢; exact h)
theorem T_lw_signs : Tf (τ := Unit) (fun t => []) eS F_lw_signs (fun t => t_lw_signs ) := fun t r h => ⟨_, L_lw_signs  h⟩
theorem L_lw_token  (cell_here : Int) {r : Ts} (h : t_lw_token cell_here = some r) : F_lw_token [eI cell_here] = some (eS r, (fun _ => [eI cell_here]) r) := by
  have hb : Bk (Qf eS [true] (fun _ => [eI cell_here])) m_lw_token [eI cell_here, .gone, .gone, .gone, .gone] _ := (b_asg (fun (colour : Ts) => [eI cell_here, eS colour, .gone, .gone, .gone]) (eg_r (x_m2 o2_ixS (x_k eS ['a', 'b', 'c', 'd', 'e', 'f', 'g', 'h', '.'] rfl) (x_modP 9 (by decide) (x_call T_lw_mix (ea_cons (x_v eI cell_here rfl) (ea_cons (x_k eI (2) rfl) ea_nil))) (x_k eI (9) rfl)))) (fun _ => rfl) (fun (colour : Ts) => (b_asg (fun (way : Int) => [eI cell_here, eS colour, eI way, .gone, .gone]) (eg_f (x_modP 12 (by decide) (x_call T_lw_mix (ea_cons (x_v eI cell_here rfl) (ea_cons (x_k eI (0) rfl) ea_nil))) (x_k eI (12) rfl))) (fun _ => rfl) (fun (way : Int) => (b_asg (fun (pick : Int) => [eI cell_here, eS colour, eI way, eI pick, .gone]) (eg_f (x_call T_lw_mix (ea_cons (x_v eI cell_here rfl) (ea_cons (x_k eI (1) rfl) ea_nil)))) (fun _ => rfl) (fun (pick : Int) => (b_asg (fun (odd : (List Ts)) => [eI cell_here, eS colour, eI way, eI pick, (eL true eS) odd]) (eg_f (x_lst (f := (eL true eS)) (fun t : Ts × Ts × Ts × Ts × Ts × Ts × Ts × Ts × Ts × Ts × Unit => ([t.1, t.2.1, t.2.2.1, t.2.2.2.1, t.2.2.2.2.1, t.2.2.2.2.2.1, t.2.2.2.2.2.2.1, t.2.2.2.2.2.2.2.1, t.2.2.2.2.2.2.2.2.1, t.2.2.2.2.2.2.2.2.2.1] : (List Ts))) (ea_cons (x_k eS ['['] rfl) (ea_cons (x_k eS ['[', '/'] rfl) (ea_cons (x_m2 o2_catS (x_k eS ['['] rfl) (x_v eS colour rfl)) (ea_cons (x_m2 o2_catS (x_k eS ['[', '/'] rfl) (x_v eS colour rfl)) (ea_cons (x_k eS ['[', 'i', ']'] rfl) (ea_cons (x_k eS ['[', '/', ']'] rfl) (ea_cons (x_m2 o2_catS (x_m2 o2_catS (x_m2 o2_catS (x_k eS ['['] rfl) (x_v eS colour rfl)) (x_v eS colour rfl)) (x_k eS [']'] rfl)) (ea_cons (x_k eS ['[', 'A', ']'] rfl) (ea_cons (x_k eS ['[', '/', 'i', ']'] rfl) (ea_cons (x_k eS ['[', '[', '['] rfl) ea_nil)))))))))) (fun _ => rfl) (fun _ => (by decide : 10 ≤ LIM)))) (fun _ => rfl) (fun (odd : (List Ts)) => (b_asg (fun (odd_2 : (List Ts)) => [eI cell_here, eS colour, eI way, eI pick, (eL true eS) odd_2]) (eg_f (x_m2 o2_catL (x_v (eL true eS) odd rfl) (x_lst (f := (eL true eS)) (fun t : Ts × Ts × Ts × Ts × Ts × Ts × Ts × Unit => ([t.1, t.2.1, t.2.2.1, t.2.2.2.1, t.2.2.2.2.1, t.2.2.2.2.2.1, t.2.2.2.2.2.2.1] : (List Ts))) (ea_cons (x_k eS ['[', '/', '['] rfl) (ea_cons (x_m2 o2_catS (x_m2 o2_catS (x_k eS ['['] rfl) (x_v eS colour rfl)) (x_k eS ['['] rfl)) (ea_cons (x_m2 o2_catS (x_m2 o2_catS (x_k eS ['[', '/'] rfl) (x_v eS colour rfl)) (x_k eS ['/', ']'] rfl)) (ea_cons (x_m2 o2_catS (x_m2 o2_catS (x_k eS ['[', '/', '/'] rfl) (x_v eS colour rfl)) (x_k eS [']'] rfl)) (ea_cons (x_m2 o2_catS (x_m2 o2_catS (x_k eS ['['] rfl) (x_v eS colour rfl)) (x_k eS ['\n'] rfl)) (ea_cons (x_k eS [']'] rfl) (ea_cons (x_k eS ['/'] rfl) ea_nil))))))) (fun _ => rfl) (fun _ => (by decide : 7 ≤ LIM))))) (fun _ => rfl) (fun (odd_2 : (List Ts)) => (b_expr (eg_app (a := eS) (xs := odd_2) (env := fun r_ => [eI cell_here, eS colour, eI way, eI pick, (eL true eS) r_]) rfl (x_m2 o2_catS (x_m2 o2_catS (x_k eS ['[', '/'] rfl) (x_v eS colour rfl)) (x_k eS ['\t', ']'] rfl)) (fun _ => rfl)) (fun (u21_ : (List Ts)) => (b_ifT (et_b (x_m2 o2_ltI (x_v eI way rfl) (x_k eI (3) rfl))) (b_retI (eg_r (x_m2 o2_ixS (x_call T_lw_signs ea_nil) (x_modP 93 (by decide) (x_v eI pick rfl) (x_k eI (93) rfl)))) (fun u23_ => ⟨rfl, ⟨.inl rfl, rfl⟩⟩)) (b_ifT (et_b (x_m2 (o2_eq (e' := eI) (by decide)) (x_v eI way rfl) (x_k eI (3) rfl))) (b_retI (eg_r (x_m2 o2_ixS (x_k eS [' ', 'A', 'B', 'Z'] rfl) (x_modP 4 (by decide) (x_v eI pick rfl) (x_k eI (4) rfl)))) (fun u24_ => ⟨rfl, ⟨.inl rfl, rfl⟩⟩)) (b_ifT (et_b (x_m2 (o2_eq (e' := eI) (by decide)) (x_v eI way rfl) (x_k eI (4) rfl))) (b_retI (eg_f (x_m2 o2_catS (x_m2 o2_catS (x_k eS ['['] rfl) (x_v eS colour rfl)) (x_k eS [']'] rfl))) (fun u26_ => ⟨rfl, ⟨.inl rfl, rfl⟩⟩)) (b_ifT (et_b (x_m2 (o2_eq (e' := eI) (by decide)) (x_v eI way rfl) (x_k eI (5) rfl))) (b_retI (eg_f (x_m2 o2_catS (x_m2 o2_catS (x_k eS ['[', '/'] rfl) (x_v eS colour rfl)) (x_k eS [']'] rfl))) (fun u28_ => ⟨rfl, ⟨.inl rfl, rfl⟩⟩)) (b_ifT (et_b (x_m2 (o2_eq (e' := eI) (by decide)) (x_v eI way rfl) (x_k eI (6) rfl))) (b_retI (eg_r (x_m2 o2_ixL (x_lst (f := (eL true eS)) (fun t : Ts × Ts × Ts × Ts × Unit => ([t.1, t.2.1, t.2.2.1, t.2.2.2.1] : (List Ts))) (ea_cons (x_k eS ['[', ']'] rfl) (ea_cons (x_k eS ['[', '['] rfl) (ea_cons (x_k eS ['[', ']', ']'] rfl) (ea_cons (x_k eS ['[', '[', ']'] rfl) ea_nil)))) (fun _ => rfl) (fun _ => (by decide : 4 ≤ LIM))) (x_modP 4 (by decide) (x_v eI pick rfl) (x_k eI (4) rfl)))) (fun u29_ => ⟨rfl, ⟨.inl rfl, rfl⟩⟩)) (b_ifT (et_b (x_m2 (o2_eq (e' := eI) (by decide)) (x_v eI way rfl) (x_k eI (9) rfl))) (b_retI (eg_r (x_m2 o2_ixL (x_lst (f := (eL true eS)) (fun t : Ts × Ts × Ts × Unit => ([t.1, t.2.1, t.2.2.1] : (List Ts))) (ea_cons (x_k eS ['\n'] rfl) (ea_cons (x_k eS ['\t'] rfl) (ea_cons (x_k eS ['\n'] rfl) ea_nil))) (fun _ => rfl) (fun _ => (by decide : 3 ≤ LIM))) (x_modP 3 (by decide) (x_v eI pick rfl) (x_k eI (3) rfl)))) (fun u30_ => ⟨rfl, ⟨.inl rfl, rfl⟩⟩)) (b_ifT (et_b (x_m2 (o2_eq (e' := eI) (by decide)) (x_v eI way rfl) (x_k eI (10) rfl))) (b_ret (k := fun (u31_ : Ts) => u31_) (eg_r (x_v eS colour rfl)) (fun u31_ => ⟨rfl, ⟨.inl rfl, rfl⟩⟩)) (b_ifT (et_b (x_m2 (o2_eq (e' := eI) (by decide)) (x_v eI way rfl) (x_k eI (11) rfl))) (b_retI (eg_f (x_sl (x_k eS ['o', 'u', 't', 'w', 'e', 'a', 'v', 'e', 's'] rfl) eo_no (eo_so (x_m2 o2_addI (x_k eI (2) rfl) (x_modP 8 (by decide) (x_v eI pick rfl) (x_k eI (8) rfl)))))) (fun u32_ => ⟨rfl, ⟨.inl rfl, rfl⟩⟩)) (b_retI (eg_r (x_m2 o2_ixL (x_v (eL true eS) u21_ rfl) (x_modP 18 (by decide) (x_v eI pick rfl) (x_k eI (18) rfl)))) (fun u33_ => ⟨.inl rfl, rfl⟩))))))))))))))))))))))
  refine run_T (n := 5) (kp := [true]) (m := m_lw_token) (ds := [eI cell_here]) rfl hb ?_
  first
    | (simp -implicitDefEqProofs only [t_lw_token, Option.bind_assoc, Option.bind_some, bind_same] at h ⊢; exact h)
    | (simp -implicitDefEqProofs only [t_lw_token, Option.bind_assoc, Option.bind_some, bind_same] at h; exact h)
    | exact h
    | (simp [t_lw_token] at h ⊢; exact h)
theorem T_lw_token : Tf (τ := Int × Unit) (fun t => [eI t.1]) eS F_lw_token (fun t => t_lw_token t.1) := fun t r h => ⟨_, L_lw_token t.1 h⟩
theorem L_lw_item  (text : Ts) (at_ : Int) {r : (Im × Int)} (h : t_lw_item text at_ = some r) : F_lw_item [eS text, eI at_] = some ((e2 eIm eI) r, (fun _ => [eS text, eI at_]) r) := by
  have hb : Bk (Qf (e2 eIm eI) [true, true] (fun _ => [eS text, eI at_])) m_lw_item [eS text, eI at_, .gone, .gone] _ := (b_asg (fun (colours : Ts) => [eS text, eI at_, eS colours, .gone]) (eg_f (x_k eS ['a', 'b', 'c', 'd', 'e', 'f', 'g', 'h', '.'] rfl)) (fun _ => rfl) (fun (colours : Ts) => (b_asg (fun (here : Ts) => [eS text, eI at_, eS colours, eS here]) (eg_f (x_sl (x_v eS text rfl) (eo_so (x_v eI at_ rfl)) (eo_so (x_m2 o2_addI (x_v eI at_ rfl) (x_k eI (4) rfl))))) (fun _ => rfl) (fun (here : Ts) => (b_ifT (et_b (x_m2 (o2_eq (e' := eS) (by decide)) (x_m2 o2_ixS (x_v eS here rfl) (x_k eI (0) rfl)) (x_k eS ['\n'] rfl))) (b_ret (k := fun (u2_ : (Im × Int)) => u2_) (eg_f (x_tup (f := (e2 eIm eI)) (fun t : Im × Int × Unit => (t.1, t.2.1)) (ea_cons (x_tup (f := eIm) (fun t : Int × Ts × Ts × Unit => (t.1, t.2.1, t.2.2.1)) (ea_cons (x_v eI at_ rfl) (ea_cons (x_k eS ['e', 'n', 'd'] rfl) (ea_cons (x_k eS ([] : Ts) rfl) ea_nil))) (fun _ => rfl) (fun _ => (by decide : 3 ≤ LIM))) (ea_cons (x_k eI (1) rfl) ea_nil)) (fun _ => rfl) (fun _ => (by decide : 2 ≤ LIM)))) (fun u2_ => ⟨rfl, ⟨.inl rfl, rfl⟩⟩)) (b_ifT (et_b (x_m2 (o2_eq (e' := eS) (by decide)) (x_m2 o2_ixS (x_v eS here rfl) (x_k eI (0) rfl)) (x_k eS ['\t'] rfl))) (b_ret (k := fun (u4_ : (Im × Int)) => u4_) (eg_f (x_tup (f := (e2 eIm eI)) (fun t : Im × Int × Unit => (t.1, t.2.1)) (ea_cons (x_tup (f := eIm) (fun t : Int × Ts × Ts × Unit => (t.1, t.2.1, t.2.2.1)) (ea_cons (x_v eI at_ rfl) (ea_cons (x_k eS ['a', 'n', 'e', 'w'] rfl) (ea_cons (x_k eS ([] : Ts) rfl) ea_nil))) (fun _ => rfl) (fun _ => (by decide : 3 ≤ LIM))) (ea_cons (x_k eI (1) rfl) ea_nil)) (fun _ => rfl) (fun _ => (by decide : 2 ≤ LIM)))) (fun u4_ => ⟨rfl, ⟨.inl rfl, rfl⟩⟩)) (b_ifT (et_b (x_m2 (o2_eq (e' := eS) (by decide)) (x_sl (x_v eS here rfl) eo_no (eo_so (x_k eI (2) rfl))) (x_k eS ['[', ']'] rfl))) (b_ret (k := fun (u6_ : (Im × Int)) => u6_) (eg_f (x_tup (f := (e2 eIm eI)) (fun t : Im × Int × Unit => (t.1, t.2.1)) (ea_cons (x_tup (f := eIm) (fun t : Int × Ts × Ts × Unit => (t.1, t.2.1, t.2.2.1)) (ea_cons (x_v eI at_ rfl) (ea_cons (x_k eS ['p', 'l', 'a', 'i', 'n'] rfl) (ea_cons (x_k eS ([] : Ts) rfl) ea_nil))) (fun _ => rfl) (fun _ => (by decide : 3 ≤ LIM))) (ea_cons (x_k eI (2) rfl) ea_nil)) (fun _ => rfl) (fun _ => (by decide : 2 ≤ LIM)))) (fun u6_ => ⟨rfl, ⟨.inl rfl, rfl⟩⟩)) (b_ifT (et_b (x_m2 (o2_eq (e' := eS) (by decide)) (x_sl (x_v eS here rfl) eo_no (eo_so (x_k eI (2) rfl))) (x_k eS ['[', '['] rfl))) (b_ret (k := fun (u8_ : (Im × Int)) => u8_) (eg_f (x_tup (f := (e2 eIm eI)) (fun t : Im × Int × Unit => (t.1, t.2.1)) (ea_cons (x_tup (f := eIm) (fun t : Int × Ts × Ts × Unit => (t.1, t.2.1, t.2.2.1)) (ea_cons (x_v eI at_ rfl) (ea_cons (x_k eS ['s', 'i', 'g', 'n'] rfl) (ea_cons (x_k eS ['['] rfl) ea_nil))) (fun _ => rfl) (fun _ => (by decide : 3 ≤ LIM))) (ea_cons (x_k eI (2) rfl) ea_nil)) (fun _ => rfl) (fun _ => (by decide : 2 ≤ LIM)))) (fun u8_ => ⟨rfl, ⟨.inl rfl, rfl⟩⟩)) (b_ifT (et_and (et_b (x_m2 o2_gtI (x_a1 o1_lenS (x_v eS here rfl)) (x_k eI (2) rfl))) (et_and (et_b (x_m2 (o2_eq (e' := eS) (by decide)) (x_m2 o2_ixS (x_v eS here rfl) (x_k eI (0) rfl)) (x_k eS ['['] rfl))) (et_and (et_b (x_m2 o2_in (x_m2 o2_ixS (x_v eS here rfl) (x_k eI (1) rfl)) (x_v eS colours rfl))) (et_b (x_m2 (o2_eq (e' := eS) (by decide)) (x_m2 o2_ixS (x_v eS here rfl) (x_k eI (2) rfl)) (x_k eS [']'] rfl)))))) (b_retI (eg_f (x_tup (f := (e2 eIm eI)) (fun t : Im × Int × Unit => (t.1, t.2.1)) (ea_cons (x_tup (f := eIm) (fun t : Int × Ts × Ts × Unit => (t.1, t.2.1, t.2.2.1)) (ea_cons (x_v eI at_ rfl) (ea_cons (x_k eS ['i', 'n', 'k'] rfl) (ea_cons (x_m2 o2_ixS (x_v eS here rfl) (x_k eI (1) rfl)) ea_nil))) (fun _ => rfl) (fun _ => (by decide : 3 ≤ LIM))) (ea_cons (x_k eI (3) rfl) ea_nil)) (fun _ => rfl) (fun _ => (by decide : 2 ≤ LIM)))) (fun u18_ => ⟨rfl, ⟨.inl rfl, rfl⟩⟩)) (b_ifT (et_and (et_b (x_m2 (o2_eq (e' := eI) (by decide)) (x_a1 o1_lenS (x_v eS here rfl)) (x_k eI (4) rfl))) (et_and (et_b (x_m2 (o2_eq (e' := eS) (by decide)) (x_sl (x_v eS here rfl) eo_no (eo_so (x_k eI (2) rfl))) (x_k eS ['[', '/'] rfl))) (et_and (et_b (x_m2 o2_in (x_m2 o2_ixS (x_v eS here rfl) (x_k eI (2) rfl)) (x_v eS colours rfl))) (et_b (x_m2 (o2_eq (e' := eS) (by decide)) (x_m2 o2_ixS (x_v eS here rfl) (x_k eI (3) rfl)) (x_k eS [']'] rfl)))))) (b_retI (eg_f (x_tup (f := (e2 eIm eI)) (fun t : Im × Int × Unit => (t.1, t.2.1)) (ea_cons (x_tup (f := eIm) (fun t : Int × Ts × Ts × Unit => (t.1, t.2.1, t.2.2.1)) (ea_cons (x_v eI at_ rfl) (ea_cons (x_k eS ['g', 'r', 'o', 'u', 'n', 'd'] rfl) (ea_cons (x_m2 o2_ixS (x_v eS here rfl) (x_k eI (2) rfl)) ea_nil))) (fun _ => rfl) (fun _ => (by decide : 3 ≤ LIM))) (ea_cons (x_k eI (4) rfl) ea_nil)) (fun _ => rfl) (fun _ => (by decide : 2 ≤ LIM)))) (fun u28_ => ⟨rfl, ⟨.inl rfl, rfl⟩⟩)) (b_retI (eg_f (x_tup (f := (e2 eIm eI)) (fun t : Im × Int × Unit => (t.1, t.2.1)) (ea_cons (x_tup (f := eIm) (fun t : Int × Ts × Ts × Unit => (t.1, t.2.1, t.2.2.1)) (ea_cons (x_v eI at_ rfl) (ea_cons (x_k eS ['s', 'i', 'g', 'n'] rfl) (ea_cons (x_m2 o2_ixS (x_v eS here rfl) (x_k eI (0) rfl)) ea_nil))) (fun _ => rfl) (fun _ => (by decide : 3 ≤ LIM))) (ea_cons (x_k eI (1) rfl) ea_nil)) (fun _ => rfl) (fun _ => (by decide : 2 ≤ LIM)))) (fun u31_ => ⟨.inl rfl, rfl⟩))))))))))))
  refine run_T (n := 4) (kp := [true, true]) (m := m_lw_item) (ds := [eS text, eI at_]) rfl hb ?_
  first
    | (simp -implicitDefEqProofs only [t_lw_item, Option.bind_assoc, Option.bind_some, bind_same] at h ⊢; exact h)
    | (simp -implicitDefEqProofs only [t_lw_item, Option.bind_assoc, Option.bind_some, bind_same] at h; exact h)
    | exact h
    | (simp [t_lw_item] at h ⊢; exact h)
theorem T_lw_item : Tf (τ := Ts × Int × Unit) (fun t => [eS t.1, eI t.2.1]) (e2 eIm eI) F_lw_item (fun t => t_lw_item t.1 t.2.1) := fun t r h => ⟨_, L_lw_item t.1 t.2.1 h⟩
theorem L_lw_items  (text : Ts) {r : (List Im)} (h : t_lw_items text = some r) : F_lw_items [eS text] = some ((eL true eIm) r, (fun _ => [eS text]) r) := by
  have hb : Bk (Qf (eL true eIm) [true] (fun _ => [eS text])) m_lw_items [eS text, .gone, .gone, .gone, .gone] _ := (b_asg (fun (items_here : (List Im)) => [eS text, (eL true eIm) items_here, .gone, .gone, .gone]) (eg_f (x_lst (f := (eL true eIm)) (fun t : Unit => ([] : (List Im))) ea_nil (fun _ => rfl) (fun _ => (by decide : 0 ≤ LIM)))) (fun _ => rfl) (fun (items_here : (List Im)) => (b_asg (fun (at_ : Int) => [eS text, (eL true eIm) items_here, eI at_, .gone, .gone]) (eg_f (x_k eI (0) rfl)) (fun _ => rfl) (fun (at_ : Int) => (b_while (fun (s1_ : ((List Im) × Int)) => [eS text, (eL true eIm) s1_.1, eI s1_.2, .gone, .gone]) (items_here, at_) rfl (fun (s1_ : ((List Im) × Int)) => (et_b (x_m2 o2_ltI (x_v eI s1_.2 rfl) (x_a1 o1_lenS (x_v eS text rfl))))) (fun (s1_ : ((List Im) × Int)) => (b_asg (fun (u3_ : (Im × Int)) => [eS text, (eL true eIm) s1_.1, eI s1_.2, eIm u3_.1, eI u3_.2]) (eg_f (x_call T_lw_item (ea_cons (x_v eS text rfl) (ea_cons (x_v eI s1_.2 rfl) ea_nil)))) (fun _ => rfl) (fun (u3_ : (Im × Int)) => (b_expr (eg_app (a := eIm) (xs := s1_.1) (env := fun r_ => [eS text, (eL true eIm) r_, eI s1_.2, eIm u3_.1, eI u3_.2]) rfl (x_fr (x_v eIm u3_.1 rfl)) (fun _ => rfl)) (fun (u4_ : (List Im)) => (b_asg (fun (at_ : Int) => [eS text, (eL true eIm) u4_, eI at_, eIm u3_.1, eI u3_.2]) (eg_f (x_m2 o2_addI (x_v eI s1_.2 rfl) (x_v eI u3_.2 rfl))) (fun _ => rfl) (fun (at_ : Int) => (b_nil (t := (u4_, at_)) ⟨rfl, rfl⟩)))))))) (fun (s1_ : ((List Im) × Int)) => (b_ret (k := fun (u5_ : (List Im)) => u5_) (eg_mv (eL true eIm) s1_.1 [eS text, .gone, eI s1_.2, .gone, .gone] rfl rfl) (fun u5_ => ⟨.inl rfl, rfl⟩))))))))
  refine run_T (n := 5) (kp := [true]) (m := m_lw_items) (ds := [eS text]) rfl hb ?_
  first
    | (simp -implicitDefEqProofs only [t_lw_items, Option.bind_assoc, Option.bind_some, bind_same] at h ⊢; exact h)
    | (simp -implicitDefEqProofs only [t_lw_items, Option.bind_assoc, Option.bind_some, bind_same] at h; exact h)
    | exact h
    | (simp [t_lw_items] at h ⊢; exact h)
theorem T_lw_items : Tf (τ := Ts × Unit) (fun t => [eS t.1]) (eL true eIm) F_lw_items (fun t => t_lw_items t.1) := fun t r h => ⟨_, L_lw_items t.1 h⟩
theorem L_lw_whole  (found : An) {r : Bool} (h : t_lw_whole_c found = some r) : F_lw_whole [eA found] = some (eB r, (fun _ => [eA found]) r) := by
  have hb : Bk (Qf eB [true] (fun _ => [eA found])) m_lw_whole [eA found] _ := (b_retI (eg_f (x_and (x_isiA (x_v eA found rfl)) (x_not (x_isiA (x_v eA found rfl))))) (fun u3_ => ⟨.inl rfl, rfl⟩))
  refine run_T (n := 1) (kp := [true]) (m := m_lw_whole) (ds := [eA found]) rfl hb ?_
  first
    | (simp -implicitDefEqProofs only [t_lw_whole_c, Option.bind_assoc, Option.bind_some, bind_same] at h ⊢; exact h)
    | (simp -implicitDefEqProofs only [t_lw_whole_c, Option.bind_assoc, Option.bind_some, bind_same] at h; exact h)
    | exact h
    | (simp [t_lw_whole_c] at h ⊢; exact h)
theorem T_lw_whole : Tf (τ := An × Unit) (fun t => [eA t.1]) eB F_lw_whole (fun t => t_lw_whole_c t.1) := fun t r h => ⟨_, L_lw_whole t.1 h⟩
theorem L_lw_same  (found : (List Im)) (due : (List Im)) {r : Bool} (h : t_lw_same_c found due = some r) : F_lw_same [(eL false eIm) found, (eL false eIm) due] = some (eB r, (fun _ => [(eL false eIm) found, (eL false eIm) due]) r) := by
  have hb : Bk (Qf eB [true, true] (fun _ => [(eL false eIm) found, (eL false eIm) due])) m_lw_same [(eL false eIm) found, (eL false eIm) due, .gone] _ := (b_ifT (et_orT (et_not (et_tru (x_isK kit_list_list (x_v (eL false eIm) found rfl)))) (et_b (x_m2 (o2_ne (e' := eI) (by decide)) (x_a1 o1_lenL (x_v (eL false eIm) found rfl)) (x_a1 o1_lenL (x_v (eL false eIm) due rfl))))) (b_ret (k := fun (u1_ : Bool) => u1_) (eg_f (x_k eB false rfl)) (fun u1_ => ⟨rfl, ⟨.inl rfl, rfl⟩⟩)) (b_forR (fun (s2_ : Unit) => [(eL false eIm) found, (eL false eIm) due, .gone]) () (fun (s2_ : Unit) (item_here : Im) => [(eL false eIm) found, (eL false eIm) due, eIm item_here]) (ei_it (x_v (eL false eIm) found rfl)) rfl (fun _ _ => rfl) (fun (s2_ : Unit) (item_here : Im) => (b_ifT (et_or (et_not (et_tru (x_isK kit_tuple_tuple (x_v eIm item_here rfl)))) (et_or (et_b (x_m2 (o2_ne (e' := eI) (by decide)) (x_a1 (o1_lenK (n := 3) (fun _ => rfl)) (x_v eIm item_here rfl)) (x_k eI (3) rfl))) (et_not (et_tru (x_call T_lw_whole (ea_cons (x_map (e := eI) (f := eA) (an eI) (fun _ => rfl) (x_pr (f := eI) 0 (fun t : Im => t.1) (fun _ => rfl) (x_v eIm item_here rfl))) ea_nil)))))) (b_ret (k := fun (u4_ : Bool) => (.rt u4_ : (St Unit Bool))) (eg_f (x_k eB false rfl)) (fun u4_ => ⟨rfl, ⟨rfl, ⟨.inl rfl, rfl⟩⟩⟩)) (b_ifT (et_orT (et_not (et_tru (x_isK kit_str_str (x_pr (f := eS) 1 (fun t : Im => t.2.1) (fun _ => rfl) (x_v eIm item_here rfl))))) (et_not (et_tru (x_isK kit_str_str (x_pr (f := eS) 2 (fun t : Im => t.2.2) (fun _ => rfl) (x_v eIm item_here rfl)))))) (b_ret (k := fun (u5_ : Bool) => (.rt u5_ : (St Unit Bool))) (eg_f (x_k eB false rfl)) (fun u5_ => ⟨rfl, ⟨rfl, ⟨.inl rfl, rfl⟩⟩⟩)) (b_nil (t := (.nx () : (St Unit Bool))) ⟨rfl, rfl⟩)))) (fun (s2_ : Unit) => (b_ret (k := fun (u7_ : Bool) => u7_) (eg_f (x_m2 (o2_eq (e' := (eL false eIm)) (by decide)) (x_v (eL false eIm) found rfl) (x_v (eL false eIm) due rfl))) (fun u7_ => ⟨.inl rfl, rfl⟩)))))
  refine run_T (n := 3) (kp := [true, true]) (m := m_lw_same) (ds := [(eL false eIm) found, (eL false eIm) due]) rfl hb ?_
  first
    | (simp -implicitDefEqProofs only [t_lw_same_c, Option.bind_assoc, Option.bind_some, bind_same] at h ⊢; exact h)
    | (simp -implicitDefEqProofs only [t_lw_same_c, Option.bind_assoc, Option.bind_some, bind_same] at h; exact h)
    | exact h
    | (simp [t_lw_same_c] at h ⊢; exact h)
theorem T_lw_same : Tf (τ := (List Im) × (List Im) × Unit) (fun t => [(eL false eIm) t.1, (eL false eIm) t.2.1]) eB F_lw_same (fun t => t_lw_same_c t.1 t.2.1) := fun t r h => ⟨_, L_lw_same t.1 t.2.1 h⟩
theorem L_lw_did  (way : Int) (reader : OReader) (thing : An) {r : ((Exn ⊕ An) × OReader)} (h : t_lw_did way reader thing = some r) : F_lw_did [eI way, (e_Reader true) reader, eA thing] = some (exR eA ((fun r : OReader => [eI way, (e_Reader true) r, eA thing]) r.2) r.1) := by
  have hb : Bk (QfXS eA [true, true, true] (fun r : OReader => [eI way, (e_Reader true) r, eA thing])) m_lw_did [eI way, (e_Reader true) reader, eA thing] _ := (b_ifT (et_b (x_m2 (o2_eq (e' := eI) (by decide)) (x_v eI way rfl) (x_k eI (0) rfl))) (b_retE2 (k := fun (r1_ : (Exn ⊕ Unit)) (y2_ : An) => ((.inr y2_ : Exn ⊕ An), reader)) (f := (fun (r1_ : (Exn ⊕ Unit)) (x3_ : Exn) => ((.inl x3_ : Exn ⊕ An), reader))) (eg_mapX (er := eU) (er' := eA) (an eU) (fun _ => rfl) (x_callX T_checked__X1 (ea_cons (x_v eA thing rfl) ea_nil)).eg) (fun (r1_ : (Exn ⊕ Unit)) (y2_ : An) => ⟨rfl, ⟨.inl rfl, rfl⟩⟩) (fun (r1_ : (Exn ⊕ Unit)) (x3_ : Exn) => ⟨rfl, ⟨rfl, rfl⟩⟩)) (b_ifT (et_b (x_m2 (o2_eq (e' := eI) (by decide)) (x_v eI way rfl) (x_k eI (1) rfl))) (b_retE2 (k := fun (r4_ : (Exn ⊕ (List Im))) (y5_ : An) => ((.inr y5_ : Exn ⊕ An), reader)) (f := (fun (r4_ : (Exn ⊕ (List Im))) (x6_ : Exn) => ((.inl x6_ : Exn ⊕ An), reader))) (eg_mapX (er := (eL false eIm)) (er' := eA) (an (eL false eIm)) (fun _ => rfl) (x_callX T_items_of__X1 (ea_cons (x_v eA thing rfl) ea_nil)).eg) (fun (r4_ : (Exn ⊕ (List Im))) (y5_ : An) => ⟨rfl, ⟨.inl rfl, rfl⟩⟩) (fun (r4_ : (Exn ⊕ (List Im))) (x6_ : Exn) => ⟨rfl, ⟨rfl, rfl⟩⟩)) (b_retE2 (k := fun (r8_ : ((Exn ⊕ (List Im)) × OReader)) (y9_ : An) => ((.inr y9_ : Exn ⊕ An), r8_.2)) (f := (fun (r8_ : ((Exn ⊕ (List Im)) × OReader)) (x10_ : Exn) => ((.inl x10_ : Exn ⊕ An), r8_.2))) (eg_mapX (er := (eL false eIm)) (er' := eA) (an (eL false eIm)) (fun _ => rfl) (eg_coldX (er' := (eL false eIm)) (eg_methX (x := reader) (env := fun (r7_ : ((Exn ⊕ (List Im)) × OReader)) => [eI way, (e_Reader true) r7_.2, eA thing]) T_Reader_feed__X1 rfl rfl (ea_cons (x_v eA thing rfl) ea_nil) (fun _ => rfl)))) (fun (r8_ : ((Exn ⊕ (List Im)) × OReader)) (y9_ : An) => ⟨.inl rfl, rfl⟩) (fun (r8_ : ((Exn ⊕ (List Im)) × OReader)) (x10_ : Exn) => ⟨rfl, rfl⟩))))
  refine run_TXS (n := 3) (kp := [true, true, true]) (m := m_lw_did) (ds := [eI way, (e_Reader true) reader, eA thing]) rfl hb ?_
  first
    | (simp -implicitDefEqProofs only [t_lw_did, Option.bind_assoc, Option.bind_some, bind_same] at h ⊢; exact h)
    | (simp -implicitDefEqProofs only [t_lw_did, Option.bind_assoc, Option.bind_some, bind_same] at h; exact h)
    | exact h
    | (simp [t_lw_did] at h ⊢; exact h)
theorem L_lw_refused  (way : Int) (reader : OReader) (thing : An) (at_ : Int) {r : (Bool × OReader)} (h : t_lw_refused way reader thing at_ = some r) : F_lw_refused [eI way, (e_Reader true) reader, eA thing, eI at_] = some ((fun r : (Bool × OReader) => eB r.1) r, (fun r : (Bool × OReader) => [eI way, (e_Reader true) r.2, eA thing, eI at_]) r) := by
  have hb : Bk (Qf (fun r : (Bool × OReader) => eB r.1) [true, true, true, true] (fun r : (Bool × OReader) => [eI way, (e_Reader true) r.2, eA thing, eI at_])) m_lw_refused [eI way, (e_Reader true) reader, eA thing, eI at_, .gone] _ := (b_seqQ (fun (s1_ : OReader) => [eI way, (e_Reader true) s1_, eA thing, eI at_, .gone]) (b_tryB (fun e_ => okL xL_OutError e_.1 (exF e_)) (fun (s7_ : OReader) => [eI way, (e_Reader true) s7_, eA thing, eI at_, .gone]) (b_exprE (f := (fun (r9_ : ((Exn ⊕ An) × OReader)) (x11_ : Exn) => (.inl (x11_, r9_.2) : ((Exn × OReader) ⊕ (OReader ⊕ (Bool × OReader)))))) (eg_lendsX (env := fun (r8_ : ((Exn ⊕ An) × OReader)) => [eI way, (e_Reader true) r8_.2, eA thing, eI at_, .gone]) (f := fun t : Int × An × Unit => t_lw_did t.1 reader t.2.1) (eas_v (x_v eI way rfl) (eas_s rfl rfl (eas_v (x_v eA thing rfl) eas_nil))) (fun t r h => L_lw_did t.1 reader t.2.1 h) (by decide) (fun _ _ => rfl)) (fun (r9_ : ((Exn ⊕ An) × OReader)) (y10_ : An) => (b_nil (t := (.inr (.inl r9_.2 : (OReader ⊕ (Bool × OReader))) : ((Exn × OReader) ⊕ (OReader ⊕ (Bool × OReader))))) ⟨rfl, ⟨rfl, rfl⟩⟩)) (fun (r9_ : ((Exn ⊕ An) × OReader)) (x11_ : Exn) => ⟨rfl, rfl⟩)) (fun _ h => h) (fun _ => rfl) (fun _ => rfl) (fun (s7_ : OReader) (e12_ : Exn) => (b_ifT (et_tru (x_k eB (([5, 9, 3, 2, 8, 7, 10, 6, 4] : List Nat).any (subX e12_.1)) rfl)) (b_ret (k := fun (u13_ : Bool) => (.inr (u13_, s7_) : (OReader ⊕ (Bool × OReader)))) (eg_f (x_k eB false rfl)) (fun u13_ => ⟨rfl, ⟨rfl, ⟨rfl, ⟨.inl rfl, rfl⟩⟩⟩⟩)) (b_ret (k := fun (u17_ : Bool) => (.inr (u17_, s7_) : (OReader ⊕ (Bool × OReader)))) (eg_f (x_and (x_k eB (subX e12_.1 1) rfl) (x_and (x_k eB true rfl) (x_and (x_call T_lw_whole (ea_cons x_fldX ea_nil)) (x_m2 o2_eqA x_fldX (x_map (e := eI) (f := eA) (an eI) (fun _ => rfl) (x_v eI at_ rfl))))))) (fun u17_ => ⟨rfl, ⟨rfl, ⟨.inl rfl, rfl⟩⟩⟩))))) (fun (s1_ : OReader) => (b_ret (k := fun (u18_ : Bool) => (u18_, s1_)) (eg_f (x_k eB false rfl)) (fun u18_ => ⟨.inl rfl, rfl⟩))))
  refine run_T (n := 5) (kp := [true, true, true, true]) (m := m_lw_refused) (ds := [eI way, (e_Reader true) reader, eA thing, eI at_]) rfl hb ?_
  first
    | (simp -implicitDefEqProofs only [t_lw_refused, Option.bind_assoc, Option.bind_some, bind_same] at h ⊢; exact h)
    | (simp -implicitDefEqProofs only [t_lw_refused, Option.bind_assoc, Option.bind_some, bind_same] at h; exact h)
    | exact h
    | (simp [t_lw_refused] at h ⊢; exact h)
theorem T_lw_refused : Tl (τ1 := Int × Unit) (τ2 := An × Int × Unit) (fun t => [eI t.1]) (e_Reader true) (fun t => [eA t.1, eI t.2.1]) (fun r : (Bool × OReader) => eB r.1) (fun r => r.2) F_lw_refused (fun t x u => t_lw_refused t.1 x u.1 u.2.1) := fun t x u r h => ⟨_, L_lw_refused t.1 x u.1 u.2.1 h, rfl⟩
theorem L_lw_by_hand  (number : Int) {r : Bool} (h : t_lw_by_hand number = some r) : F_lw_by_hand [eI number] = some (eB r, (fun _ => [eI number]) r) := by
  have hb : Bk (Qf eB [true] (fun _ => [eI number])) m_lw_by_hand [eI number, .gone, .gone, .gone, .gone] _ := (b_asg (fun (some_ : (List Int)) => [eI number, (eL false eI) some_, .gone, .gone, .gone]) (eg_f (x_cold (x_lst (f := (eL true eI)) (fun t : Int × Int × Int × Unit => ([t.1, t.2.1, t.2.2.1] : (List Int))) (ea_cons (x_v eI number rfl) (ea_cons (x_m2 o2_addI (x_v eI number rfl) (x_k eI (1) rfl)) (ea_cons (x_m2 o2_addI (x_v eI number rfl) (x_k eI (2) rfl)) ea_nil))) (fun _ => rfl) (fun _ => (by decide : 3 ≤ LIM))))) (fun _ => rfl) (fun (some_ : (List Int)) => (b_asg (fun (names : (List Ts)) => [eI number, (eL false eI) some_, (eL false eS) names, .gone, .gone]) (eg_f (x_cold (x_lst (f := (eL true eS)) (fun t : Ts × Ts × Ts × Unit => ([t.1, t.2.1, t.2.2.1] : (List Ts))) (ea_cons (x_k eS ['a'] rfl) (ea_cons (x_k eS ['b'] rfl) (ea_cons (x_k eS ['c'] rfl) ea_nil))) (fun _ => rfl) (fun _ => (by decide : 3 ≤ LIM))))) (fun _ => rfl) (fun (names : (List Ts)) => (b_errs (ρ2 := [eI number, (eL false eI) some_, (eL false eS) names, .gone, .gone]) rfl (b_ret (k := fun (u2_ : Bool) => u2_) (eg_f (x_andT (x_m2 (o2_eq (e' := (eL false eI)) (by decide)) (x_v (eL false eI) some_ rfl) (x_lst (f := (eL true eI)) (fun t : Int × Int × Int × Unit => ([t.1, t.2.1, t.2.2.1] : (List Int))) (ea_cons (x_v eI number rfl) (ea_cons (x_m2 o2_addI (x_v eI number rfl) (x_k eI (1) rfl)) (ea_cons (x_m2 o2_addI (x_v eI number rfl) (x_k eI (2) rfl)) ea_nil))) (fun _ => rfl) (fun _ => (by decide : 3 ≤ LIM)))) (x_m2 (o2_eq (e' := (eL false eS)) (by decide)) (x_v (eL false eS) names rfl) (x_lst (f := (eL true eS)) (fun t : Ts × Ts × Ts × Unit => ([t.1, t.2.1, t.2.2.1] : (List Ts))) (ea_cons (x_k eS ['a'] rfl) (ea_cons (x_k eS ['b'] rfl) (ea_cons (x_k eS ['c'] rfl) ea_nil))) (fun _ => rfl) (fun _ => (by decide : 3 ≤ LIM)))))) (fun u2_ => ⟨.inl rfl, rfl⟩)))))))
  refine run_T (n := 5) (kp := [true]) (m := m_lw_by_hand) (ds := [eI number]) rfl hb ?_
  first
    | (simp -implicitDefEqProofs only [t_lw_by_hand, Option.bind_assoc, Option.bind_some, bind_same] at h ⊢; exact h)
    | (simp -implicitDefEqProofs only [t_lw_by_hand, Option.bind_assoc, Option.bind_some, bind_same] at h; exact h)
    | exact h
    | (simp [t_lw_by_hand] at h ⊢; exact h)
theorem T_lw_by_hand : Tf (τ := Int × Unit) (fun t => [eI t.1]) eB F_lw_by_hand (fun t => t_lw_by_hand t.1) := fun t r h => ⟨_, L_lw_by_hand t.1 h⟩
theorem L_lw_spoilt  (text : Ts) (cell_here : Int) {r : Ts} (h : t_lw_spoilt text cell_here = some r) : F_lw_spoilt [eS text, eI cell_here] = some (eS r, (fun _ => [eS text, eI cell_here]) r) := by
  have hb : Bk (Qf eS [true, true] (fun _ => [eS text, eI cell_here])) m_lw_spoilt [eS text, eI cell_here, .gone, .gone, .gone] _ := (b_asg (fun (at_ : Int) => [eS text, eI cell_here, eI at_, .gone, .gone]) (eg_f (x_m2 o2_mod (x_call T_lw_mix (ea_cons (x_v eI cell_here rfl) (ea_cons (x_k eI (11) rfl) ea_nil))) (x_m2 o2_addI (x_a1 o1_lenS (x_v eS text rfl)) (x_k eI (1) rfl)))) (fun _ => rfl) (fun (at_ : Int) => (b_join (fun (s6_ : Int) => [eS text, eI cell_here, eI s6_, .gone, .gone]) (et_b (x_m2 (o2_eq (e' := eI) (by decide)) (x_modP 5 (by decide) (x_call T_lw_mix (ea_cons (x_v eI cell_here rfl) (ea_cons (x_k eI (12) rfl) ea_nil))) (x_k eI (5) rfl)) (x_k eI (0) rfl))) (b_asg (fun (at__2 : Int) => [eS text, eI cell_here, eI at__2, .gone, .gone]) (eg_r (x_m2 o2_ixL (x_lst (f := (eL true eI)) (fun t : Int × Int × Unit => ([t.1, t.2.1] : (List Int))) (ea_cons (x_k eI (0) rfl) (ea_cons (x_a1 o1_lenS (x_v eS text rfl)) ea_nil)) (fun _ => rfl) (fun _ => (by decide : 2 ≤ LIM))) (x_modP 2 (by decide) (x_call T_lw_mix (ea_cons (x_v eI cell_here rfl) (ea_cons (x_k eI (13) rfl) ea_nil))) (x_k eI (2) rfl)))) (fun _ => rfl) (fun (at__2 : Int) => (b_nil (t := at__2) ⟨rfl, rfl⟩))) (b_nil (t := at_) ⟨rfl, rfl⟩) (fun (s6_ : Int) => (b_asg (fun (bad : Ts) => [eS text, eI cell_here, eI s6_, eS bad, .gone]) (eg_f (x_m2 o2_catS (x_m2 o2_catS (x_sl (x_v eS text rfl) eo_no (eo_so (x_v eI s6_ rfl))) (x_k eS ['~'] rfl)) (x_sl (x_v eS text rfl) (eo_so (x_v eI s6_ rfl)) eo_no))) (fun _ => rfl) (fun (bad : Ts) => (b_asg (fun (other : Int) => [eS text, eI cell_here, eI s6_, eS bad, eI other]) (eg_f (x_m2 o2_mod (x_call T_lw_mix (ea_cons (x_v eI cell_here rfl) (ea_cons (x_k eI (14) rfl) ea_nil))) (x_m2 o2_addI (x_a1 o1_lenS (x_v eS bad rfl)) (x_k eI (1) rfl)))) (fun _ => rfl) (fun (other : Int) => (b_join (fun (s19_ : Ts) => [eS text, eI cell_here, eI s6_, eS s19_, eI other]) (et_b (x_m2 (o2_eq (e' := eI) (by decide)) (x_modP 2 (by decide) (x_call T_lw_mix (ea_cons (x_v eI cell_here rfl) (ea_cons (x_k eI (15) rfl) ea_nil))) (x_k eI (2) rfl)) (x_k eI (0) rfl))) (b_asg (fun (bad_2 : Ts) => [eS text, eI cell_here, eI s6_, eS bad_2, eI other]) (eg_f (x_m2 o2_catS (x_m2 o2_catS (x_sl (x_v eS bad rfl) eo_no (eo_so (x_v eI other rfl))) (x_k eS ['~'] rfl)) (x_sl (x_v eS bad rfl) (eo_so (x_v eI other rfl)) eo_no))) (fun _ => rfl) (fun (bad_2 : Ts) => (b_nil (t := bad_2) ⟨rfl, rfl⟩))) (b_nil (t := bad) ⟨rfl, rfl⟩) (fun (s19_ : Ts) => (b_ret (k := fun (u23_ : Ts) => u23_) (eg_r (x_v eS s19_ rfl)) (fun u23_ => ⟨.inl rfl, rfl⟩))))))))))))
  refine run_T (n := 5) (kp := [true, true]) (m := m_lw_spoilt) (ds := [eS text, eI cell_here]) rfl hb ?_
  first
    | (simp -implicitDefEqProofs only [t_lw_spoilt, Option.bind_assoc, Option.bind_some, bind_same] at h ⊢; exact h)
    | (simp -implicitDefEqProofs only [t_lw_spoilt, Option.bind_assoc, Option.bind_some, bind_same] at h; exact h)
    | exact h
    | (simp [t_lw_spoilt] at h ⊢; exact h)
theorem T_lw_spoilt : Tf (τ := Ts × Int × Unit) (fun t => [eS t.1, eI t.2.1]) eS F_lw_spoilt (fun t => t_lw_spoilt t.1 t.2.1) := fun t r h => ⟨_, L_lw_spoilt t.1 t.2.1 h⟩
theorem B_law_b1 (script : (List Int)) (text : Ts) (cell_here : Int) (ahead : Ts) (u8_ : ((List Im) × OReader)) (held : Ts) (bad : Ts) (thing : An) (s21_ : OReader) (way : Int) : Bk (Qs [9] (fun (s21_ : OReader) => [eC script, eS text, eI cell_here, eS ahead, (e_Reader true) s21_, (eL false eIm) u8_.1, eS held, eS bad, eA thing, .gone]) (Qf eB [true] (fun _ => [eC script]))) m_law_b1 [eC script, eS text, eI cell_here, eS ahead, (e_Reader true) s21_, (eL false eIm) u8_.1, eS held, eS bad, eA thing, eI way] (t_law_b1 bad thing s21_ way) := by
  have hb : Bk (Qs [9] (fun (s21_ : OReader) => [eC script, eS text, eI cell_here, eS ahead, (e_Reader true) s21_, (eL false eIm) u8_.1, eS held, eS bad, eA thing, .gone]) (Qf eB [true] (fun _ => [eC script]))) m_law_b1 [eC script, eS text, eI cell_here, eS ahead, (e_Reader true) s21_, (eL false eIm) u8_.1, eS held, eS bad, eA thing, eI way] _ := (b_ifGT (etg_or (env := fun (s22_ : OReader) => [eC script, eS text, eI cell_here, eS ahead, (e_Reader true) s22_, (eL false eIm) u8_.1, eS held, eS bad, eA thing, eI way]) (etg_not (env := fun (s23_ : OReader) => [eC script, eS text, eI cell_here, eS ahead, (e_Reader true) s23_, (eL false eIm) u8_.1, eS held, eS bad, eA thing, eI way]) (etg_tru (env := fun (s24_ : OReader) => [eC script, eS text, eI cell_here, eS ahead, (e_Reader true) s24_, (eL false eIm) u8_.1, eS held, eS bad, eA thing, eI way]) (eg_st (fun (r28_ : (Bool × OReader)) => r28_.1) (fun (r28_ : (Bool × OReader)) => r28_.2) (fun (s27_ : OReader) => [eC script, eS text, eI cell_here, eS ahead, (e_Reader true) s27_, (eL false eIm) u8_.1, eS held, eS bad, eA thing, eI way]) (eg_lend (x := s21_) (env := fun r26_ => [eC script, eS text, eI cell_here, eS ahead, (e_Reader true) r26_.2, (eL false eIm) u8_.1, eS held, eS bad, eA thing, eI way]) T_lw_refused rfl (ea_cons (x_v eI way rfl) ea_nil) (ea_cons (x_map (e := eS) (f := eA) (an eS) (fun _ => rfl) (x_v eS bad rfl)) (ea_cons (x_m2 o2_sidx (x_v eS bad rfl) (x_k eS ['~'] rfl)) ea_nil)) (fun _ => rfl)) (fun _ => rfl) (fun _ => rfl)))) (fun (k30_ : OReader) => (etg_not (env := fun (s31_ : OReader) => [eC script, eS text, eI cell_here, eS ahead, (e_Reader true) s31_, (eL false eIm) u8_.1, eS held, eS bad, eA thing, eI way]) (etg_tru (env := fun (s32_ : OReader) => [eC script, eS text, eI cell_here, eS ahead, (e_Reader true) s32_, (eL false eIm) u8_.1, eS held, eS bad, eA thing, eI way]) (eg_st (fun (r35_ : (Bool × OReader)) => r35_.1) (fun (r35_ : (Bool × OReader)) => r35_.2) (fun (s34_ : OReader) => [eC script, eS text, eI cell_here, eS ahead, (e_Reader true) s34_, (eL false eIm) u8_.1, eS held, eS bad, eA thing, eI way]) (eg_lend (x := k30_) (env := fun r33_ => [eC script, eS text, eI cell_here, eS ahead, (e_Reader true) r33_.2, (eL false eIm) u8_.1, eS held, eS bad, eA thing, eI way]) T_lw_refused rfl (ea_cons (x_v eI way rfl) ea_nil) (ea_cons (x_v eA thing rfl) (ea_cons (x_k eI (0) rfl) ea_nil)) (fun _ => rfl)) (fun _ => rfl) (fun _ => rfl)))))) (fun (s38_ : OReader) => (b_ret (k := fun (u40_ : Bool) => (.rt u40_ : (St OReader Bool))) (eg_f (x_k eB false rfl)) (fun u40_ => ⟨rfl, ⟨rfl, ⟨.inl rfl, rfl⟩⟩⟩))) (fun (s38_ : OReader) => (b_nil (t := (.nx s38_ : (St OReader Bool))) ⟨rfl, rfl⟩)))
  refine bk_of hb fun t h => ?_
  first
    | (simp -implicitDefEqProofs only [t_law_b1, Option.bind_assoc, Option.bind_some, bind_same] at h ⊢; exact h)
    | (simp -implicitDefEqProofs only [t_law_b1, Option.bind_assoc, Option.bind_some, bind_same] at h; exact h)
    | exact h
    | (simp [t_law_b1] at h ⊢; exact h)
theorem L_law  (script : (List Int)) {r : Bool} (h : t_law script = some r) : F_law [eC script] = some (eB r, (fun _ => [eC script]) r) := by
  have hb : Bk (Qf eB [true] (fun _ => [eC script])) m_law [eC script, .gone, .gone, .gone, .gone, .gone, .gone, .gone, .gone, .gone] _ := (b_asg (fun (text : Ts) => [eC script, eS text, .gone, .gone, .gone, .gone, .gone, .gone, .gone, .gone]) (eg_f (x_m2 o2_join (x_k eS ([] : Ts) rfl) (x_comp (fun (cell_here : Int) => [eC script, .gone, eI cell_here, .gone, .gone, .gone, .gone, .gone, .gone, .gone]) (ei_itV (x_cold (x_sl (x_v eC script rfl) (eo_so (x_k eI (1) rfl)) (eo_so (x_k eI (41) rfl))))) (fun _ => rfl) (fun (cell_here : Int) => et_yes) (fun (cell_here : Int) => (x_call T_lw_token (ea_cons (x_v eI cell_here rfl) ea_nil)))))) (fun _ => rfl) (fun (text : Ts) => (b_asg (fun (cell_here : Int) => [eC script, eS text, eI cell_here, .gone, .gone, .gone, .gone, .gone, .gone, .gone]) (eg_f (x_call T_lw_cell (ea_cons (x_v eC script rfl) (ea_cons (x_k eI (0) rfl) ea_nil)))) (fun _ => rfl) (fun (cell_here : Int) => (b_asg (fun (ahead : Ts) => [eC script, eS text, eI cell_here, eS ahead, .gone, .gone, .gone, .gone, .gone, .gone]) (eg_f (x_m2 o2_catS (x_call T_lw_token (ea_cons (x_call T_lw_cell (ea_cons (x_v eC script rfl) (ea_cons (x_k eI (41) rfl) ea_nil))) ea_nil)) (x_call T_lw_token (ea_cons (x_call T_lw_cell (ea_cons (x_v eC script rfl) (ea_cons (x_k eI (42) rfl) ea_nil))) ea_nil)))) (fun _ => rfl) (fun (ahead : Ts) => (b_asg (fun (reader : OReader) => [eC script, eS text, eI cell_here, eS ahead, (e_Reader true) reader, .gone, .gone, .gone, .gone, .gone]) (eg_f (x_mk T_Reader_init ea_nil)) (fun _ => rfl) (fun (reader : OReader) => (b_asgC (ic := icFst) (fun (u8_ : ((List Im) × OReader)) => [eC script, eS text, eI cell_here, eS ahead, (e_Reader true) u8_.2, (eL false eIm) u8_.1, .gone, .gone, .gone, .gone]) (eg_meth (x := reader) (env := fun r7_ => [eC script, eS text, eI cell_here, eS ahead, (e_Reader true) r7_.2, .gone, .gone, .gone, .gone, .gone]) (T_Reader_feed) rfl rfl (ea_cons (x_v eS ahead rfl) ea_nil) (fun _ => rfl)) (fun _ => rfl) (fun _ => rfl) (fun (u8_ : ((List Im) × OReader)) => (b_asg (fun (held : Ts) => [eC script, eS text, eI cell_here, eS ahead, (e_Reader true) u8_.2, (eL false eIm) u8_.1, eS held, .gone, .gone, .gone]) (eg_f (x_lookF (fun x => rfl) T_Reader_held_text (ev_get (e := (e_Reader true)) (x := u8_.2) rfl) ea_nil)) (fun _ => rfl) (fun (held : Ts) => (b_asg (fun (bad : Ts) => [eC script, eS text, eI cell_here, eS ahead, (e_Reader true) u8_.2, (eL false eIm) u8_.1, eS held, eS bad, .gone, .gone]) (eg_f (x_call T_lw_spoilt (ea_cons (x_v eS text rfl) (ea_cons (x_v eI cell_here rfl) ea_nil)))) (fun _ => rfl) (fun (bad : Ts) => (b_asg (fun (thing : An) => [eC script, eS text, eI cell_here, eS ahead, (e_Reader true) u8_.2, (eL false eIm) u8_.1, eS held, eS bad, eA thing, .gone]) (eg_r (x_m2 o2_ixL (x_lst (f := (eL true eA)) (fun t : An × An × An × An × An × An × An × Unit => ([t.1, t.2.1, t.2.2.1, t.2.2.2.1, t.2.2.2.2.1, t.2.2.2.2.2.1, t.2.2.2.2.2.2.1] : (List An))) (ea_cons (x_map (e := eU) (f := eA) (an eU) (fun _ => rfl) (x_k eU () rfl)) (ea_cons (x_map (e := eI) (f := eA) (an eI) (fun _ => rfl) (x_k eI (5) rfl)) (ea_cons (x_map (e := eB) (f := eA) (an eB) (fun _ => rfl) (x_k eB true rfl)) (ea_cons (x_map (e := (eL false eS)) (f := eA) (an (eL false eS)) (fun _ => rfl) (x_cold (x_lst (f := (eL true eS)) (fun t : Ts × Unit => ([t.1] : (List Ts))) (ea_cons (x_k eS ['a'] rfl) ea_nil) (fun _ => rfl) (fun _ => (by decide : 1 ≤ LIM))))) (ea_cons (x_map (e := (e1 eS)) (f := eA) (an (e1 eS)) (fun _ => rfl) (x_tup (f := (e1 eS)) (fun t : Ts × Unit => (t.1)) (ea_cons (x_k eS ['a'] rfl) ea_nil) (fun _ => rfl) (fun _ => (by decide : 1 ≤ LIM)))) (ea_cons (x_map (e := (eD false kS eI)) (f := eA) (an (eD false kS eI)) (fun _ => rfl) (x_cold (x_disp eS (edp_nil (kk := kS) (a := eI))))) (ea_cons (x_map (e := (eL false eS)) (f := eA) (an (eL false eS)) (fun _ => rfl) (x_cold (x_lst (f := (eL true eS)) (fun t : Ts × Unit => ([t.1] : (List Ts))) (ea_cons (x_v eS bad rfl) ea_nil) (fun _ => rfl) (fun _ => (by decide : 1 ≤ LIM))))) ea_nil))))))) (fun _ => rfl) (fun _ => (by decide : 7 ≤ LIM))) (x_modP 7 (by decide) (x_call T_lw_mix (ea_cons (x_v eI cell_here rfl) (ea_cons (x_k eI (16) rfl) ea_nil))) (x_k eI (7) rfl)))) (fun _ => rfl) (fun (thing : An) => (b_ifT (et_or (et_b (x_m2 o2_nisU (x_call T_checked (ea_cons (x_v eS text rfl) ea_nil)) (x_k eU () rfl))) (et_or (et_b (x_m2 o2_nisU (x_call T_checked (ea_cons (x_k eS ([] : Ts) rfl) ea_nil)) (x_k eU () rfl))) (et_not (et_tru (x_call T_lw_by_hand (ea_cons (x_call T_lw_mix (ea_cons (x_v eI cell_here rfl) (ea_cons (x_k eI (17) rfl) ea_nil))) ea_nil)))))) (b_ret (k := fun (u20_ : Bool) => u20_) (eg_f (x_k eB false rfl)) (fun u20_ => ⟨rfl, ⟨.inl rfl, rfl⟩⟩)) (b_forR (fun (s21_ : OReader) => [eC script, eS text, eI cell_here, eS ahead, (e_Reader true) s21_, (eL false eIm) u8_.1, eS held, eS bad, eA thing, .gone]) u8_.2 (fun (s21_ : OReader) (way : Int) => [eC script, eS text, eI cell_here, eS ahead, (e_Reader true) s21_, (eL false eIm) u8_.1, eS held, eS bad, eA thing, eI way]) (ei_it (x_cold (x_lst (f := (eL true eI)) (fun t : Int × Int × Int × Int × Unit => ([t.1, t.2.1, t.2.2.1, t.2.2.2.1] : (List Int))) (ea_cons (x_k eI (0) rfl) (ea_cons (x_k eI (1) rfl) (ea_cons (x_k eI (2) rfl) (ea_cons (x_k eI (2) rfl) ea_nil)))) (fun _ => rfl) (fun _ => (by decide : 4 ≤ LIM))))) rfl (fun _ _ => rfl) (fun (s21_ : OReader) (way : Int) => (B_law_b1 script text cell_here ahead u8_ held bad thing s21_ way)) (fun (s21_ : OReader) => (b_ifT (et_b (x_m2 (o2_ne (e' := eS) (by decide)) (x_lookF (fun x => rfl) T_Reader_held_text (ev_get (e := (e_Reader true)) (x := s21_) rfl) ea_nil) (x_v eS held rfl))) (b_ret (k := fun (u42_ : Bool) => u42_) (eg_f (x_k eB false rfl)) (fun u42_ => ⟨rfl, ⟨.inl rfl, rfl⟩⟩)) (b_asgC (ic := icFst) (fun (u51_ : ((List Im) × ((List Im) × ((List Im) × OReader)) × ((List Im) × OReader))) => [eC script, eS text, eI cell_here, eS ahead, (e_Reader true) u51_.2.2.2, (eL false eIm) u51_.1, eS held, eS bad, eA thing, .gone]) (eg_bin2 (ea := (eL true eIm)) (eb := (eL true eIm)) o2_catL (fun (r47_ : ((List Im) × ((List Im) × OReader))) => r47_.1) (fun (r47_ : ((List Im) × ((List Im) × OReader))) (r49_ : ((List Im) × OReader)) => r49_.1) (eg_binV o2_catL (eg_meth (x := s21_) (env := fun r44_ => [eC script, eS text, eI cell_here, eS ahead, (e_Reader true) r44_.2, (eL false eIm) u8_.1, eS held, eS bad, eA thing, .gone]) (T_Reader_feed) rfl rfl (ea_cons (x_v eS text rfl) ea_nil) (fun _ => rfl)) (fun r45_ => r45_.1) (fun _ => rfl) rfl (fun _ => rfl)) (fun (r47_ : ((List Im) × ((List Im) × OReader))) => (eg_meth (x := r47_.2.2) (env := fun r48_ => [eC script, eS text, eI cell_here, eS ahead, (e_Reader true) r48_.2, (eL false eIm) u8_.1, eS held, eS bad, eA thing, .gone]) (T_Reader_finish) rfl rfl ea_nil (fun _ => rfl))) (fun _ => rfl) (fun _ _ => rfl)) (fun _ => rfl) (fun _ => rfl) (fun (u51_ : ((List Im) × ((List Im) × ((List Im) × OReader)) × ((List Im) × OReader))) => (b_retI (eg_f (x_call T_lw_same (ea_cons (x_v (eL false eIm) u51_.1 rfl) (ea_cons (x_cold (x_call T_lw_items (ea_cons (x_m2 o2_catS (x_v eS ahead rfl) (x_v eS text rfl)) ea_nil))) ea_nil)))) (fun u54_ => ⟨.inl rfl, rfl⟩))))))))))))))))))))))))
  refine run_T (n := 10) (kp := [true]) (m := m_law) (ds := [eC script]) rfl hb ?_
  first
    | (simp -implicitDefEqProofs only [t_law, Option.bind_assoc, Option.bind_some, bind_same] at h ⊢; exact h)
    | (simp -implicitDefEqProofs only [t_law, Option.bind_assoc, Option.bind_some, bind_same] at h; exact h)
    | exact h
    | (simp [t_law] at h ⊢; exact h)
end LW

namespace LW
open PySem L2 LI OW
theorem isiA_I (ty : String) (s : Int) : isiA ty (an eI s) = kitB "int" ty := rfl
theorem isiA_S (ty : String) (s : Ts) : isiA ty (an eS s) = kitB "str" ty := rfl
theorem eqA_II (s t : Int) : eqA (an eI s) (an eI t) = some (decide (s = t)) := eqB_pe (e1 := eI) (e2 := eI) (e' := eI) (by decide) s t
theorem dS_an (w : Ts) : dS (an eS w).d = some w := Dc.od (e := eS) w
theorem whole_c (n : Int) : t_lw_whole_c (an eI n) = some true := by
  unfold t_lw_whole_c
  rw [isiA_I, isiA_I, kit_int_bool, kit_int_int]
  rfl
theorem same_c (xs ys : List Im) : t_lw_same_c xs ys = some (decide (xs = ys)) := by
  unfold t_lw_same_c
  by_cases h : xs.length = ys.length
  · rw [forT_unit (xs := xs)]
    · simp [h]
    · intro x hx; simp [whole_c]
  · have : xs ≠ ys := fun e => h (by rw [e])
    simp [h, this]
    omega
def no (k : Int) : Exn := (1, [("at", an eI k)])
theorem checked_bad {a b : Ts} (h : ∀ c ∈ a, okC c = true) : t_checked__X1 (an eS (a ++ '~' :: b)) = some (.inl (no (a.length : Int))) := by
  unfold t_checked__X1
  rw [isiA_S, kit_str_str]
  simp only [Option.bind_some, Bool.not_true, Bool.false_eq_true, if_false, dS_an]
  have key : ∀ (n : Nat) (a : Ts), (∀ c ∈ a, okC c = true) → forT (τ := (Exn ⊕ Unit)) (fun (s6_ : Unit) (x7_ : (Int × Ts)) =>
  ((((t_is_sign x7_.2).bind fun v8_ => some (!v8_)).bind fun v9_ => (if v9_ = true then ((inS x7_.2 ['\n', '\t']).bind fun k => some (!k)) else some false)).bind fun v10_ => if v10_ = true then
  some (.rt (.inl (1, [("at", an eI x7_.1)]) : (Exn ⊕ Unit)) : (St Unit (Exn ⊕ Unit)))
  else
  some (.nx () : (St Unit (Exn ⊕ Unit))))) (enumT n (chars (a ++ '~' :: b))) () = some (.inr (.inl (no ((n : Int) + a.length)))) := by
    intro n a
    induction a generalizing n with
    | nil =>
      intro _
      show forT _ (((n : Int), ['~']) :: enumT (n + 1) (chars b)) () = _
      rw [forT_cons]
      simp only [is_sign_1, Option.bind_some, inS_1]
      simp [no, isSg]
    | cons c s ih =>
      intro h
      have hc := h c (by simp)
      show forT _ (((n : Int), [c]) :: enumT (n + 1) (chars (s ++ '~' :: b))) () = _
      rw [forT_cons]
      simp only [is_sign_1, Option.bind_some, inS_1]
      have e : (if (!isSg c) = true then some (!decide (c ∈ ['\n', '\t'])) else some false) = some false := by
        unfold okC at hc
        cases hs : isSg c with
        | true => simp
        | false =>
          rw [hs] at hc
          simp at hc ⊢
          intro h; rcases hc with q | q
          · exact absurd q h
          · exact q
      rw [e]
      simp only [Option.bind_some, Bool.false_eq_true, if_false]
      rw [ih (n + 1) fun d hd => h d (by simp [hd])]
      rw [List.length_cons, show ((n + 1 : Nat) : Int) + (s.length : Int) = (n : Int) + ((s.length + 1 : Nat) : Int) by omega]
  rw [key 0 a h]
  simp [seqT]
theorem checked_odd {t : An} (h : isiA "str" t = some false) : t_checked__X1 t = some (.inl (no 0)) := by
  unfold t_checked__X1
  rw [h]
  rfl
theorem did_no {t : An} {k : Int} (h : t_checked__X1 t = some (.inl (no k))) (way : Int) (r : OReader) : t_lw_did way r t = some (.inl (no k), r) := by
  have hf : ∀ r : OReader, t_Reader_feed__X1 r t = some (.inl (no k), r) := fun r => by
    unfold t_Reader_feed__X1 bindX
    rw [h]; rfl
  have hi : t_items_of__X1 t = some (.inl (no k)) := by
    unfold t_items_of__X1 t_Reader_init bindX
    rw [Option.bind_some, hf]; rfl
  unfold t_lw_did bindX
  rw [h, hi, hf]
  split
  · rfl
  · split
    · rfl
    · rfl
theorem refused {t : An} {k : Int} (h : t_checked__X1 t = some (.inl (no k))) (way : Int) (r : OReader) : t_lw_refused way r t k = some (true, r) := by
  have e1 : okL xL_OutError (no k).1 (exF (no k)) = true := by
    show okL xL_OutError 1 ["at"] = true
    decide
  have e2 : (([5, 9, 3, 2, 8, 7, 10, 6, 4] : List Nat).any (subX (no k).1)) = false := by
    show (([5, 9, 3, 2, 8, 7, 10, 6, 4] : List Nat).any (subX 1)) = false
    decide
  have e3 : subX (no k).1 1 = true := by
    show subX 1 1 = true
    decide
  have e4 : fldT "at" (no k) = some (an eI k) := by
    simp [fldT, no, List.lookup]
  unfold t_lw_refused tryB bindX
  rw [did_no h]
  simp only [Option.bind_some, e1, e2, e3, e4, if_true, Bool.false_eq_true, if_false, whole_c, eqA_II, decide_true, seqT]
def Bad (s : Ts) : Prop := (∀ c ∈ s, okC c = true ∨ c = '~') ∧ '~' ∈ s
theorem tilde_no : okC '~' = false := by decide
theorem bad_split : ∀ {s : Ts}, Bad s → ∃ a b, s = a ++ '~' :: b ∧ ∀ c ∈ a, okC c = true
  | [], h => by cases h.2
  | c :: s, h => by
    by_cases hc : c = '~'
    · exact ⟨[], s, by rw [hc]; rfl, by simp⟩
    · have h2 : '~' ∈ s := by
        rcases List.mem_cons.mp h.2 with z | z
        · exact absurd z.symm hc
        · exact z
      obtain ⟨a, b, e, k⟩ := bad_split (s := s) ⟨fun d hd => h.1 d (by simp [hd]), h2⟩
      refine ⟨c :: a, b, by rw [e]; rfl, fun d hd => ?_⟩
      rcases List.mem_cons.mp hd with rfl | hd
      · exact (h.1 d (by simp)).resolve_right hc
      · exact k d hd
theorem cut_sub {s : Ts} {lo hi : Option Int} : ∀ c ∈ cutL s lo hi, c ∈ s := fun c hc => List.mem_of_mem_drop (List.mem_of_mem_take hc)
theorem cut_le {s : Ts} {lo hi : Option Int} : (cutL s lo hi).length ≤ s.length := by
  unfold cutL
  rw [List.length_take, List.length_drop]; omega
theorem put_in {s : Ts} (i : Int) (h : ∀ c ∈ s, okC c = true ∨ c = '~') (hl : s.length ≤ 10000) : ∃ t, (((slS none (some i) s).bind fun v12_ => (catS v12_ (['~'] : Ts))).bind fun v13_ => (slS (some i) none s).bind fun v14_ => (catS v13_ v14_)) = some t ∧ Bad t ∧ t.length ≤ 2 * s.length + 1 := by
  have h1 := cut_le (s := s) (lo := none) (hi := some i)
  have h2 := cut_le (s := s) (lo := some i) (hi := none)
  rw [slS_ok (by unfold LIM; omega), slS_ok (by unfold LIM; omega), Option.bind_some, catS_ok (by simp; unfold LIM; omega), Option.bind_some, Option.bind_some, catS_ok (by simp; unfold LIM; omega)]
  refine ⟨_, rfl, ⟨fun c hc => ?_, by simp⟩, by simp; omega⟩
  simp only [List.mem_append, List.mem_singleton] at hc
  rcases hc with (hc | hc) | hc
  · exact h c (cut_sub c hc)
  · exact .inr hc
  · exact h c (cut_sub c hc)
theorem spoilt_ex {s : Ts} (c : Int) (h : ∀ d ∈ s, okC d = true) (hl : s.length ≤ 400) : ∃ t, t_lw_spoilt s c = some t ∧ Bad t ∧ t.length ≤ 2000 := by
  unfold t_lw_spoilt
  obtain ⟨v1, m1, _, _⟩ := mix_ex c 11 (by omega) (by omega)
  obtain ⟨v2, m2, _, _⟩ := mix_ex c 12 (by omega) (by omega)
  obtain ⟨v3, m3, _, _⟩ := mix_ex c 13 (by omega) (by omega)
  obtain ⟨v4, m4, _, _⟩ := mix_ex c 14 (by omega) (by omega)
  obtain ⟨v5, m5, _, _⟩ := mix_ex c 15 (by omega) (by omega)
  simp only [m1, m2, m3, m4, m5, Option.bind_some]
  rw [lenS_ok (by unfold LIM; omega)]
  simp only [Option.bind_some]
  rw [modT_ok (by omega), Option.bind_some]
  have hat : ∃ i : Int, (if decide (v2 % 5 = 0) = true then (atI ([(0 : Int), (s.length : Int)] : List Int) (v3 % 2)).bind fun at__2 => some at__2 else some (v1 % ((s.length : Int) + 1))) = some i := by
    split
    · have := mod_in v3 2 (by omega)
      obtain ⟨x, _, e⟩ := atI_ok (xs := ([(0 : Int), (s.length : Int)] : List Int)) this.1 (by simpa using this.2)
      exact ⟨x, by rw [e]; rfl⟩
    · exact ⟨_, rfl⟩
  obtain ⟨i, ei⟩ := hat
  rw [ei, Option.bind_some]
  obtain ⟨t, et, bt, lt⟩ := put_in (s := s) i (fun d hd => .inl (h d hd)) (by omega)
  rw [et, Option.bind_some, lenS_ok (by unfold LIM; omega)]
  simp only [Option.bind_some]
  rw [modT_ok (by omega), Option.bind_some]
  obtain ⟨u, eu, bu, lu⟩ := put_in (s := t) (v4 % ((t.length : Int) + 1)) bt.1 (by omega)
  split
  · rw [eu]
    exact ⟨u, rfl, bu, by omega⟩
  · exact ⟨t, rfl, bt, by omega⟩
theorem by_hand (n : Int) : t_lw_by_hand n = some true := by
  unfold t_lw_by_hand
  simp
theorem read_two {a s : Ts} (ha : ∀ c ∈ a, okC c = true) (hs : ∀ c ∈ s, okC c = true) (hl : a.length + s.length ≤ 3000) :
    ∃ (f1 f2 f3 : List Im) (r1 r2 r3 : OReader), t_Reader_feed ⟨[], 0⟩ a = some (f1, r1) ∧ t_Reader_feed r1 s = some (f2, r2) ∧ t_Reader_finish r2 = some (f3, r3) ∧ f1 ++ f2 ++ f3 = its 0 (a ++ s) ∧ (f1 ++ f2 ++ f3).length ≤ 3000 := by
  have hf := feed_eq [] 0 a (.inl rfl) ha (by omega)
  simp only [List.nil_append, List.length_nil] at hf
  have hr := sure_rest _ 0 a (Nat.le_refl _)
  have hl2 := sure_len _ 0 a (Nat.le_refl _)
  have hl3 := sure_len _ 0 (a ++ s) (Nat.le_refl _)
  rw [List.length_append] at hl3
  have happ := sure_app _ 0 a s (Nat.le_refl _)
  rw [Int.zero_add] at happ
  have eq1 : (0 : Int) + ((0 : Nat) : Int) + (a.length : Int) - ((sure 0 a).2.length : Int) = (a.length : Int) - ((sure 0 a).2.length : Int) := by omega
  rw [eq1] at hf
  have hg := feed_eq (sure 0 a).2 ((a.length : Int) - (sure 0 a).2.length) s hr hs (by omega)
  have hA := congrArg Prod.fst happ
  have hB := congrArg Prod.snd happ
  dsimp only at hA hB
  rw [← hB] at hg
  have hfin := finish_eq (sure 0 (a ++ s)).2 (((a.length : Int) - (sure 0 a).2.length) + (sure 0 a).2.length + s.length - (sure 0 (a ++ s)).2.length) (by omega)
  have hi := its_sure _ 0 (a ++ s) (Nat.le_refl _)
  have hil := its_len _ 0 (a ++ s) (Nat.le_refl _)
  rw [List.length_append] at hil
  have e : (sure 0 a).1 ++ (sure ((a.length : Int) - ((sure 0 a).2.length : Int)) ((sure 0 a).2 ++ s)).1 ++ each (((a.length : Int) - (sure 0 a).2.length) + (sure 0 a).2.length + s.length - (sure 0 (a ++ s)).2.length) (sure 0 (a ++ s)).2 = its 0 (a ++ s) := by
    rw [← hA, hi]
    congr 2
    rw [List.length_append]
    omega
  exact ⟨_, _, _, _, _, _, hf, hg, hfin, e, by rw [e]; omega⟩
theorem thing_odd (bad : Ts) (v : Int) : ∃ t, (atI ([((an eU) ()), ((an eI) (5 : Int)), ((an eB) true), ((an (eL false eS)) ([(['a'] : Ts)] : (List Ts))), ((an (e1 eS)) ((['a'] : Ts))), ((an (eD false kS eI)) ([] : (List (Ts × Int)))), ((an (eL false eS)) ([bad] : (List Ts)))] : (List An)) (v % 7)) = some t ∧ isiA "str" t = some false := by
  have hm := mod_in v 7 (by omega)
  refine atI_all hm.1 (by simpa using hm.2) fun t ht => ?_
  simp only [List.mem_cons, List.not_mem_nil, or_false] at ht
  rcases ht with rfl | rfl | rfl | rfl | rfl | rfl | rfl
  · decide +kernel
  · decide +kernel
  · decide +kernel
  · decide +kernel
  · decide +kernel
  · decide +kernel
  · show kitB "list" "str" = some false
    decide +kernel
theorem law_t (ns : List Int) (hl : ns.length ≤ 63) (hb : ∀ z ∈ ns, Builtin.Int.intBits z ≤ 1048576) : t_law ns = some true := by
  unfold t_law
  have hcut : cutL ns (some (1 : Int)) (some (41 : Int)) = (ns.take 41).drop 1 := cut_nat (xs := ns) (a := 1) (b := 41)
  rw [hcut]
  obtain ⟨s, e1, ok1, l1⟩ := tokens_ex ((ns.take 41).drop 1) (by rw [List.length_drop, List.length_take]; omega)
  rw [List.length_drop, List.length_take] at l1
  rw [e1, Option.bind_some]
  have hc : t_lw_cell ns 0 = some (ns.getD 0 0) := cell_eq ns 0
  generalize ns.getD 0 0 = c at hc
  have h41 : t_lw_cell ns 41 = some (ns.getD 41 0) := cell_eq ns 41
  have h42 : t_lw_cell ns 42 = some (ns.getD 42 0) := cell_eq ns 42
  generalize ns.getD 41 0 = c1 at h41
  generalize ns.getD 42 0 = c2 at h42
  obtain ⟨t1, k1, g1⟩ := token_ex c1
  obtain ⟨t2, k2, g2⟩ := token_ex c2
  obtain ⟨o1, _, n1⟩ := gd_ok g1
  obtain ⟨o2, _, n2⟩ := gd_ok g2
  obtain ⟨v16, m16, _, _⟩ := mix_ex c 16 (by omega) (by omega)
  obtain ⟨v17, m17, _, _⟩ := mix_ex c 17 (by omega) (by omega)
  simp only [hc, h41, h42, k1, k2, Option.bind_some]
  rw [catS_ok (by unfold LIM; omega)]
  have oa : ∀ d ∈ t1 ++ t2, okC d = true := fun d hd => by
    rcases List.mem_append.mp hd with z | z
    · exact o1 d z
    · exact o2 d z
  obtain ⟨f1, f2, f3, r1, r2, r3, p1, p2, p3, p4, p5⟩ := read_two oa ok1 (by rw [List.length_append]; omega)
  have ln : (t1 ++ t2).length ≤ 18 := by rw [List.length_append]; omega
  generalize t1 ++ t2 = a at *
  obtain ⟨bad, eb, bb, lb⟩ := spoilt_ex c ok1 (by omega)
  obtain ⟨ba, bt, es, okb⟩ := bad_split bb
  obtain ⟨th, et, ot⟩ := thing_odd bad v16
  have hb1 := checked_bad (b := bt) okb
  rw [← es] at hb1
  have hb2 := checked_odd ot
  have hix : sidxT bad ['~'] = some (ba.length : Int) := by
    rw [es]
    exact sidx_at fun z => by have := okb _ z; rw [tilde_no] at this; cases this
  have hdisp : dispT ([] : List (Ts × Int)) = some [] := by
    unfold dispT
    rw [if_pos ⟨by simp, by simp⟩]
  have hck : t_checked s = some () := checked_ok ok1
  have hc0 : t_checked [] = some () := checked_ok (by simp)
  unfold t_Reader_init
  simp only [Option.bind_some, p1, t_Reader_held_text, eb, hdisp, m16, m17, et, hck, hc0, by_hand, Bool.not_true, Bool.false_eq_true, if_false]
  have hturn : ∀ w : Int, t_law_b1 bad th r1 w = some (.nx r1) := fun w => by
    unfold t_law_b1
    simp only [hix, Option.bind_some, refused hb1, refused hb2, Bool.not_true, Bool.false_eq_true, if_false]
  simp only [forT_cons, hturn, Option.bind_some, forT_nil, seqT, decide_true, Bool.not_true, Bool.false_eq_true, if_false, p2, p3]
  rw [List.length_append, List.length_append] at p5
  rw [catL_ok (by unfold LIM; omega)]
  simp only [Option.bind_some, p3]
  rw [catL_ok (by rw [List.length_append]; unfold LIM; omega)]
  simp only [Option.bind_some]
  rw [catS_ok (by unfold LIM; omega), Option.bind_some, lw_items_eq (by rw [List.length_append]; omega), Option.bind_some, same_c, p4]
  simp
end LW

namespace LW
open PySem L2 PyProof.Rows LI
def topS (i : Nat) : Stmt := PySem.Challenge.pw_outweave_k16_signs_refused.main.body.getD i (.Pass ⟨0, 0, 0, 0⟩)
abbrev s_is_sign : Stmt := topS 17
abbrev N_is_sign : List Str := ["thing"]
theorem sc_is_sign : FnScope N_is_sign ["thing"] (defScope s_is_sign) := ⟨rfl, rfl, rfl, by decide +kernel, rfl, by decide +kernel, by decide +kernel⟩
abbrev s_is_colour : Stmt := topS 18
abbrev N_is_colour : List Str := ["thing"]
theorem sc_is_colour : FnScope N_is_colour ["thing"] (defScope s_is_colour) := ⟨rfl, rfl, rfl, by decide +kernel, rfl, by decide +kernel, by decide +kernel⟩
abbrev s_checked__X1 : Stmt := topS 19
abbrev N_checked__X1 : List Str := ["text", "at", "sign"]
theorem sc_checked__X1 : FnScope N_checked__X1 ["text"] (defScope s_checked__X1) := ⟨rfl, rfl, rfl, by decide +kernel, rfl, by decide +kernel, by decide +kernel⟩
abbrev s_checked : Stmt := topS 19
abbrev N_checked : List Str := ["text", "at", "sign"]
theorem sc_checked : FnScope N_checked ["text"] (defScope s_checked) := ⟨rfl, rfl, rfl, by decide +kernel, rfl, by decide +kernel, by decide +kernel⟩
abbrev s_sign_item : Stmt := topS 22
abbrev N_sign_item : List Str := ["place", "sign"]
theorem sc_sign_item : FnScope N_sign_item ["place", "sign"] (defScope s_sign_item) := ⟨rfl, rfl, rfl, by decide +kernel, rfl, by decide +kernel, by decide +kernel⟩
abbrev s_begins_mark : Stmt := topS 23
abbrev N_begins_mark : List Str := ["text"]
theorem sc_begins_mark : FnScope N_begins_mark ["text"] (defScope s_begins_mark) := ⟨rfl, rfl, rfl, by decide +kernel, rfl, by decide +kernel, by decide +kernel⟩
abbrev s_mark_item : Stmt := topS 24
abbrev N_mark_item : List Str := ["place", "text"]
theorem sc_mark_item : FnScope N_mark_item ["place", "text"] (defScope s_mark_item) := ⟨rfl, rfl, rfl, by decide +kernel, rfl, by decide +kernel, by decide +kernel⟩
abbrev s_Reader_init : Stmt := L2.inClass (topS 25) 0
abbrev N_Reader_init : List Str := ["self"]
theorem sc_Reader_init : FnScope N_Reader_init ["self"] (defScope s_Reader_init) := ⟨rfl, rfl, rfl, by decide +kernel, rfl, by decide +kernel, by decide +kernel⟩
abbrev s_Reader_held_text : Stmt := L2.inClass (topS 25) 1
abbrev N_Reader_held_text : List Str := ["self"]
theorem sc_Reader_held_text : FnScope N_Reader_held_text ["self"] (defScope s_Reader_held_text) := ⟨rfl, rfl, rfl, by decide +kernel, rfl, by decide +kernel, by decide +kernel⟩
abbrev s_Reader_told : Stmt := L2.inClass (topS 25) 2
abbrev N_Reader_told : List Str := ["self", "many", "found", "sign"]
theorem sc_Reader_told : FnScope N_Reader_told ["self", "many"] (defScope s_Reader_told) := ⟨rfl, rfl, rfl, by decide +kernel, rfl, by decide +kernel, by decide +kernel⟩
abbrev s_Reader_take : Stmt := L2.inClass (topS 25) 3
abbrev N_Reader_take : List Str := ["self", "sign", "whole", "found"]
theorem sc_Reader_take : FnScope N_Reader_take ["self", "sign"] (defScope s_Reader_take) := ⟨rfl, rfl, rfl, by decide +kernel, rfl, by decide +kernel, by decide +kernel⟩
abbrev s_Reader_feed__X1 : Stmt := L2.inClass (topS 25) 4
abbrev N_Reader_feed__X1 : List Str := ["self", "piece", "found", "sign"]
theorem sc_Reader_feed__X1 : FnScope N_Reader_feed__X1 ["self", "piece"] (defScope s_Reader_feed__X1) := ⟨rfl, rfl, rfl, by decide +kernel, rfl, by decide +kernel, by decide +kernel⟩
abbrev s_Reader_feed : Stmt := L2.inClass (topS 25) 4
abbrev N_Reader_feed : List Str := ["self", "piece", "found", "sign"]
theorem sc_Reader_feed : FnScope N_Reader_feed ["self", "piece"] (defScope s_Reader_feed) := ⟨rfl, rfl, rfl, by decide +kernel, rfl, by decide +kernel, by decide +kernel⟩
abbrev s_Reader_finish : Stmt := L2.inClass (topS 25) 5
abbrev N_Reader_finish : List Str := ["self"]
theorem sc_Reader_finish : FnScope N_Reader_finish ["self"] (defScope s_Reader_finish) := ⟨rfl, rfl, rfl, by decide +kernel, rfl, by decide +kernel, by decide +kernel⟩
abbrev s_items_of__X1 : Stmt := topS 26
abbrev N_items_of__X1 : List Str := ["text", "reader", "found"]
theorem sc_items_of__X1 : FnScope N_items_of__X1 ["text"] (defScope s_items_of__X1) := ⟨rfl, rfl, rfl, by decide +kernel, rfl, by decide +kernel, by decide +kernel⟩
abbrev s_lw_cell : Stmt := topS 28
abbrev N_lw_cell : List Str := ["_law_script", "_law_k"]
theorem sc_lw_cell : FnScope N_lw_cell ["_law_script", "_law_k"] (defScope s_lw_cell) := ⟨rfl, rfl, rfl, by decide +kernel, rfl, by decide +kernel, by decide +kernel⟩
abbrev s_lw_mix : Stmt := topS 29
abbrev N_lw_mix : List Str := ["_law_cell_here", "_law_k", "_law_rest", "_law_turn", "_law_number"]
theorem sc_lw_mix : FnScope N_lw_mix ["_law_cell_here", "_law_k"] (defScope s_lw_mix) := ⟨rfl, rfl, rfl, by decide +kernel, rfl, by decide +kernel, by decide +kernel⟩
abbrev s_lw_signs : Stmt := topS 30
abbrev N_lw_signs : List Str := ["_law_some"]
theorem sc_lw_signs : FnScope N_lw_signs [] (defScope s_lw_signs) := ⟨rfl, rfl, rfl, by decide +kernel, rfl, by decide +kernel, by decide +kernel⟩
abbrev s_lw_token : Stmt := topS 31
abbrev N_lw_token : List Str := ["_law_cell_here", "_law_colour", "_law_way", "_law_pick", "_law_odd"]
theorem sc_lw_token : FnScope N_lw_token ["_law_cell_here"] (defScope s_lw_token) := ⟨rfl, rfl, rfl, by decide +kernel, rfl, by decide +kernel, by decide +kernel⟩
abbrev s_lw_item : Stmt := topS 32
abbrev N_lw_item : List Str := ["_law_text", "_law_at", "_law_colours", "_law_here"]
theorem sc_lw_item : FnScope N_lw_item ["_law_text", "_law_at"] (defScope s_lw_item) := ⟨rfl, rfl, rfl, by decide +kernel, rfl, by decide +kernel, by decide +kernel⟩
abbrev s_lw_items : Stmt := topS 33
abbrev N_lw_items : List Str := ["_law_text", "_law_items_here", "_law_at", "_law_item_here", "_law_size"]
theorem sc_lw_items : FnScope N_lw_items ["_law_text"] (defScope s_lw_items) := ⟨rfl, rfl, rfl, by decide +kernel, rfl, by decide +kernel, by decide +kernel⟩
abbrev s_lw_whole : Stmt := topS 34
abbrev N_lw_whole : List Str := ["_law_found"]
theorem sc_lw_whole : FnScope N_lw_whole ["_law_found"] (defScope s_lw_whole) := ⟨rfl, rfl, rfl, by decide +kernel, rfl, by decide +kernel, by decide +kernel⟩
abbrev s_lw_same : Stmt := topS 35
abbrev N_lw_same : List Str := ["_law_found", "_law_due", "_law_item_here"]
theorem sc_lw_same : FnScope N_lw_same ["_law_found", "_law_due"] (defScope s_lw_same) := ⟨rfl, rfl, rfl, by decide +kernel, rfl, by decide +kernel, by decide +kernel⟩
abbrev s_lw_did : Stmt := topS 36
abbrev N_lw_did : List Str := ["_law_way", "_law_reader", "_law_thing"]
theorem sc_lw_did : FnScope N_lw_did ["_law_way", "_law_reader", "_law_thing"] (defScope s_lw_did) := ⟨rfl, rfl, rfl, by decide +kernel, rfl, by decide +kernel, by decide +kernel⟩
abbrev s_lw_refused : Stmt := topS 37
abbrev N_lw_refused : List Str := ["_law_way", "_law_reader", "_law_thing", "_law_at", "_law_e"]
theorem sc_lw_refused : FnScope N_lw_refused ["_law_way", "_law_reader", "_law_thing", "_law_at"] (defScope s_lw_refused) := ⟨rfl, rfl, rfl, by decide +kernel, rfl, by decide +kernel, by decide +kernel⟩
abbrev s_lw_by_hand : Stmt := topS 38
abbrev N_lw_by_hand : List Str := ["_law_number", "_law_some", "_law_names", "_law_errors", "_law_e"]
theorem sc_lw_by_hand : FnScope N_lw_by_hand ["_law_number"] (defScope s_lw_by_hand) := ⟨rfl, rfl, rfl, by decide +kernel, rfl, by decide +kernel, by decide +kernel⟩
abbrev s_lw_spoilt : Stmt := topS 39
abbrev N_lw_spoilt : List Str := ["_law_text", "_law_cell_here", "_law_at", "_law_bad", "_law_other"]
theorem sc_lw_spoilt : FnScope N_lw_spoilt ["_law_text", "_law_cell_here"] (defScope s_lw_spoilt) := ⟨rfl, rfl, rfl, by decide +kernel, rfl, by decide +kernel, by decide +kernel⟩
abbrev s_law : Stmt := topS 40
abbrev N_law : List Str := ["_law_script", "_law_text", "_law_cell_here", "_law_ahead", "_law_reader", "_law_told", "_law_held", "_law_bad", "_law_thing", "_law_way"]
theorem sc_law : FnScope N_law ["_law_script"] (defScope s_law) := ⟨rfl, rfl, rfl, by decide +kernel, rfl, by decide +kernel, by decide +kernel⟩
abbrev s_NoSign_init : Stmt := L2.inClass (topS 2) 0
theorem sc_NoSign_init : FnScope ["self", "at"] ["self", "at"] (defScope s_NoSign_init) := ⟨rfl, rfl, rfl, by decide +kernel, rfl, by decide +kernel, by decide +kernel⟩
abbrev s_NoHand_init : Stmt := L2.inClass (topS 4) 0
theorem sc_NoHand_init : FnScope ["self", "name"] ["self", "name"] (defScope s_NoHand_init) := ⟨rfl, rfl, rfl, by decide +kernel, rfl, by decide +kernel, by decide +kernel⟩
abbrev s_Twice_init : Stmt := L2.inClass (topS 5) 0
theorem sc_Twice_init : FnScope ["self", "name"] ["self", "name"] (defScope s_Twice_init) := ⟨rfl, rfl, rfl, by decide +kernel, rfl, by decide +kernel, by decide +kernel⟩
abbrev s_Closed_init : Stmt := L2.inClass (topS 6) 0
theorem sc_Closed_init : FnScope ["self", "name"] ["self", "name"] (defScope s_Closed_init) := ⟨rfl, rfl, rfl, by decide +kernel, rfl, by decide +kernel, by decide +kernel⟩
abbrev s_NoRoom_init : Stmt := L2.inClass (topS 8) 0
theorem sc_NoRoom_init : FnScope ["self", "at"] ["self", "at"] (defScope s_NoRoom_init) := ⟨rfl, rfl, rfl, by decide +kernel, rfl, by decide +kernel, by decide +kernel⟩
abbrev s_NoRoll_init : Stmt := L2.inClass (topS 9) 0
theorem sc_NoRoll_init : FnScope ["self", "at"] ["self", "at"] (defScope s_NoRoll_init) := ⟨rfl, rfl, rfl, by decide +kernel, rfl, by decide +kernel, by decide +kernel⟩
structure Tx (K : PySem.W.Frag) (mg : Str → Option Value) (w : World) where
  cl : Nat → Addr
  a_is_sign : Addr
  d_is_sign : FuncData
  f_is_sign : Fun K "is_sign" "is_sign" s_is_sign a_is_sign d_is_sign
  b_is_sign : Binds K d_is_sign ["thing"] []
  g_is_sign : mg "is_sign" = some (.ref a_is_sign)
  a_is_colour : Addr
  d_is_colour : FuncData
  f_is_colour : Fun K "is_colour" "is_colour" s_is_colour a_is_colour d_is_colour
  b_is_colour : Binds K d_is_colour ["thing"] []
  g_is_colour : mg "is_colour" = some (.ref a_is_colour)
  a_checked__X1 : Addr
  d_checked__X1 : FuncData
  f_checked__X1 : Fun K "checked" "checked" s_checked__X1 a_checked__X1 d_checked__X1
  b_checked__X1 : Binds K d_checked__X1 ["text"] []
  g_checked__X1 : mg "checked" = some (.ref a_checked__X1)
  a_checked : Addr
  d_checked : FuncData
  f_checked : Fun K "checked" "checked" s_checked a_checked d_checked
  b_checked : Binds K d_checked ["text"] []
  g_checked : mg "checked" = some (.ref a_checked)
  a_sign_item : Addr
  d_sign_item : FuncData
  f_sign_item : Fun K "sign_item" "sign_item" s_sign_item a_sign_item d_sign_item
  b_sign_item : Binds K d_sign_item ["place", "sign"] []
  g_sign_item : mg "sign_item" = some (.ref a_sign_item)
  a_begins_mark : Addr
  d_begins_mark : FuncData
  f_begins_mark : Fun K "begins_mark" "begins_mark" s_begins_mark a_begins_mark d_begins_mark
  b_begins_mark : Binds K d_begins_mark ["text"] []
  g_begins_mark : mg "begins_mark" = some (.ref a_begins_mark)
  a_mark_item : Addr
  d_mark_item : FuncData
  f_mark_item : Fun K "mark_item" "mark_item" s_mark_item a_mark_item d_mark_item
  b_mark_item : Binds K d_mark_item ["place", "text"] []
  g_mark_item : mg "mark_item" = some (.ref a_mark_item)
  a_Reader_init : Addr
  d_Reader_init : FuncData
  f_Reader_init : Fun K "__init__" "Reader.__init__" s_Reader_init a_Reader_init d_Reader_init
  b_Reader_init : Binds K d_Reader_init ["self"] []
  a_Reader_held_text : Addr
  d_Reader_held_text : FuncData
  f_Reader_held_text : Fun K "held_text" "Reader.held_text" s_Reader_held_text a_Reader_held_text d_Reader_held_text
  b_Reader_held_text : Binds K d_Reader_held_text ["self"] []
  a_Reader_told : Addr
  d_Reader_told : FuncData
  f_Reader_told : Fun K "told" "Reader.told" s_Reader_told a_Reader_told d_Reader_told
  b_Reader_told : Binds K d_Reader_told ["self", "many"] []
  a_Reader_take : Addr
  d_Reader_take : FuncData
  f_Reader_take : Fun K "take" "Reader.take" s_Reader_take a_Reader_take d_Reader_take
  b_Reader_take : Binds K d_Reader_take ["self", "sign"] []
  a_Reader_feed__X1 : Addr
  d_Reader_feed__X1 : FuncData
  f_Reader_feed__X1 : Fun K "feed" "Reader.feed" s_Reader_feed__X1 a_Reader_feed__X1 d_Reader_feed__X1
  b_Reader_feed__X1 : Binds K d_Reader_feed__X1 ["self", "piece"] []
  a_Reader_feed : Addr
  d_Reader_feed : FuncData
  f_Reader_feed : Fun K "feed" "Reader.feed" s_Reader_feed a_Reader_feed d_Reader_feed
  b_Reader_feed : Binds K d_Reader_feed ["self", "piece"] []
  a_Reader_finish : Addr
  d_Reader_finish : FuncData
  f_Reader_finish : Fun K "finish" "Reader.finish" s_Reader_finish a_Reader_finish d_Reader_finish
  b_Reader_finish : Binds K d_Reader_finish ["self"] []
  a_items_of__X1 : Addr
  d_items_of__X1 : FuncData
  f_items_of__X1 : Fun K "items_of" "items_of" s_items_of__X1 a_items_of__X1 d_items_of__X1
  b_items_of__X1 : Binds K d_items_of__X1 ["text"] []
  g_items_of__X1 : mg "items_of" = some (.ref a_items_of__X1)
  a_lw_cell : Addr
  d_lw_cell : FuncData
  f_lw_cell : Fun K "_law_cell" "_law_cell" s_lw_cell a_lw_cell d_lw_cell
  b_lw_cell : Binds K d_lw_cell ["_law_script", "_law_k"] []
  g_lw_cell : mg "_law_cell" = some (.ref a_lw_cell)
  a_lw_mix : Addr
  d_lw_mix : FuncData
  f_lw_mix : Fun K "_law_mix" "_law_mix" s_lw_mix a_lw_mix d_lw_mix
  b_lw_mix : Binds K d_lw_mix ["_law_cell_here", "_law_k"] []
  g_lw_mix : mg "_law_mix" = some (.ref a_lw_mix)
  a_lw_signs : Addr
  d_lw_signs : FuncData
  f_lw_signs : Fun K "_law_signs" "_law_signs" s_lw_signs a_lw_signs d_lw_signs
  b_lw_signs : Binds K d_lw_signs [] []
  g_lw_signs : mg "_law_signs" = some (.ref a_lw_signs)
  a_lw_token : Addr
  d_lw_token : FuncData
  f_lw_token : Fun K "_law_token" "_law_token" s_lw_token a_lw_token d_lw_token
  b_lw_token : Binds K d_lw_token ["_law_cell_here"] []
  g_lw_token : mg "_law_token" = some (.ref a_lw_token)
  a_lw_item : Addr
  d_lw_item : FuncData
  f_lw_item : Fun K "_law_item" "_law_item" s_lw_item a_lw_item d_lw_item
  b_lw_item : Binds K d_lw_item ["_law_text", "_law_at"] []
  g_lw_item : mg "_law_item" = some (.ref a_lw_item)
  a_lw_items : Addr
  d_lw_items : FuncData
  f_lw_items : Fun K "_law_items" "_law_items" s_lw_items a_lw_items d_lw_items
  b_lw_items : Binds K d_lw_items ["_law_text"] []
  g_lw_items : mg "_law_items" = some (.ref a_lw_items)
  a_lw_whole : Addr
  d_lw_whole : FuncData
  f_lw_whole : Fun K "_law_whole" "_law_whole" s_lw_whole a_lw_whole d_lw_whole
  b_lw_whole : Binds K d_lw_whole ["_law_found"] []
  g_lw_whole : mg "_law_whole" = some (.ref a_lw_whole)
  a_lw_same : Addr
  d_lw_same : FuncData
  f_lw_same : Fun K "_law_same" "_law_same" s_lw_same a_lw_same d_lw_same
  b_lw_same : Binds K d_lw_same ["_law_found", "_law_due"] []
  g_lw_same : mg "_law_same" = some (.ref a_lw_same)
  a_lw_did : Addr
  d_lw_did : FuncData
  f_lw_did : Fun K "_law_did" "_law_did" s_lw_did a_lw_did d_lw_did
  b_lw_did : Binds K d_lw_did ["_law_way", "_law_reader", "_law_thing"] []
  g_lw_did : mg "_law_did" = some (.ref a_lw_did)
  a_lw_refused : Addr
  d_lw_refused : FuncData
  f_lw_refused : Fun K "_law_refused" "_law_refused" s_lw_refused a_lw_refused d_lw_refused
  b_lw_refused : Binds K d_lw_refused ["_law_way", "_law_reader", "_law_thing", "_law_at"] []
  g_lw_refused : mg "_law_refused" = some (.ref a_lw_refused)
  a_lw_by_hand : Addr
  d_lw_by_hand : FuncData
  f_lw_by_hand : Fun K "_law_by_hand" "_law_by_hand" s_lw_by_hand a_lw_by_hand d_lw_by_hand
  b_lw_by_hand : Binds K d_lw_by_hand ["_law_number"] []
  g_lw_by_hand : mg "_law_by_hand" = some (.ref a_lw_by_hand)
  a_lw_spoilt : Addr
  d_lw_spoilt : FuncData
  f_lw_spoilt : Fun K "_law_spoilt" "_law_spoilt" s_lw_spoilt a_lw_spoilt d_lw_spoilt
  b_lw_spoilt : Binds K d_lw_spoilt ["_law_text", "_law_cell_here"] []
  g_lw_spoilt : mg "_law_spoilt" = some (.ref a_lw_spoilt)
  a_law : Addr
  d_law : FuncData
  f_law : Fun K "law" "law" s_law a_law d_law
  b_law : Binds K d_law ["_law_script"] []
  g_law : mg "law" = some (.ref a_law)
  z_ValueError : mg "ValueError" = none
  z_bool : mg "bool" = none
  z_enumerate : mg "enumerate" = none
  z_int : mg "int" = none
  z_isinstance : mg "isinstance" = none
  z_len : mg "len" = none
  z_list : mg "list" = none
  z_range : mg "range" = none
  z_str : mg "str" = none
  z_tuple : mg "tuple" = none
  k_COLOURS : ∃ u, mg "COLOURS" = some u ∧ RelV (.str ⟨([97, 98, 99, 100, 101, 102, 103, 104, 46] : List Nat).toArray⟩) u
  k_CONTROLS : ∃ u, mg "CONTROLS" = some u ∧ RelV (.str ⟨([10, 9] : List Nat).toArray⟩) u
  k_ENDS : GlKd K mg w "ENDS" kv_ENDS
  k_FIRST : ∃ u, mg "FIRST" = some u ∧ RelV (.str ⟨([32] : List Nat).toArray⟩) u
  k_LAST : ∃ u, mg "LAST" = some u ∧ RelV (.str ⟨([125] : List Nat).toArray⟩) u
  cls_Reader : Cls K (cl 11)
  gc_Reader : mg "Reader" = some (.ref (cl 11))
  na_Reader_kept : NoAttr K (cl 11) "kept"
  na_Reader_place : NoAttr K (cl 11) "place"
  me_Reader_told : Meth K (cl 11) "told" a_Reader_told
  me_Reader_take : Meth K (cl 11) "take" a_Reader_take
  mk_Reader : Mk K (cl 11) a_Reader_init
  me_Reader_feed__X1 : Meth K (cl 11) "feed" a_Reader_feed__X1
  me_Reader_finish : Meth K (cl 11) "finish" a_Reader_finish
  xm_OutError : ∀ n fs, (n, fs) ∈ xL_OutError → PySem.W.exmOne K (.ref (cl n)) (.ref (cl 0)) = some true
  xp_NoRow : PySem.W.excIn K (cl 10) [.type "ValueError", .type "Exception", .type "BaseException", .type "object"] "ValueError.__new__" = true
  xq_NoRow : PySem.W.keepIn K (.ref (cl 10)) = true
  xb_NoRow : PySem.W.subIn K (.ref (cl 10)) (.type "BaseException") = some true
  xt_NoRow : PySem.W.typeIn K (.ref (cl 10)) = some (.type "type")
  xp_NoCell : PySem.W.excIn K (cl 9) [.type "ValueError", .type "Exception", .type "BaseException", .type "object"] "ValueError.__new__" = true
  xq_NoCell : PySem.W.keepIn K (.ref (cl 9)) = true
  xb_NoCell : PySem.W.subIn K (.ref (cl 9)) (.type "BaseException") = some true
  xt_NoCell : PySem.W.typeIn K (.ref (cl 9)) = some (.type "type")
  xp_NoSize : PySem.W.excIn K (cl 6) [.type "ValueError", .type "Exception", .type "BaseException", .type "object"] "ValueError.__new__" = true
  xq_NoSize : PySem.W.keepIn K (.ref (cl 6)) = true
  xb_NoSize : PySem.W.subIn K (.ref (cl 6)) (.type "BaseException") = some true
  xt_NoSize : PySem.W.typeIn K (.ref (cl 6)) = some (.type "type")
  xp_NoName : PySem.W.excIn K (cl 2) [.type "ValueError", .type "Exception", .type "BaseException", .type "object"] "ValueError.__new__" = true
  xq_NoName : PySem.W.keepIn K (.ref (cl 2)) = true
  xb_NoName : PySem.W.subIn K (.ref (cl 2)) (.type "BaseException") = some true
  xt_NoName : PySem.W.typeIn K (.ref (cl 2)) = some (.type "type")
  me_Reader_feed : Meth K (cl 11) "feed" a_Reader_feed
  me_Reader_held_text : Meth K (cl 11) "held_text" a_Reader_held_text
  a_NoSign_init : Addr
  d_NoSign_init : FuncData
  f_NoSign_init : Fun K "__init__" "NoSign.__init__" s_NoSign_init a_NoSign_init d_NoSign_init
  b_NoSign_init : Binds K d_NoSign_init ["self", "at"] []
  xo_NoSign : OexC K (cl 1)
  xic_NoSign : PySem.W.findIn K (.ref (cl 1)) "__init__" = some (some (.ref a_NoSign_init))
  xit_NoSign : PySem.W.typeIn K (.ref a_NoSign_init) = some (.type "function")
  xn_NoSign : PySem.W.findIn K (.ref (cl 1)) "at" = some none
  a_NoHand_init : Addr
  d_NoHand_init : FuncData
  f_NoHand_init : Fun K "__init__" "NoHand.__init__" s_NoHand_init a_NoHand_init d_NoHand_init
  b_NoHand_init : Binds K d_NoHand_init ["self", "name"] []
  xo_NoHand : OexC K (cl 3)
  xic_NoHand : PySem.W.findIn K (.ref (cl 3)) "__init__" = some (some (.ref a_NoHand_init))
  xit_NoHand : PySem.W.typeIn K (.ref a_NoHand_init) = some (.type "function")
  xn_NoHand : PySem.W.findIn K (.ref (cl 3)) "name" = some none
  a_Twice_init : Addr
  d_Twice_init : FuncData
  f_Twice_init : Fun K "__init__" "Twice.__init__" s_Twice_init a_Twice_init d_Twice_init
  b_Twice_init : Binds K d_Twice_init ["self", "name"] []
  xo_Twice : OexC K (cl 4)
  xic_Twice : PySem.W.findIn K (.ref (cl 4)) "__init__" = some (some (.ref a_Twice_init))
  xit_Twice : PySem.W.typeIn K (.ref a_Twice_init) = some (.type "function")
  xn_Twice : PySem.W.findIn K (.ref (cl 4)) "name" = some none
  a_Closed_init : Addr
  d_Closed_init : FuncData
  f_Closed_init : Fun K "__init__" "Closed.__init__" s_Closed_init a_Closed_init d_Closed_init
  b_Closed_init : Binds K d_Closed_init ["self", "name"] []
  xo_Closed : OexC K (cl 5)
  xic_Closed : PySem.W.findIn K (.ref (cl 5)) "__init__" = some (some (.ref a_Closed_init))
  xit_Closed : PySem.W.typeIn K (.ref a_Closed_init) = some (.type "function")
  xn_Closed : PySem.W.findIn K (.ref (cl 5)) "name" = some none
  a_NoRoom_init : Addr
  d_NoRoom_init : FuncData
  f_NoRoom_init : Fun K "__init__" "NoRoom.__init__" s_NoRoom_init a_NoRoom_init d_NoRoom_init
  b_NoRoom_init : Binds K d_NoRoom_init ["self", "at"] []
  xo_NoRoom : OexC K (cl 7)
  xic_NoRoom : PySem.W.findIn K (.ref (cl 7)) "__init__" = some (some (.ref a_NoRoom_init))
  xit_NoRoom : PySem.W.typeIn K (.ref a_NoRoom_init) = some (.type "function")
  xn_NoRoom : PySem.W.findIn K (.ref (cl 7)) "at" = some none
  a_NoRoll_init : Addr
  d_NoRoll_init : FuncData
  f_NoRoll_init : Fun K "__init__" "NoRoll.__init__" s_NoRoll_init a_NoRoll_init d_NoRoll_init
  b_NoRoll_init : Binds K d_NoRoll_init ["self", "at"] []
  xo_NoRoll : OexC K (cl 8)
  xic_NoRoll : PySem.W.findIn K (.ref (cl 8)) "__init__" = some (some (.ref a_NoRoll_init))
  xit_NoRoll : PySem.W.typeIn K (.ref a_NoRoll_init) = some (.type "function")
  xn_NoRoll : PySem.W.findIn K (.ref (cl 8)) "at" = some none
  rd_OutError : PySem.W.readsIn K (cl 0) (.type "type") = true
  ga_OutError : PySem.W.specialIn K (.ref (cl 0)) "__getattribute__" = some (some (.builtin "type.__getattribute__"))
  bi_OutError : PySem.W.findCls K (.ref (cl 0)) (.type "type") "__init__" = some (.val (.builtin "ValueError.__init__"))
  xf_at : ∀ n fs, (n, fs) ∈ xL → PySem.W.findIn K (.ref (cl n)) "at" = some none
  gc_OutError : mg "OutError" = some (.ref (cl 0))
  gc_NoSign : mg "NoSign" = some (.ref (cl 1))
  gc_NoName : mg "NoName" = some (.ref (cl 2))
  gc_NoHand : mg "NoHand" = some (.ref (cl 3))
  gc_Twice : mg "Twice" = some (.ref (cl 4))
  gc_Closed : mg "Closed" = some (.ref (cl 5))
  gc_NoSize : mg "NoSize" = some (.ref (cl 6))
  gc_NoRoom : mg "NoRoom" = some (.ref (cl 7))
  gc_NoRoll : mg "NoRoll" = some (.ref (cl 8))
  gc_NoCell : mg "NoCell" = some (.ref (cl 9))
  gc_NoRow : mg "NoRow" = some (.ref (cl 10))
  xc : ∀ n fs, (n, fs) ∈ xL → XcC K (cl n)
  xk : ∀ n fs k, (n, fs) ∈ xL → k ∈ kL → PySem.W.kitOne K (.ref (cl n)) (.ref (cl k)) = some (subX n k)
  xv : ∀ n fs, (n, fs) ∈ xL → PySem.W.kitOne K (.ref (cl n)) (.type "ValueError") = some true
section
variable {P : Program} {w : World} {K : PySem.W.Frag} {mg : Str → Option Value} {base : Heap}
theorem ok_NoRoll_init (T : Tx K mg w) : FnOk P w K mg base CX0 1 T.a_NoRoll_init T.d_NoRoll_init ["self", "at"] (spInit (T.cl 8) "at") := by
  refine (T.f_NoRoll_init).ok sc_NoRoll_init (fun vs H Q E h => by obtain ⟨a, v, rfl, _⟩ := h; rfl) (fun cdv A outer s H vs Q E hr h => ⟨tInitS K "at" "no row of a roll", ?_, init_run T.xo_NoRoll T.xn_NoRoll h⟩)
  exact pss_cons (ps_expr (pe_baseinit (by rfl) T.gc_OutError T.rd_OutError T.ga_OutError T.bi_OutError (pa_cons (pe_var (i := 0) (by rfl) (Or.inl rfl)) (pa_cons pe_str pa_nil)))) (pss_one (ps_ost (pe_var (i := 0) (by rfl) (Or.inl rfl)) (pe_var (i := 1) (by rfl) (Or.inl rfl))))
theorem ok_NoRoom_init (T : Tx K mg w) : FnOk P w K mg base CX0 1 T.a_NoRoom_init T.d_NoRoom_init ["self", "at"] (spInit (T.cl 7) "at") := by
  refine (T.f_NoRoom_init).ok sc_NoRoom_init (fun vs H Q E h => by obtain ⟨a, v, rfl, _⟩ := h; rfl) (fun cdv A outer s H vs Q E hr h => ⟨tInitS K "at" "no such room", ?_, init_run T.xo_NoRoom T.xn_NoRoom h⟩)
  exact pss_cons (ps_expr (pe_baseinit (by rfl) T.gc_OutError T.rd_OutError T.ga_OutError T.bi_OutError (pa_cons (pe_var (i := 0) (by rfl) (Or.inl rfl)) (pa_cons pe_str pa_nil)))) (pss_one (ps_ost (pe_var (i := 0) (by rfl) (Or.inl rfl)) (pe_var (i := 1) (by rfl) (Or.inl rfl))))
theorem ok_Closed_init (T : Tx K mg w) : FnOk P w K mg base CX0 1 T.a_Closed_init T.d_Closed_init ["self", "name"] (spInit (T.cl 5) "name") := by
  refine (T.f_Closed_init).ok sc_Closed_init (fun vs H Q E h => by obtain ⟨a, v, rfl, _⟩ := h; rfl) (fun cdv A outer s H vs Q E hr h => ⟨tInitS K "name" "this hand has ended", ?_, init_run T.xo_Closed T.xn_Closed h⟩)
  exact pss_cons (ps_expr (pe_baseinit (by rfl) T.gc_OutError T.rd_OutError T.ga_OutError T.bi_OutError (pa_cons (pe_var (i := 0) (by rfl) (Or.inl rfl)) (pa_cons pe_str pa_nil)))) (pss_one (ps_ost (pe_var (i := 0) (by rfl) (Or.inl rfl)) (pe_var (i := 1) (by rfl) (Or.inl rfl))))
theorem ok_Twice_init (T : Tx K mg w) : FnOk P w K mg base CX0 1 T.a_Twice_init T.d_Twice_init ["self", "name"] (spInit (T.cl 4) "name") := by
  refine (T.f_Twice_init).ok sc_Twice_init (fun vs H Q E h => by obtain ⟨a, v, rfl, _⟩ := h; rfl) (fun cdv A outer s H vs Q E hr h => ⟨tInitS K "name" "a name that comes twice", ?_, init_run T.xo_Twice T.xn_Twice h⟩)
  exact pss_cons (ps_expr (pe_baseinit (by rfl) T.gc_OutError T.rd_OutError T.ga_OutError T.bi_OutError (pa_cons (pe_var (i := 0) (by rfl) (Or.inl rfl)) (pa_cons pe_str pa_nil)))) (pss_one (ps_ost (pe_var (i := 0) (by rfl) (Or.inl rfl)) (pe_var (i := 1) (by rfl) (Or.inl rfl))))
theorem ok_NoHand_init (T : Tx K mg w) : FnOk P w K mg base CX0 1 T.a_NoHand_init T.d_NoHand_init ["self", "name"] (spInit (T.cl 3) "name") := by
  refine (T.f_NoHand_init).ok sc_NoHand_init (fun vs H Q E h => by obtain ⟨a, v, rfl, _⟩ := h; rfl) (fun cdv A outer s H vs Q E hr h => ⟨tInitS K "name" "no hand of this name", ?_, init_run T.xo_NoHand T.xn_NoHand h⟩)
  exact pss_cons (ps_expr (pe_baseinit (by rfl) T.gc_OutError T.rd_OutError T.ga_OutError T.bi_OutError (pa_cons (pe_var (i := 0) (by rfl) (Or.inl rfl)) (pa_cons pe_str pa_nil)))) (pss_one (ps_ost (pe_var (i := 0) (by rfl) (Or.inl rfl)) (pe_var (i := 1) (by rfl) (Or.inl rfl))))
theorem ok_NoSign_init (T : Tx K mg w) : FnOk P w K mg base CX0 1 T.a_NoSign_init T.d_NoSign_init ["self", "at"] (spInit (T.cl 1) "at") := by
  refine (T.f_NoSign_init).ok sc_NoSign_init (fun vs H Q E h => by obtain ⟨a, v, rfl, _⟩ := h; rfl) (fun cdv A outer s H vs Q E hr h => ⟨tInitS K "at" "no sign of a hand", ?_, init_run T.xo_NoSign T.xn_NoSign h⟩)
  exact pss_cons (ps_expr (pe_baseinit (by rfl) T.gc_OutError T.rd_OutError T.ga_OutError T.bi_OutError (pa_cons (pe_var (i := 0) (by rfl) (Or.inl rfl)) (pa_cons pe_str pa_nil)))) (pss_one (ps_ost (pe_var (i := 0) (by rfl) (Or.inl rfl)) (pe_var (i := 1) (by rfl) (Or.inl rfl))))
theorem ok_is_sign (T : Tx K mg w) : FnOk P w K mg base CX0 1 T.a_is_sign T.d_is_sign ["thing"] (spD ⟨K, T.cl, w⟩ F_is_sign) := by
  refine ok_def (N := N_is_sign) (m := m_is_sign) (kp := [true]) T.f_is_sign sc_is_sign rfl (fun cdv A outer s H XE en ek hr => ?_)
  have hu := hr.units
  have nd := (sc_is_sign).nd
  exact (s_cons (s_ret (g_f (f_and (r_f (f_isi' (r_v 0) (pe_bltn (v := .ty "str") (u := .type "str") (by rfl) T.z_str (by decide +kernel) rfl) T.z_isinstance)) (f_and (r_f (v_cmp (op_eqD hu) op_eqqD flat_eq (v_r (r_f (f_blt cr_len op_lenD (by rfl) T.z_len (by decide +kernel) (a_cons (r_v 0) a_nil)))) (v_r (r_f f_int)) (nomark _))) (f_one (f_ch opr_le op_cmpD opr_le op_cmpD (r_f (f_glS [32] T.k_FIRST)) (r_v 0) (r_f (f_glS [125] T.k_LAST)))))))) s_nil)
theorem ok_is_colour (T : Tx K mg w) : FnOk P w K mg base CX0 1 T.a_is_colour T.d_is_colour ["thing"] (spD ⟨K, T.cl, w⟩ F_is_colour) := by
  refine ok_def (N := N_is_colour) (m := m_is_colour) (kp := [true]) T.f_is_colour sc_is_colour rfl (fun cdv A outer s H XE en ek hr => ?_)
  have hu := hr.units
  have nd := (sc_is_colour).nd
  exact (s_cons (s_ret (g_f (f_and (r_f (f_isi' (r_v 0) (pe_bltn (v := .ty "str") (u := .type "str") (by rfl) T.z_str (by decide +kernel) rfl) T.z_isinstance)) (f_and (r_f (v_cmp (op_eqD hu) op_eqqD flat_eq (v_r (r_f (f_blt cr_len op_lenD (by rfl) T.z_len (by decide +kernel) (a_cons (r_v 0) a_nil)))) (v_r (r_f f_int)) (nomark _))) (f_one (f_in hu (r_v 0) (r_f (f_glS [97, 98, 99, 100, 101, 102, 103, 104, 46] T.k_COLOURS)))))))) s_nil)
theorem ok_checked__X1 (T : Tx K mg w) : FnOk P w K mg base (L2N.CX P w) 3 T.a_checked__X1 T.d_checked__X1 ["text"] (spX ⟨K, T.cl, w⟩ F_checked__X1) := by
  refine ok_defX (N := N_checked__X1) (m := m_checked__X1) (kp := [true]) T.f_checked__X1 sc_checked__X1 rfl (fun cdv A outer s H XE en ek ex hr => ?_)
  have hu := hr.units
  have nd := (sc_checked__X1).nd
  exact (s_cons (s_if (t_not (t_val (r_f (f_isi' (r_v 0) (pe_bltn (v := .ty "str") (u := .type "str") (by rfl) T.z_str (by decide +kernel) rfl) T.z_isinstance)))) (s_cons (s_raise1 1 rfl (by rw [ex]; exact L2N.takes_of rfl rfl rfl rfl) T.xo_NoSign T.xic_NoSign T.xit_NoSign (ok_NoSign_init T) (hr.mono (by decide)) T.b_NoSign_init pass0 (by rfl) T.gc_NoSign (r_f f_int)) s_nil) s_nil)
      (s_cons (s_for [1, 2] (passes_of rfl) rfl (i_enumS (by rfl) T.z_enumerate (r_v 0)) (g_tup rfl (gs_cons (g_name 1 nd (by rfl) (by first | exact Or.inl rfl | exact Or.inr rfl) (by rw [ek]; decide)) (gs_cons (g_name 2 nd (by rfl) (by first | exact Or.inl rfl | exact Or.inr rfl) (by rw [ek]; decide)) gs_nil)) (hlen := len_cons (len_cons (fun _ _ _ h => len_nil h)))) (s_cons (s_if (t_w (w_and (t_not (t_val (r_f (f_call (ok_is_sign T) (hr.mono (by decide)) (by rfl) T.g_is_sign T.f_is_sign.kp T.b_is_sign pass0 (a_cons (r_v 2) a_nil))))) (w_and1 (t_nin hu (r_v 2) (r_f (f_glS [10, 9] T.k_CONTROLS)))))) (s_cons (s_raise1 1 rfl (by rw [ex]; exact L2N.takes_of rfl rfl rfl rfl) T.xo_NoSign T.xic_NoSign T.xit_NoSign (ok_NoSign_init T) (hr.mono (by decide)) T.b_NoSign_init pass0 (by rfl) T.gc_NoSign (r_v 1)) s_nil) s_nil)
      s_nil))
      s_nil))
theorem ok_checked (T : Tx K mg w) : FnOk P w K mg base CX0 2 T.a_checked T.d_checked ["text"] (spD ⟨K, T.cl, w⟩ F_checked) := by
  refine ok_def (N := N_checked) (m := m_checked) (kp := [true]) T.f_checked sc_checked rfl (fun cdv A outer s H XE en ek hr => ?_)
  have hu := hr.units
  have nd := (sc_checked).nd
  exact (s_cons (s_if (t_not (t_val (r_f (f_isi' (r_v 0) (pe_bltn (v := .ty "str") (u := .type "str") (by rfl) T.z_str (by decide +kernel) rfl) T.z_isinstance)))) ss_never s_nil)
      (s_cons (s_for [1, 2] PassesOwn.never rfl (i_enumS (by rfl) T.z_enumerate (r_v 0)) (g_tup rfl (gs_cons (g_name 1 nd (by rfl) (by first | exact Or.inl rfl | exact Or.inr rfl) (by rw [ek]; decide)) (gs_cons (g_name 2 nd (by rfl) (by first | exact Or.inl rfl | exact Or.inr rfl) (by rw [ek]; decide)) gs_nil)) (hlen := len_cons (len_cons (fun _ _ _ h => len_nil h)))) (s_cons (s_if (t_w (w_and (t_not (t_val (r_f (f_call (ok_is_sign T) (hr.mono (by decide)) (by rfl) T.g_is_sign T.f_is_sign.kp T.b_is_sign pass0 (a_cons (r_v 2) a_nil))))) (w_and1 (t_nin hu (r_v 2) (r_f (f_glS [10, 9] T.k_CONTROLS)))))) ss_never s_nil)
      s_nil))
      s_nil))
theorem ok_sign_item (T : Tx K mg w) : FnOk P w K mg base CX0 1 T.a_sign_item T.d_sign_item ["place", "sign"] (spD ⟨K, T.cl, w⟩ F_sign_item) := by
  refine ok_def (N := N_sign_item) (m := m_sign_item) (kp := [true, true]) T.f_sign_item sc_sign_item rfl (fun cdv A outer s H XE en ek hr => ?_)
  have hu := hr.units
  have nd := (sc_sign_item).nd
  exact (s_cons (s_if (t_inK (r_v 1) (by rfl) T.k_ENDS) (s_cons (s_ret (g_f (f_tup (a_cons (r_v 0) (a_cons (r_f (f_ixK (r_v 1) (by rfl) T.k_ENDS)) (a_cons (r_f (f_str [])) a_nil)))))) s_nil) s_nil)
      (s_cons (s_ret (g_f (f_tup (a_cons (r_v 0) (a_cons (r_f (f_str [115, 105, 103, 110])) (a_cons (r_v 1) a_nil)))))) s_nil))
theorem ok_begins_mark (T : Tx K mg w) : FnOk P w K mg base CX0 2 T.a_begins_mark T.d_begins_mark ["text"] (spD ⟨K, T.cl, w⟩ F_begins_mark) := by
  refine ok_def (N := N_begins_mark) (m := m_begins_mark) (kp := [true]) T.f_begins_mark sc_begins_mark rfl (fun cdv A outer s H XE en ek hr => ?_)
  have hu := hr.units
  have nd := (sc_begins_mark).nd
  exact (s_cons (s_if (t_in hu (r_v 0) (r_f (f_tup (a_cons (r_f (f_str [91])) (a_cons (r_f (f_str [91, 47])) a_nil))))) (s_cons (s_ret (g_f f_bl)) s_nil) s_nil)
      (s_cons (s_if (t_w (w_and (tv_cmp (op_eqD hu) op_eqqD flat_eq (v_r (r_f (f_blt cr_len op_lenD (by rfl) T.z_len (by decide +kernel) (a_cons (r_v 0) a_nil)))) (v_r (r_f f_int)) (nomark _)) (w_and1 (tv_cmp (op_eqD hu) op_eqqD flat_eq (v_r (r_ix hu (r_v 0) (r_f f_int))) (v_r (r_f (f_str [91]))) (nomark _))))) (s_cons (s_ret (g_f (f_call (ok_is_colour T) (hr.mono (by decide)) (by rfl) T.g_is_colour T.f_is_colour.kp T.b_is_colour pass0 (a_cons (r_ix hu (r_v 0) (r_f f_int)) a_nil)))) s_nil) s_nil)
      (s_cons (s_ret (g_f (f_and (r_f (v_cmp (op_eqD hu) op_eqqD flat_eq (v_r (r_f (f_blt cr_len op_lenD (by rfl) T.z_len (by decide +kernel) (a_cons (r_v 0) a_nil)))) (v_r (r_f f_int)) (nomark _))) (f_and (r_f (v_cmp (op_eqD hu) op_eqqD flat_eq (v_r (r_f (f_sl (r_v 0) o_none (o_some (r_f f_int))))) (v_r (r_f (f_str [91, 47]))) (nomark _))) (f_one (f_call (ok_is_colour T) (hr.mono (by decide)) (by rfl) T.g_is_colour T.f_is_colour.kp T.b_is_colour pass0 (a_cons (r_ix hu (r_v 0) (r_f f_int)) a_nil))))))) s_nil)))
theorem ok_mark_item (T : Tx K mg w) : FnOk P w K mg base CX0 2 T.a_mark_item T.d_mark_item ["place", "text"] (spD ⟨K, T.cl, w⟩ F_mark_item) := by
  refine ok_def (N := N_mark_item) (m := m_mark_item) (kp := [true, true]) T.f_mark_item sc_mark_item rfl (fun cdv A outer s H XE en ek hr => ?_)
  have hu := hr.units
  have nd := (sc_mark_item).nd
  exact (s_cons (s_if (tv_cmp (op_eqD hu) op_eqqD flat_eq (v_r (r_v 1)) (v_r (r_f (f_str [91, 91]))) (nomark _)) (s_cons (s_ret (g_f (f_tup (a_cons (r_v 0) (a_cons (r_f (f_str [115, 105, 103, 110])) (a_cons (r_f (f_str [91])) a_nil)))))) s_nil) s_nil)
      (s_cons (s_if (tv_cmp (op_eqD hu) op_eqqD flat_eq (v_r (r_v 1)) (v_r (r_f (f_str [91, 93]))) (nomark _)) (s_cons (s_ret (g_f (f_tup (a_cons (r_v 0) (a_cons (r_f (f_str [112, 108, 97, 105, 110])) (a_cons (r_f (f_str [])) a_nil)))))) s_nil) s_nil)
      (s_cons (s_if (t_w (w_and (tv_cmp (op_eqD hu) op_eqqD flat_eq (v_r (r_f (f_blt cr_len op_lenD (by rfl) T.z_len (by decide +kernel) (a_cons (r_v 1) a_nil)))) (v_r (r_f f_int)) (nomark _)) (w_and (tv_cmp (op_eqD hu) op_eqqD flat_eq (v_r (r_ix hu (r_v 1) (r_f f_int))) (v_r (r_f (f_str [91]))) (nomark _)) (w_and (t_val (r_f (f_call (ok_is_colour T) (hr.mono (by decide)) (by rfl) T.g_is_colour T.f_is_colour.kp T.b_is_colour pass0 (a_cons (r_ix hu (r_v 1) (r_f f_int)) a_nil)))) (w_and1 (tv_cmp (op_eqD hu) op_eqqD flat_eq (v_r (r_ix hu (r_v 1) (r_f f_int))) (v_r (r_f (f_str [93]))) (nomark _))))))) (s_cons (s_ret (g_f (f_tup (a_cons (r_v 0) (a_cons (r_f (f_str [105, 110, 107])) (a_cons (r_ix hu (r_v 1) (r_f f_int)) a_nil)))))) s_nil) s_nil)
      (s_cons (s_if (t_w (w_and (tv_cmp (op_eqD hu) op_eqqD flat_eq (v_r (r_f (f_blt cr_len op_lenD (by rfl) T.z_len (by decide +kernel) (a_cons (r_v 1) a_nil)))) (v_r (r_f f_int)) (nomark _)) (w_and (tv_cmp (op_eqD hu) op_eqqD flat_eq (v_r (r_f (f_sl (r_v 1) o_none (o_some (r_f f_int))))) (v_r (r_f (f_str [91, 47]))) (nomark _)) (w_and (t_val (r_f (f_call (ok_is_colour T) (hr.mono (by decide)) (by rfl) T.g_is_colour T.f_is_colour.kp T.b_is_colour pass0 (a_cons (r_ix hu (r_v 1) (r_f f_int)) a_nil)))) (w_and1 (tv_cmp (op_eqD hu) op_eqqD flat_eq (v_r (r_ix hu (r_v 1) (r_f f_int))) (v_r (r_f (f_str [93]))) (nomark _))))))) (s_cons (s_ret (g_f (f_tup (a_cons (r_v 0) (a_cons (r_f (f_str [103, 114, 111, 117, 110, 100])) (a_cons (r_ix hu (r_v 1) (r_f f_int)) a_nil)))))) s_nil) s_nil)
      (s_cons (s_ret (g_f f_non)) s_nil)))))
theorem ok_Reader_init (T : Tx K mg w) : FnOk P w K mg base CX0 1 T.a_Reader_init T.d_Reader_init ["self"] (spD ⟨K, T.cl, w⟩ F_Reader_init) := by
  refine ok_def (N := N_Reader_init) (m := m_Reader_init) (kp := [true]) T.f_Reader_init sc_Reader_init rfl (fun cdv A outer s H XE en ek hr => ?_)
  have hu := hr.units
  have nd := (sc_Reader_init).nd
  exact (s_cons (s_fld 11 T.cls_Reader T.na_Reader_kept (g_f (f_str [])) (p_v 0))
      (s_cons (s_fld 11 T.cls_Reader T.na_Reader_place (g_f f_int) (p_v 0))
      s_nil))
theorem ok_Reader_held_text (T : Tx K mg w) : FnOk P w K mg base CX0 1 T.a_Reader_held_text T.d_Reader_held_text ["self"] (spD ⟨K, T.cl, w⟩ F_Reader_held_text) := by
  refine ok_def (N := N_Reader_held_text) (m := m_Reader_held_text) (kp := [true]) T.f_Reader_held_text sc_Reader_held_text rfl (fun cdv A outer s H XE en ek hr => ?_)
  have hu := hr.units
  have nd := (sc_Reader_held_text).nd
  exact (s_cons (s_ret (g_r (r_pl (p_fld 11 T.cls_Reader T.na_Reader_kept (p_v 0))))) s_nil)
theorem ok_Reader_told (T : Tx K mg w) : FnOk P w K mg base CX0 2 T.a_Reader_told T.d_Reader_told ["self", "many"] (spD ⟨K, T.cl, w⟩ F_Reader_told) := by
  refine ok_def (N := N_Reader_told) (m := m_Reader_told) (kp := [true, true]) T.f_Reader_told sc_Reader_told rfl (fun cdv A outer s H XE en ek hr => ?_)
  have hu := hr.units
  have nd := (sc_Reader_told).nd
  exact (s_cons (s_set 2 nd (by rfl) (by first | exact Or.inl rfl | exact Or.inr rfl) (by rw [ek]; decide) (g_f (f_lst a_nil)))
      (s_cons (s_for [3] PassesOwn.never rfl (i_seq (r_f (f_sl (r_pl (p_fld 11 T.cls_Reader T.na_Reader_kept (p_v 0))) o_none (o_some (r_v 1))))) (g_name 3 nd (by rfl) (by first | exact Or.inl rfl | exact Or.inr rfl) (by rw [ek]; decide)) (s_cons (s_expr (g_app (p_v 2) (f_call (ok_sign_item T) (hr.mono (by decide)) (by rfl) T.g_sign_item T.f_sign_item.kp T.b_sign_item pass0 (a_cons (r_pl (p_fld 11 T.cls_Reader T.na_Reader_place (p_v 0))) (a_cons (r_v 3) a_nil)))))
      (s_cons (s_fld 11 T.cls_Reader T.na_Reader_place (g_f (f_bin opr_add op_addD (r_pl (p_fld 11 T.cls_Reader T.na_Reader_place (p_v 0))) (r_f f_int))) (p_v 0))
      s_nil)))
      (s_cons (s_fld 11 T.cls_Reader T.na_Reader_kept (g_f (f_sl (r_pl (p_fld 11 T.cls_Reader T.na_Reader_kept (p_v 0))) (o_some (r_v 1)) o_none)) (p_v 0))
      (s_cons (s_ret (g_mv (p_v 2))) s_nil))))
theorem ok_Reader_take (T : Tx K mg w) : FnOk P w K mg base CX0 3 T.a_Reader_take T.d_Reader_take ["self", "sign"] (spD ⟨K, T.cl, w⟩ F_Reader_take) := by
  refine ok_def (N := N_Reader_take) (m := m_Reader_take) (kp := [true, true]) T.f_Reader_take sc_Reader_take rfl (fun cdv A outer s H XE en ek hr => ?_)
  have hu := hr.units
  have nd := (sc_Reader_take).nd
  exact (s_cons (s_set 2 nd (by rfl) (by first | exact Or.inl rfl | exact Or.inr rfl) (by rw [ek]; decide) (g_f (f_call (ok_mark_item T) (hr.mono (by decide)) (by rfl) T.g_mark_item T.f_mark_item.kp T.b_mark_item pass0 (a_cons (r_pl (p_fld 11 T.cls_Reader T.na_Reader_place (p_v 0))) (a_cons (r_f (f_bin opr_add op_addD (r_pl (p_fld 11 T.cls_Reader T.na_Reader_kept (p_v 0))) (r_v 1))) a_nil)))))
      (s_cons (s_if (t_cmp opr_nis op_nisD (r_v 2) (r_f f_non) (nomark _)) (s_cons (s_fld 11 T.cls_Reader T.na_Reader_place (g_f (f_bin opr_add op_addD (r_f (f_bin opr_add op_addD (r_pl (p_fld 11 T.cls_Reader T.na_Reader_place (p_v 0))) (r_f (f_blt cr_len op_lenD (by rfl) T.z_len (by decide +kernel) (a_cons (r_pl (p_fld 11 T.cls_Reader T.na_Reader_kept (p_v 0))) a_nil))))) (r_f f_int))) (p_v 0))
      (s_cons (s_fld 11 T.cls_Reader T.na_Reader_kept (g_f (f_str [])) (p_v 0))
      (s_cons (s_ret (g_f (f_lst (a_cons (r_v 2) a_nil)))) s_nil))) s_nil)
      (s_cons (s_if (t_val (r_f (f_call (ok_begins_mark T) (hr.mono (by decide)) (by rfl) T.g_begins_mark T.f_begins_mark.kp T.b_begins_mark pass0 (a_cons (r_f (f_bin opr_add op_addD (r_pl (p_fld 11 T.cls_Reader T.na_Reader_kept (p_v 0))) (r_v 1))) a_nil)))) (s_cons (s_fld 11 T.cls_Reader T.na_Reader_kept (g_f (f_bin opr_add op_addD (r_pl (p_fld 11 T.cls_Reader T.na_Reader_kept (p_v 0))) (r_v 1))) (p_v 0))
      (s_cons (s_ret (g_f (f_lst a_nil))) s_nil)) s_nil)
      (s_cons (s_set 3 nd (by rfl) (by first | exact Or.inl rfl | exact Or.inr rfl) (by rw [ek]; decide) (g_meth 11 (p_v 0) T.cls_Reader T.me_Reader_told (ok_Reader_told T) (hr.mono (by decide)) T.b_Reader_told pass0 (a_cons (r_f (f_blt cr_len op_lenD (by rfl) T.z_len (by decide +kernel) (a_cons (r_pl (p_fld 11 T.cls_Reader T.na_Reader_kept (p_v 0))) a_nil))) a_nil)))
      (s_cons (s_fld 11 T.cls_Reader T.na_Reader_kept (g_r (r_v 1)) (p_v 0))
      (s_cons (s_if (tv_cmp (op_neD hu) op_neqD flat_ne (v_r (r_v 1)) (v_r (r_f (f_str [91]))) (nomark _)) (s_cons (s_expr (g_ext 3 (g_meth 11 (p_v 0) T.cls_Reader T.me_Reader_told (ok_Reader_told T) (hr.mono (by decide)) T.b_Reader_told pass0 (a_cons (r_f f_int) a_nil))))
      s_nil) s_nil)
      (s_kill [] (s_cons (s_ret (g_mv (p_v 3))) s_nil))))))))
theorem ok_Reader_feed__X1 (T : Tx K mg w) : FnOk P w K mg base (L2N.CX P w) 4 T.a_Reader_feed__X1 T.d_Reader_feed__X1 ["self", "piece"] (spX ⟨K, T.cl, w⟩ F_Reader_feed__X1) := by
  refine ok_defX (N := N_Reader_feed__X1) (m := m_Reader_feed__X1) (kp := [true, true]) T.f_Reader_feed__X1 sc_Reader_feed__X1 rfl (fun cdv A outer s H XE en ek ex hr => ?_)
  have hu := hr.units
  have nd := (sc_Reader_feed__X1).nd
  exact (s_cons (s_exprX (f_callX (ok_checked__X1 T) (hr.mono (by decide)) (by rfl) T.g_checked__X1 T.f_checked__X1.kp T.b_checked__X1 (by rw [ex]; exact L2N.takes_of rfl rfl rfl rfl) (a_cons (r_v 1) a_nil)))
      (s_cons (s_set 2 nd (by rfl) (by first | exact Or.inl rfl | exact Or.inr rfl) (by rw [ek]; decide) (g_f (f_lst a_nil)))
      (s_cons (s_for [3] (passes_of rfl) rfl (i_seq (r_v 1)) (g_name 3 nd (by rfl) (by first | exact Or.inl rfl | exact Or.inr rfl) (by rw [ek]; decide)) (s_cons (s_expr (g_ext 2 (g_meth 11 (p_v 0) T.cls_Reader T.me_Reader_take (ok_Reader_take T) (hr.mono (by decide)) T.b_Reader_take pass0 (a_cons (r_v 3) a_nil))))
      s_nil))
      (s_cons (s_ret (g_mv (p_v 2))) s_nil))))
theorem ok_Reader_feed (T : Tx K mg w) : FnOk P w K mg base CX0 4 T.a_Reader_feed T.d_Reader_feed ["self", "piece"] (spD ⟨K, T.cl, w⟩ F_Reader_feed) := by
  refine ok_def (N := N_Reader_feed) (m := m_Reader_feed) (kp := [true, true]) T.f_Reader_feed sc_Reader_feed rfl (fun cdv A outer s H XE en ek hr => ?_)
  have hu := hr.units
  have nd := (sc_Reader_feed).nd
  exact (s_cons (s_expr (g_f (f_call (ok_checked T) (hr.mono (by decide)) (by rfl) T.g_checked T.f_checked.kp T.b_checked pass0 (a_cons (r_v 1) a_nil))))
      (s_cons (s_set 2 nd (by rfl) (by first | exact Or.inl rfl | exact Or.inr rfl) (by rw [ek]; decide) (g_f (f_lst a_nil)))
      (s_cons (s_for [3] PassesOwn.never rfl (i_seq (r_v 1)) (g_name 3 nd (by rfl) (by first | exact Or.inl rfl | exact Or.inr rfl) (by rw [ek]; decide)) (s_cons (s_expr (g_ext 2 (g_meth 11 (p_v 0) T.cls_Reader T.me_Reader_take (ok_Reader_take T) (hr.mono (by decide)) T.b_Reader_take pass0 (a_cons (r_v 3) a_nil))))
      s_nil))
      (s_cons (s_ret (g_mv (p_v 2))) s_nil))))
theorem ok_Reader_finish (T : Tx K mg w) : FnOk P w K mg base CX0 3 T.a_Reader_finish T.d_Reader_finish ["self"] (spD ⟨K, T.cl, w⟩ F_Reader_finish) := by
  refine ok_def (N := N_Reader_finish) (m := m_Reader_finish) (kp := [true]) T.f_Reader_finish sc_Reader_finish rfl (fun cdv A outer s H XE en ek hr => ?_)
  have hu := hr.units
  have nd := (sc_Reader_finish).nd
  exact (s_cons (s_ret (g_meth 11 (p_v 0) T.cls_Reader T.me_Reader_told (ok_Reader_told T) (hr.mono (by decide)) T.b_Reader_told pass0 (a_cons (r_f (f_blt cr_len op_lenD (by rfl) T.z_len (by decide +kernel) (a_cons (r_pl (p_fld 11 T.cls_Reader T.na_Reader_kept (p_v 0))) a_nil))) a_nil))) s_nil)
theorem ok_items_of__X1 (T : Tx K mg w) : FnOk P w K mg base (L2N.CX P w) 5 T.a_items_of__X1 T.d_items_of__X1 ["text"] (spX ⟨K, T.cl, w⟩ F_items_of__X1) := by
  refine ok_defX (N := N_items_of__X1) (m := m_items_of__X1) (kp := [true]) T.f_items_of__X1 sc_items_of__X1 rfl (fun cdv A outer s H XE en ek ex hr => ?_)
  have hu := hr.units
  have nd := (sc_items_of__X1).nd
  exact (s_cons (s_set 1 nd (by rfl) (by first | exact Or.inl rfl | exact Or.inr rfl) (by rw [ek]; decide) (g_f (f_mk0 11 T.mk_Reader (ok_Reader_init T) (hr.mono (by decide)) (by rfl) T.gc_Reader T.b_Reader_init pass0)))
      (s_cons (s_setX 2 nd (by rfl) (by first | exact Or.inl rfl | exact Or.inr rfl) (by rw [ek]; decide) (f_methX 11 (p_v 1) T.cls_Reader T.me_Reader_feed__X1 (ok_Reader_feed__X1 T) (hr.mono (by decide)) T.b_Reader_feed__X1 (by rw [ex]; exact L2N.takes_of rfl rfl rfl rfl) (a_cons (r_v 0) a_nil)))
      (s_frz 2 (s_cons (s_ret (g_cold (g_binV 2 opr_add op_addD (g_meth0 11 (p_v 1) T.cls_Reader T.me_Reader_finish (ok_Reader_finish T) (hr.mono (by decide)) T.b_Reader_finish pass0)))) s_nil))))
theorem ok_lw_cell (T : Tx K mg w) : FnOk P w K mg base CX0 1 T.a_lw_cell T.d_lw_cell ["_law_script", "_law_k"] (spD ⟨K, T.cl, w⟩ F_lw_cell) := by
  refine ok_def (N := N_lw_cell) (m := m_lw_cell) (kp := [true, true]) T.f_lw_cell sc_lw_cell rfl (fun cdv A outer s H XE en ek hr => ?_)
  have hu := hr.units
  have nd := (sc_lw_cell).nd
  exact (s_cons (s_if (t_cmp opr_lt op_cmpD (r_v 1) (r_f (f_blt cr_len op_lenD (by rfl) T.z_len (by decide +kernel) (a_cons (r_v 0) a_nil))) (nomark _)) (s_cons (s_ret (g_r (r_ix hu (r_v 0) (r_v 1)))) s_nil) s_nil)
      (s_cons (s_ret (g_f f_int)) s_nil))
theorem okH_lw_whole (T : Tx K mg w) : L2H.FnH P w K mg base CX0 1 T.a_lw_whole T.d_lw_whole ["_law_found"] (spD ⟨K, T.cl, w⟩ F_lw_whole) := by
  refine okH_def (N := N_lw_whole) (m := m_lw_whole) (kp := [true]) T.f_lw_whole sc_lw_whole rfl (fun cdv A outer s H XE p en ek hr => ?_)
  have hu := roomH_units hr
  have nd := (sc_lw_whole).nd
  exact (s_cons (s_ret (g_f (f_and (r_f (f_isi' (r_v 0) (pe_bltn (v := .ty "int") (u := .type "int") (by rfl) T.z_int (by decide +kernel) rfl) T.z_isinstance)) (f_one (f_not (r_f (f_isi' (r_v 0) (pe_bltn (v := .ty "bool") (u := .type "bool") (by rfl) T.z_bool (by decide +kernel) rfl) T.z_isinstance))))))) s_nil)
theorem ok_lw_mix (T : Tx K mg w) : FnOk P w K mg base CX0 1 T.a_lw_mix T.d_lw_mix ["_law_cell_here", "_law_k"] (spD ⟨K, T.cl, w⟩ F_lw_mix) := by
  refine ok_def (N := N_lw_mix) (m := m_lw_mix) (kp := [true, true]) T.f_lw_mix sc_lw_mix rfl (fun cdv A outer s H XE en ek hr => ?_)
  have hu := hr.units
  have nd := (sc_lw_mix).nd
  exact (s_cons (s_if (t_cmp opr_gt op_cmpD (r_v 0) (r_f (f_bin op_pow op_powD (r_f f_int) (r_f f_int))) (nomark _)) (s_cons (s_set 2 nd (by rfl) (by first | exact Or.inl rfl | exact Or.inr rfl) (by rw [ek]; decide) (g_r (r_v 0)))
      (s_cons (s_for [3] PassesOwn.never rfl (i_rng1 (by rfl) T.z_range (r_v 1)) (g_name 3 nd (by rfl) (by first | exact Or.inl rfl | exact Or.inr rfl) (by rw [ek]; decide)) (s_cons (s_set 2 nd (by rfl) (by first | exact Or.inl rfl | exact Or.inr rfl) (by rw [ek]; decide) (g_f (f_bin op_fdivW op_fdivD (r_v 2) (r_f (f_bin op_pow op_powD (r_f f_int) (r_f f_int))))))
      s_nil))
      (s_cons (s_ret (g_f (f_bin op_mod op_modD (r_v 2) (r_f (f_bin op_pow op_powD (r_f f_int) (r_f f_int)))))) s_nil))) s_nil)
      (s_cons (s_set 4 nd (by rfl) (by first | exact Or.inl rfl | exact Or.inr rfl) (by rw [ek]; decide) (g_f (f_bin opr_add op_addD (r_f (f_bin op_mod op_modD (r_v 0) (r_f f_int))) (r_f f_int))))
      (s_cons (s_for [3] PassesOwn.never rfl (i_rng1 (by rfl) T.z_range (r_f (f_bin opr_add op_addD (r_v 1) (r_f f_int)))) (g_name 3 nd (by rfl) (by first | exact Or.inl rfl | exact Or.inr rfl) (by rw [ek]; decide)) (s_cons (s_set 4 nd (by rfl) (by first | exact Or.inl rfl | exact Or.inr rfl) (by rw [ek]; decide) (g_f (f_bin op_mod op_modD (r_f (f_bin opr_add op_addD (r_f (f_bin opr_mul op_mulD (r_v 4) (r_f f_int))) (r_f f_int))) (r_f f_int))))
      s_nil))
      (s_cons (s_ret (g_f (f_bin op_fdivW op_fdivD (r_f (f_bin op_mod op_modD (r_f (f_bin opr_mul op_mulD (r_v 4) (r_v 4))) (r_f f_int))) (r_f f_int)))) s_nil))))
theorem ok_lw_signs (T : Tx K mg w) : FnOk P w K mg base CX0 1 T.a_lw_signs T.d_lw_signs [] (spD ⟨K, T.cl, w⟩ F_lw_signs) := by
  refine ok_def (N := N_lw_signs) (m := m_lw_signs) (kp := []) T.f_lw_signs sc_lw_signs rfl (fun cdv A outer s H XE en ek hr => ?_)
  have hu := hr.units
  have nd := (sc_lw_signs).nd
  exact (s_cons (s_set 0 nd (by rfl) (by first | exact Or.inl rfl | exact Or.inr rfl) (by rw [ek]; decide) (g_f (f_str [32, 33, 34, 35, 36, 38, 39, 40, 41, 42, 43, 44, 45, 46, 47, 48, 49, 50, 51, 52, 53, 54, 55, 56, 57, 58, 59, 60, 61, 62, 63, 64, 65, 66, 67, 68, 69, 70, 71, 72, 73, 74, 75, 76, 77, 78, 79, 80, 81, 82, 83, 84, 85, 86, 87, 88, 89, 90])))
      (s_cons (s_ret (g_f (f_bin opr_add op_addD (r_v 0) (r_f (f_str [91, 92, 93, 94, 95, 96, 97, 98, 99, 100, 101, 102, 103, 104, 105, 106, 107, 108, 109, 110, 111, 112, 113, 114, 115, 116, 117, 118, 119, 120, 121, 122, 123, 124, 125]))))) s_nil))
theorem ok_lw_token (T : Tx K mg w) : FnOk P w K mg base CX0 2 T.a_lw_token T.d_lw_token ["_law_cell_here"] (spD ⟨K, T.cl, w⟩ F_lw_token) := by
  refine ok_def (N := N_lw_token) (m := m_lw_token) (kp := [true]) T.f_lw_token sc_lw_token rfl (fun cdv A outer s H XE en ek hr => ?_)
  have hu := hr.units
  have nd := (sc_lw_token).nd
  exact (s_cons (s_set 1 nd (by rfl) (by first | exact Or.inl rfl | exact Or.inr rfl) (by rw [ek]; decide) (g_r (r_ix hu (r_f (f_str [97, 98, 99, 100, 101, 102, 103, 104, 46])) (r_f (f_bin op_mod op_modD (r_f (f_call (ok_lw_mix T) (hr.mono (by decide)) (by rfl) T.g_lw_mix T.f_lw_mix.kp T.b_lw_mix pass0 (a_cons (r_v 0) (a_cons (r_f f_int) a_nil)))) (r_f f_int))))))
      (s_cons (s_set 2 nd (by rfl) (by first | exact Or.inl rfl | exact Or.inr rfl) (by rw [ek]; decide) (g_f (f_bin op_mod op_modD (r_f (f_call (ok_lw_mix T) (hr.mono (by decide)) (by rfl) T.g_lw_mix T.f_lw_mix.kp T.b_lw_mix pass0 (a_cons (r_v 0) (a_cons (r_f f_int) a_nil)))) (r_f f_int))))
      (s_cons (s_set 3 nd (by rfl) (by first | exact Or.inl rfl | exact Or.inr rfl) (by rw [ek]; decide) (g_f (f_call (ok_lw_mix T) (hr.mono (by decide)) (by rfl) T.g_lw_mix T.f_lw_mix.kp T.b_lw_mix pass0 (a_cons (r_v 0) (a_cons (r_f f_int) a_nil)))))
      (s_cons (s_set 4 nd (by rfl) (by first | exact Or.inl rfl | exact Or.inr rfl) (by rw [ek]; decide) (g_f (f_lst (a_cons (r_f (f_str [91])) (a_cons (r_f (f_str [91, 47])) (a_cons (r_f (f_bin opr_add op_addD (r_f (f_str [91])) (r_v 1))) (a_cons (r_f (f_bin opr_add op_addD (r_f (f_str [91, 47])) (r_v 1))) (a_cons (r_f (f_str [91, 105, 93])) (a_cons (r_f (f_str [91, 47, 93])) (a_cons (r_f (f_bin opr_add op_addD (r_f (f_bin opr_add op_addD (r_f (f_bin opr_add op_addD (r_f (f_str [91])) (r_v 1))) (r_v 1))) (r_f (f_str [93])))) (a_cons (r_f (f_str [91, 65, 93])) (a_cons (r_f (f_str [91, 47, 105, 93])) (a_cons (r_f (f_str [91, 91, 91])) a_nil)))))))))))))
      (s_cons (s_set 4 nd (by rfl) (by first | exact Or.inl rfl | exact Or.inr rfl) (by rw [ek]; decide) (g_f (f_bin opr_add op_addD (r_v 4) (r_f (f_lst (a_cons (r_f (f_str [91, 47, 91])) (a_cons (r_f (f_bin opr_add op_addD (r_f (f_bin opr_add op_addD (r_f (f_str [91])) (r_v 1))) (r_f (f_str [91])))) (a_cons (r_f (f_bin opr_add op_addD (r_f (f_bin opr_add op_addD (r_f (f_str [91, 47])) (r_v 1))) (r_f (f_str [47, 93])))) (a_cons (r_f (f_bin opr_add op_addD (r_f (f_bin opr_add op_addD (r_f (f_str [91, 47, 47])) (r_v 1))) (r_f (f_str [93])))) (a_cons (r_f (f_bin opr_add op_addD (r_f (f_bin opr_add op_addD (r_f (f_str [91])) (r_v 1))) (r_f (f_str [10])))) (a_cons (r_f (f_str [93])) (a_cons (r_f (f_str [47])) a_nil))))))))))))
      (s_cons (s_expr (g_app (p_v 4) (f_bin opr_add op_addD (r_f (f_bin opr_add op_addD (r_f (f_str [91, 47])) (r_v 1))) (r_f (f_str [9, 93])))))
      (s_cons (s_if (t_cmp opr_lt op_cmpD (r_v 2) (r_f f_int) (nomark _)) (s_cons (s_ret (g_r (r_ix hu (r_f (f_call0 (ok_lw_signs T) (hr.mono (by decide)) (by rfl) T.g_lw_signs T.f_lw_signs.kp T.b_lw_signs pass0)) (r_f (f_bin op_mod op_modD (r_v 3) (r_f f_int)))))) s_nil) s_nil)
      (s_cons (s_if (tv_cmp (op_eqD hu) op_eqqD flat_eq (v_r (r_v 2)) (v_r (r_f f_int)) (nomark _)) (s_cons (s_ret (g_r (r_ix hu (r_f (f_str [32, 65, 66, 90])) (r_f (f_bin op_mod op_modD (r_v 3) (r_f f_int)))))) s_nil) s_nil)
      (s_cons (s_if (tv_cmp (op_eqD hu) op_eqqD flat_eq (v_r (r_v 2)) (v_r (r_f f_int)) (nomark _)) (s_cons (s_ret (g_f (f_bin opr_add op_addD (r_f (f_bin opr_add op_addD (r_f (f_str [91])) (r_v 1))) (r_f (f_str [93]))))) s_nil) s_nil)
      (s_cons (s_if (tv_cmp (op_eqD hu) op_eqqD flat_eq (v_r (r_v 2)) (v_r (r_f f_int)) (nomark _)) (s_cons (s_ret (g_f (f_bin opr_add op_addD (r_f (f_bin opr_add op_addD (r_f (f_str [91, 47])) (r_v 1))) (r_f (f_str [93]))))) s_nil) s_nil)
      (s_cons (s_if (tv_cmp (op_eqD hu) op_eqqD flat_eq (v_r (r_v 2)) (v_r (r_f f_int)) (nomark _)) (s_cons (s_ret (g_r (r_ix hu (r_f (f_lst (a_cons (r_f (f_str [91, 93])) (a_cons (r_f (f_str [91, 91])) (a_cons (r_f (f_str [91, 93, 93])) (a_cons (r_f (f_str [91, 91, 93])) a_nil)))))) (r_f (f_bin op_mod op_modD (r_v 3) (r_f f_int)))))) s_nil) s_nil)
      (s_cons (s_if (tv_cmp (op_eqD hu) op_eqqD flat_eq (v_r (r_v 2)) (v_r (r_f f_int)) (nomark _)) (s_cons (s_ret (g_r (r_ix hu (r_f (f_lst (a_cons (r_f (f_str [10])) (a_cons (r_f (f_str [9])) (a_cons (r_f (f_str [10])) a_nil))))) (r_f (f_bin op_mod op_modD (r_v 3) (r_f f_int)))))) s_nil) s_nil)
      (s_cons (s_if (tv_cmp (op_eqD hu) op_eqqD flat_eq (v_r (r_v 2)) (v_r (r_f f_int)) (nomark _)) (s_cons (s_ret (g_r (r_v 1))) s_nil) s_nil)
      (s_cons (s_if (tv_cmp (op_eqD hu) op_eqqD flat_eq (v_r (r_v 2)) (v_r (r_f f_int)) (nomark _)) (s_cons (s_ret (g_f (f_sl (r_f (f_str [111, 117, 116, 119, 101, 97, 118, 101, 115])) o_none (o_some (r_f (f_bin opr_add op_addD (r_f f_int) (r_f (f_bin op_mod op_modD (r_v 3) (r_f f_int))))))))) s_nil) s_nil)
      (s_cons (s_ret (g_r (r_ix hu (r_v 4) (r_f (f_bin op_mod op_modD (r_v 3) (r_f f_int)))))) s_nil)))))))))))))))
theorem ok_lw_item (T : Tx K mg w) : FnOk P w K mg base CX0 1 T.a_lw_item T.d_lw_item ["_law_text", "_law_at"] (spD ⟨K, T.cl, w⟩ F_lw_item) := by
  refine ok_def (N := N_lw_item) (m := m_lw_item) (kp := [true, true]) T.f_lw_item sc_lw_item rfl (fun cdv A outer s H XE en ek hr => ?_)
  have hu := hr.units
  have nd := (sc_lw_item).nd
  exact (s_cons (s_set 2 nd (by rfl) (by first | exact Or.inl rfl | exact Or.inr rfl) (by rw [ek]; decide) (g_f (f_str [97, 98, 99, 100, 101, 102, 103, 104, 46])))
      (s_cons (s_set 3 nd (by rfl) (by first | exact Or.inl rfl | exact Or.inr rfl) (by rw [ek]; decide) (g_f (f_sl (r_v 0) (o_some (r_v 1)) (o_some (r_f (f_bin opr_add op_addD (r_v 1) (r_f f_int)))))))
      (s_cons (s_if (tv_cmp (op_eqD hu) op_eqqD flat_eq (v_r (r_ix hu (r_v 3) (r_f f_int))) (v_r (r_f (f_str [10]))) (nomark _)) (s_cons (s_ret (g_f (f_tup (a_cons (r_f (f_tup (a_cons (r_v 1) (a_cons (r_f (f_str [101, 110, 100])) (a_cons (r_f (f_str [])) a_nil))))) (a_cons (r_f f_int) a_nil))))) s_nil) s_nil)
      (s_cons (s_if (tv_cmp (op_eqD hu) op_eqqD flat_eq (v_r (r_ix hu (r_v 3) (r_f f_int))) (v_r (r_f (f_str [9]))) (nomark _)) (s_cons (s_ret (g_f (f_tup (a_cons (r_f (f_tup (a_cons (r_v 1) (a_cons (r_f (f_str [97, 110, 101, 119])) (a_cons (r_f (f_str [])) a_nil))))) (a_cons (r_f f_int) a_nil))))) s_nil) s_nil)
      (s_cons (s_if (tv_cmp (op_eqD hu) op_eqqD flat_eq (v_r (r_f (f_sl (r_v 3) o_none (o_some (r_f f_int))))) (v_r (r_f (f_str [91, 93]))) (nomark _)) (s_cons (s_ret (g_f (f_tup (a_cons (r_f (f_tup (a_cons (r_v 1) (a_cons (r_f (f_str [112, 108, 97, 105, 110])) (a_cons (r_f (f_str [])) a_nil))))) (a_cons (r_f f_int) a_nil))))) s_nil) s_nil)
      (s_cons (s_if (tv_cmp (op_eqD hu) op_eqqD flat_eq (v_r (r_f (f_sl (r_v 3) o_none (o_some (r_f f_int))))) (v_r (r_f (f_str [91, 91]))) (nomark _)) (s_cons (s_ret (g_f (f_tup (a_cons (r_f (f_tup (a_cons (r_v 1) (a_cons (r_f (f_str [115, 105, 103, 110])) (a_cons (r_f (f_str [91])) a_nil))))) (a_cons (r_f f_int) a_nil))))) s_nil) s_nil)
      (s_cons (s_if (t_w (w_and (t_cmp opr_gt op_cmpD (r_f (f_blt cr_len op_lenD (by rfl) T.z_len (by decide +kernel) (a_cons (r_v 3) a_nil))) (r_f f_int) (nomark _)) (w_and (tv_cmp (op_eqD hu) op_eqqD flat_eq (v_r (r_ix hu (r_v 3) (r_f f_int))) (v_r (r_f (f_str [91]))) (nomark _)) (w_and (t_in hu (r_ix hu (r_v 3) (r_f f_int)) (r_v 2)) (w_and1 (tv_cmp (op_eqD hu) op_eqqD flat_eq (v_r (r_ix hu (r_v 3) (r_f f_int))) (v_r (r_f (f_str [93]))) (nomark _))))))) (s_cons (s_ret (g_f (f_tup (a_cons (r_f (f_tup (a_cons (r_v 1) (a_cons (r_f (f_str [105, 110, 107])) (a_cons (r_ix hu (r_v 3) (r_f f_int)) a_nil))))) (a_cons (r_f f_int) a_nil))))) s_nil) s_nil)
      (s_cons (s_if (t_w (w_and (tv_cmp (op_eqD hu) op_eqqD flat_eq (v_r (r_f (f_blt cr_len op_lenD (by rfl) T.z_len (by decide +kernel) (a_cons (r_v 3) a_nil)))) (v_r (r_f f_int)) (nomark _)) (w_and (tv_cmp (op_eqD hu) op_eqqD flat_eq (v_r (r_f (f_sl (r_v 3) o_none (o_some (r_f f_int))))) (v_r (r_f (f_str [91, 47]))) (nomark _)) (w_and (t_in hu (r_ix hu (r_v 3) (r_f f_int)) (r_v 2)) (w_and1 (tv_cmp (op_eqD hu) op_eqqD flat_eq (v_r (r_ix hu (r_v 3) (r_f f_int))) (v_r (r_f (f_str [93]))) (nomark _))))))) (s_cons (s_ret (g_f (f_tup (a_cons (r_f (f_tup (a_cons (r_v 1) (a_cons (r_f (f_str [103, 114, 111, 117, 110, 100])) (a_cons (r_ix hu (r_v 3) (r_f f_int)) a_nil))))) (a_cons (r_f f_int) a_nil))))) s_nil) s_nil)
      (s_cons (s_ret (g_f (f_tup (a_cons (r_f (f_tup (a_cons (r_v 1) (a_cons (r_f (f_str [115, 105, 103, 110])) (a_cons (r_ix hu (r_v 3) (r_f f_int)) a_nil))))) (a_cons (r_f f_int) a_nil))))) s_nil)))))))))
theorem ok_lw_items (T : Tx K mg w) : FnOk P w K mg base CX0 2 T.a_lw_items T.d_lw_items ["_law_text"] (spD ⟨K, T.cl, w⟩ F_lw_items) := by
  refine ok_def (N := N_lw_items) (m := m_lw_items) (kp := [true]) T.f_lw_items sc_lw_items rfl (fun cdv A outer s H XE en ek hr => ?_)
  have hu := hr.units
  have nd := (sc_lw_items).nd
  exact (s_cons (s_set 1 nd (by rfl) (by first | exact Or.inl rfl | exact Or.inr rfl) (by rw [ek]; decide) (g_f (f_lst a_nil)))
      (s_cons (s_set 2 nd (by rfl) (by first | exact Or.inl rfl | exact Or.inr rfl) (by rw [ek]; decide) (g_f f_int))
      (s_cons (s_while 5000 [3, 4] PassesOwn.never (t_cmp opr_lt op_cmpD (r_v 2) (r_f (f_blt cr_len op_lenD (by rfl) T.z_len (by decide +kernel) (a_cons (r_v 0) a_nil))) (nomark _)) (s_cons (s_asg (g_f (f_call (ok_lw_item T) (hr.mono (by decide)) (by rfl) T.g_lw_item T.f_lw_item.kp T.b_lw_item pass0 (a_cons (r_v 0) (a_cons (r_v 2) a_nil)))) (g_tup rfl (gs_cons (g_name 3 nd (by rfl) (by first | exact Or.inl rfl | exact Or.inr rfl) (by rw [ek]; decide)) (gs_cons (g_name 4 nd (by rfl) (by first | exact Or.inl rfl | exact Or.inr rfl) (by rw [ek]; decide)) gs_nil)) (hlen := len_cons (len_cons (fun _ _ _ h => len_nil h)))))
      (s_cons (s_expr (g_app (p_v 1) (f_fr (r_v 3))))
      (s_cons (s_set 2 nd (by rfl) (by first | exact Or.inl rfl | exact Or.inr rfl) (by rw [ek]; decide) (g_f (f_bin opr_add op_addD (r_v 2) (r_v 4))))
      s_nil))))
      (s_cons (s_ret (g_mv (p_v 1))) s_nil))))
theorem ok_lw_whole (T : Tx K mg w) : FnOk P w K mg base CX0 1 T.a_lw_whole T.d_lw_whole ["_law_found"] (spD ⟨K, T.cl, w⟩ F_lw_whole) := by
  refine ok_def (N := N_lw_whole) (m := m_lw_whole) (kp := [true]) T.f_lw_whole sc_lw_whole rfl (fun cdv A outer s H XE en ek hr => ?_)
  have hu := hr.units
  have nd := (sc_lw_whole).nd
  exact (s_cons (s_ret (g_f (f_and (r_f (f_isi' (r_v 0) (pe_bltn (v := .ty "int") (u := .type "int") (by rfl) T.z_int (by decide +kernel) rfl) T.z_isinstance)) (f_one (f_not (r_f (f_isi' (r_v 0) (pe_bltn (v := .ty "bool") (u := .type "bool") (by rfl) T.z_bool (by decide +kernel) rfl) T.z_isinstance))))))) s_nil)
theorem ok_lw_same (T : Tx K mg w) : FnOk P w K mg base CX0 2 T.a_lw_same T.d_lw_same ["_law_found", "_law_due"] (spD ⟨K, T.cl, w⟩ F_lw_same) := by
  refine ok_def (N := N_lw_same) (m := m_lw_same) (kp := [true, true]) T.f_lw_same sc_lw_same rfl (fun cdv A outer s H XE en ek hr => ?_)
  have hu := hr.units
  have nd := (sc_lw_same).nd
  exact (s_cons (s_if (t_w (w_or (t_not (t_val (r_f (f_isi' (r_v 0) (pe_bltn (v := .ty "list") (u := .type "list") (by rfl) T.z_list (by decide +kernel) rfl) T.z_isinstance)))) (w_or1 (tv_cmp (op_neD hu) op_neqD flat_ne (v_r (r_f (f_blt cr_len op_lenD (by rfl) T.z_len (by decide +kernel) (a_cons (r_v 0) a_nil)))) (v_r (r_f (f_blt cr_len op_lenD (by rfl) T.z_len (by decide +kernel) (a_cons (r_v 1) a_nil)))) (nomark _))))) (s_cons (s_ret (g_f f_bl)) s_nil) s_nil)
      (s_cons (s_for [2] PassesOwn.never rfl (i_seq (r_v 0)) (g_name 2 nd (by rfl) (by first | exact Or.inl rfl | exact Or.inr rfl) (by rw [ek]; decide)) (s_cons (s_if (t_w (w_or (t_not (t_val (r_f (f_isi' (r_v 2) (pe_bltn (v := .ty "tuple") (u := .type "tuple") (by rfl) T.z_tuple (by decide +kernel) rfl) T.z_isinstance)))) (w_or (tv_cmp (op_neD hu) op_neqD flat_ne (v_r (r_f (f_blt cr_len op_lenD (by rfl) T.z_len (by decide +kernel) (a_cons (r_v 2) a_nil)))) (v_r (r_f f_int)) (nomark _)) (w_or1 (t_not (t_val (r_f (f_call (ok_lw_whole T) (hr.mono (by decide)) (by rfl) T.g_lw_whole T.f_lw_whole.kp T.b_lw_whole pass0 (a_cons (r_ix hu (r_v 2) (r_f f_int)) a_nil))))))))) (s_cons (s_ret (g_f f_bl)) s_nil) s_nil)
      (s_cons (s_if (t_w (w_or (t_not (t_val (r_f (f_isi' (r_ix hu (r_v 2) (r_f f_int)) (pe_bltn (v := .ty "str") (u := .type "str") (by rfl) T.z_str (by decide +kernel) rfl) T.z_isinstance)))) (w_or1 (t_not (t_val (r_f (f_isi' (r_ix hu (r_v 2) (r_f f_int)) (pe_bltn (v := .ty "str") (u := .type "str") (by rfl) T.z_str (by decide +kernel) rfl) T.z_isinstance))))))) (s_cons (s_ret (g_f f_bl)) s_nil) s_nil)
      s_nil)))
      (s_cons (s_ret (g_f (v_cmp (op_eqD hu) op_eqqD flat_eq (v_r (r_v 0)) (v_r (r_v 1)) (nomark _)))) s_nil)))
theorem ok_lw_did (T : Tx K mg w) : FnOk P w K mg base (L2N.CX P w) 6 T.a_lw_did T.d_lw_did ["_law_way", "_law_reader", "_law_thing"] (spX ⟨K, T.cl, w⟩ F_lw_did) := by
  refine ok_defX (N := N_lw_did) (m := m_lw_did) (kp := [true, true, true]) T.f_lw_did sc_lw_did rfl (fun cdv A outer s H XE en ek ex hr => ?_)
  have hu := hr.units
  have nd := (sc_lw_did).nd
  exact (s_cons (s_if (tv_cmp (op_eqD hu) op_eqqD flat_eq (v_r (r_v 0)) (v_r (r_f f_int)) (nomark _)) (s_cons (s_retX (f_callX (ok_checked__X1 T) (hr.mono (by decide)) (by rfl) T.g_checked__X1 T.f_checked__X1.kp T.b_checked__X1 (by rw [ex]; exact L2N.takes_of rfl rfl rfl rfl) (a_cons (r_v 2) a_nil))) s_nil) s_nil)
      (s_cons (s_if (tv_cmp (op_eqD hu) op_eqqD flat_eq (v_r (r_v 0)) (v_r (r_f f_int)) (nomark _)) (s_cons (s_retX (f_callX (ok_items_of__X1 T) (hr.mono (by decide)) (by rfl) T.g_items_of__X1 T.f_items_of__X1.kp T.b_items_of__X1 (by rw [ex]; exact L2N.takes_of rfl rfl rfl rfl) (a_cons (r_v 2) a_nil))) s_nil) s_nil)
      (s_cons (s_retX (f_coldX (f_methX 11 (p_v 1) T.cls_Reader T.me_Reader_feed__X1 (ok_Reader_feed__X1 T) (hr.mono (by decide)) T.b_Reader_feed__X1 (by rw [ex]; exact L2N.takes_of rfl rfl rfl rfl) (a_cons (r_v 2) a_nil)))) s_nil)))
theorem ok_lw_refused (T : Tx K mg w) : FnOk P w K mg base CX0 7 T.a_lw_refused T.d_lw_refused ["_law_way", "_law_reader", "_law_thing", "_law_at"] (spD ⟨K, T.cl, w⟩ F_lw_refused) := by
  refine ok_def (N := N_lw_refused) (m := m_lw_refused) (kp := [true, true, true, true]) T.f_lw_refused sc_lw_refused rfl (fun cdv A outer s H XE en ek hr => ?_)
  have hu := hr.units
  have nd := (sc_lw_refused).nd
  exact (s_cons (s_tryAs 4 [true, true, true, true, true] (by rw [ek]; rfl) rfl rfl nd (by rfl) (by rfl) ⟨rfl, by decide, .inl T.gc_OutError⟩ (by rw [ek]; decide) (fun n fs h => T.xm_OutError n fs (okL_mem h)) (fun W pn xe tk _ => (s_cons (s_exprX (f_lendsX (ok_lw_did T) (hr.mono (by decide)) (by rfl) T.g_lw_did T.f_lw_did.kp T.b_lw_did tk (ae_view (r_v 0) (ae_slot 1 (ae_view (r_v 2) ae_nil)))))
      s_nil)) (fun a oe cls d pn n fs es en hz hf ek hsub hh => (s_cons (s_if (t_val (r_f (f_isXT (([5, 9, 3, 2, 8, 7, 10, 6, 4] : List Nat).any (subX n)) hh hz hf (T.xc n fs (sbX_OutError _ (okL_mem hsub))) (cs := ([5, 9, 3, 2, 8, 7, 10, 6, 4] : List Nat).map fun k => V.ref (T.cl k)) (fun _ _ _ h => h) (paired_cls [5, 9, 3, 2, 8, 7, 10, 6, 4]) (by rw [List.length_map]; decide) (kitAny_subs [5, 9, 3, 2, 8, 7, 10, 6, 4] (fun k hk => T.xk n fs k (sbX_OutError _ (okL_mem hsub)) (by revert k; decide))) (pa_cons (pe_glob (v := .ref (T.cl 5)) (by rfl) T.gc_Closed rfl (by decide)) (pa_cons (pe_glob (v := .ref (T.cl 9)) (by rfl) T.gc_NoCell rfl (by decide)) (pa_cons (pe_glob (v := .ref (T.cl 3)) (by rfl) T.gc_NoHand rfl (by decide)) (pa_cons (pe_glob (v := .ref (T.cl 2)) (by rfl) T.gc_NoName rfl (by decide)) (pa_cons (pe_glob (v := .ref (T.cl 8)) (by rfl) T.gc_NoRoll rfl (by decide)) (pa_cons (pe_glob (v := .ref (T.cl 7)) (by rfl) T.gc_NoRoom rfl (by decide)) (pa_cons (pe_glob (v := .ref (T.cl 10)) (by rfl) T.gc_NoRow rfl (by decide)) (pa_cons (pe_glob (v := .ref (T.cl 6)) (by rfl) T.gc_NoSize rfl (by decide)) (pa_cons (pe_glob (v := .ref (T.cl 4)) (by rfl) T.gc_Twice rfl (by decide)) pa_nil))))))))) T.z_isinstance))) (s_cons (s_ret (g_f f_bl)) s_nil) s_nil)
      (s_cons (s_ret (g_f (f_and (r_f (f_isX (subX n 1) hh hz hf (T.xc n fs (sbX_OutError _ (okL_mem hsub))) (.own (T.cl 1)) (T.xk n fs 1 (sbX_OutError _ (okL_mem hsub)) (by decide)) (pe_glob (v := .ref (T.cl 1)) (by rfl) T.gc_NoSign rfl (by decide)) T.z_isinstance)) (f_and (r_f (f_isX true hh hz hf (T.xc n fs (sbX_OutError _ (okL_mem hsub))) (.ty "ValueError") (T.xv n fs (sbX_OutError _ (okL_mem hsub))) (pe_bltn (v := .ty "ValueError") (u := .type "ValueError") (by rfl) T.z_ValueError (by decide +kernel) rfl) T.z_isinstance)) (f_and (r_f (f_callH hz hf (okH_lw_whole T) (hr.mono (by decide)) (by rfl) T.g_lw_whole T.f_lw_whole.kp T.b_lw_whole (a_cons (r_f (f_fldX hh hz hf (T.xc n fs (sbX_OutError _ (okL_mem hsub))) (T.xf_at n fs (sbX_OutError _ (okL_mem hsub))))) a_nil))) (f_one (v_cmp (op_eqD hu) op_eqqD flat_eq (v_r (r_f (f_fldX hh hz hf (T.xc n fs (sbX_OutError _ (okL_mem hsub))) (T.xf_at n fs (sbX_OutError _ (okL_mem hsub)))))) (v_r (r_v 3)) (nomark _)))))))) s_nil))))
      (s_kill [4] (s_cons (s_ret (g_f f_bl)) s_nil)))
theorem ok_lw_by_hand (T : Tx K mg w) : FnOk P w K mg base CX0 3 T.a_lw_by_hand T.d_lw_by_hand ["_law_number"] (spD ⟨K, T.cl, w⟩ F_lw_by_hand) := by
  refine ok_def (N := N_lw_by_hand) (m := m_lw_by_hand) (kp := [true]) T.f_lw_by_hand sc_lw_by_hand rfl (fun cdv A outer s H XE en ek hr => ?_)
  have hu := hr.units
  have nd := (sc_lw_by_hand).nd
  exact (s_cons (s_set 1 nd (by rfl) (by first | exact Or.inl rfl | exact Or.inr rfl) (by rw [ek]; decide) (g_f (f_cold (f_lst (a_cons (x_newF T.xo_NoSign T.xic_NoSign T.xit_NoSign (T.xc 1 ["at"] (by simp [xL])) T.xn_NoSign (ok_NoSign_init T) (hr.mono (by decide)) T.b_NoSign_init pass0 (by rfl) T.gc_NoSign (r_v 0)) (a_cons (x_newF T.xo_NoRoom T.xic_NoRoom T.xit_NoRoom (T.xc 7 ["at"] (by simp [xL])) T.xn_NoRoom (ok_NoRoom_init T) (hr.mono (by decide)) T.b_NoRoom_init pass0 (by rfl) T.gc_NoRoom (r_f (f_bin opr_add op_addD (r_v 0) (r_f f_int)))) (a_cons (x_newF T.xo_NoRoll T.xic_NoRoll T.xit_NoRoll (T.xc 8 ["at"] (by simp [xL])) T.xn_NoRoll (ok_NoRoll_init T) (hr.mono (by decide)) T.b_NoRoll_init pass0 (by rfl) T.gc_NoRoll (r_f (f_bin opr_add op_addD (r_v 0) (r_f f_int)))) a_nil)))))))
      (s_cons (s_set 2 nd (by rfl) (by first | exact Or.inl rfl | exact Or.inr rfl) (by rw [ek]; decide) (g_f (f_cold (f_lst (a_cons (x_newF T.xo_NoHand T.xic_NoHand T.xit_NoHand (T.xc 3 ["name"] (by simp [xL])) T.xn_NoHand (ok_NoHand_init T) (hr.mono (by decide)) T.b_NoHand_init pass0 (by rfl) T.gc_NoHand (r_f (f_str [97]))) (a_cons (x_newF T.xo_Twice T.xic_Twice T.xit_Twice (T.xc 4 ["name"] (by simp [xL])) T.xn_Twice (ok_Twice_init T) (hr.mono (by decide)) T.b_Twice_init pass0 (by rfl) T.gc_Twice (r_f (f_str [98]))) (a_cons (x_newF T.xo_Closed T.xic_Closed T.xit_Closed (T.xc 5 ["name"] (by simp [xL])) T.xn_Closed (ok_Closed_init T) (hr.mono (by decide)) T.b_Closed_init pass0 (by rfl) T.gc_Closed (r_f (f_str [99]))) a_nil)))))))
      (s_errs 3 4 PassesOwn.never rfl (es_cons (e_new0 T.xp_NoName (by rfl) T.gc_NoName T.xq_NoName pe_str) (es_cons (e_new0 T.xp_NoSize (by rfl) T.gc_NoSize T.xq_NoSize pe_str) (es_cons (e_new0 T.xp_NoCell (by rfl) T.gc_NoCell T.xq_NoCell pe_str) (es_cons (e_new0 T.xp_NoRow (by rfl) T.gc_NoRow T.xq_NoRow pe_str) (es_cons (e_newI "at" T.xo_NoSign T.xic_NoSign T.xit_NoSign (ok_NoSign_init T) (hr.mono (by decide)) T.b_NoSign_init pass0 (by rfl) T.gc_NoSign pe_int) (es_cons (e_newI "name" T.xo_NoHand T.xic_NoHand T.xit_NoHand (ok_NoHand_init T) (hr.mono (by decide)) T.b_NoHand_init pass0 (by rfl) T.gc_NoHand pe_str) es_nil)))))) (by simp) (List.forall_mem_cons.2 ⟨⟨T.xc 2 [] (by simp [xL]), T.xk 2 [] 0 (by simp [xL]) (by simp [kL])⟩, (List.forall_mem_cons.2 ⟨⟨T.xc 6 [] (by simp [xL]), T.xk 6 [] 0 (by simp [xL]) (by simp [kL])⟩, (List.forall_mem_cons.2 ⟨⟨T.xc 9 [] (by simp [xL]), T.xk 9 [] 0 (by simp [xL]) (by simp [kL])⟩, (List.forall_mem_cons.2 ⟨⟨T.xc 10 [] (by simp [xL]), T.xk 10 [] 0 (by simp [xL]) (by simp [kL])⟩, (List.forall_mem_cons.2 ⟨⟨T.xc 1 ["at"] (by simp [xL]), T.xk 1 ["at"] 0 (by simp [xL]) (by simp [kL])⟩, (List.forall_mem_cons.2 ⟨⟨T.xc 3 ["name"] (by simp [xL]), T.xk 3 ["name"] 0 (by simp [xL]) (by simp [kL])⟩, (fun _ h => nomatch h)⟩)⟩)⟩)⟩)⟩)⟩) (.own (T.cl 0)) (pe_glob (v := .ref (T.cl 0)) (by rfl) T.gc_OutError rfl (by decide)) T.z_isinstance (s_cons (s_ret (g_f f_bl)) s_nil)
      (s_cons (s_ret (g_f (f_and (r_f (v_cmp (op_eqD hu) op_eqqD flat_eq (v_r (r_v 1)) (v_r (r_f (f_lst (a_cons (r_v 0) (a_cons (r_f (f_bin opr_add op_addD (r_v 0) (r_f f_int))) (a_cons (r_f (f_bin opr_add op_addD (r_v 0) (r_f f_int))) a_nil)))))) (nomark _))) (f_one (v_cmp (op_eqD hu) op_eqqD flat_eq (v_r (r_v 2)) (v_r (r_f (f_lst (a_cons (r_f (f_str [97])) (a_cons (r_f (f_str [98])) (a_cons (r_f (f_str [99])) a_nil)))))) (nomark _)))))) s_nil) nd)))
theorem ok_lw_spoilt (T : Tx K mg w) : FnOk P w K mg base CX0 2 T.a_lw_spoilt T.d_lw_spoilt ["_law_text", "_law_cell_here"] (spD ⟨K, T.cl, w⟩ F_lw_spoilt) := by
  refine ok_def (N := N_lw_spoilt) (m := m_lw_spoilt) (kp := [true, true]) T.f_lw_spoilt sc_lw_spoilt rfl (fun cdv A outer s H XE en ek hr => ?_)
  have hu := hr.units
  have nd := (sc_lw_spoilt).nd
  exact (s_cons (s_set 2 nd (by rfl) (by first | exact Or.inl rfl | exact Or.inr rfl) (by rw [ek]; decide) (g_f (f_bin op_mod op_modD (r_f (f_call (ok_lw_mix T) (hr.mono (by decide)) (by rfl) T.g_lw_mix T.f_lw_mix.kp T.b_lw_mix pass0 (a_cons (r_v 1) (a_cons (r_f f_int) a_nil)))) (r_f (f_bin opr_add op_addD (r_f (f_blt cr_len op_lenD (by rfl) T.z_len (by decide +kernel) (a_cons (r_v 0) a_nil))) (r_f f_int))))))
      (s_cons (s_if (tv_cmp (op_eqD hu) op_eqqD flat_eq (v_r (r_f (f_bin op_mod op_modD (r_f (f_call (ok_lw_mix T) (hr.mono (by decide)) (by rfl) T.g_lw_mix T.f_lw_mix.kp T.b_lw_mix pass0 (a_cons (r_v 1) (a_cons (r_f f_int) a_nil)))) (r_f f_int)))) (v_r (r_f f_int)) (nomark _)) (s_cons (s_set 2 nd (by rfl) (by first | exact Or.inl rfl | exact Or.inr rfl) (by rw [ek]; decide) (g_r (r_ix hu (r_f (f_lst (a_cons (r_f f_int) (a_cons (r_f (f_blt cr_len op_lenD (by rfl) T.z_len (by decide +kernel) (a_cons (r_v 0) a_nil))) a_nil)))) (r_f (f_bin op_mod op_modD (r_f (f_call (ok_lw_mix T) (hr.mono (by decide)) (by rfl) T.g_lw_mix T.f_lw_mix.kp T.b_lw_mix pass0 (a_cons (r_v 1) (a_cons (r_f f_int) a_nil)))) (r_f f_int))))))
      s_nil) s_nil)
      (s_kill [] (s_cons (s_set 3 nd (by rfl) (by first | exact Or.inl rfl | exact Or.inr rfl) (by rw [ek]; decide) (g_f (f_bin opr_add op_addD (r_f (f_bin opr_add op_addD (r_f (f_sl (r_v 0) o_none (o_some (r_v 2)))) (r_f (f_str [126])))) (r_f (f_sl (r_v 0) (o_some (r_v 2)) o_none)))))
      (s_cons (s_set 4 nd (by rfl) (by first | exact Or.inl rfl | exact Or.inr rfl) (by rw [ek]; decide) (g_f (f_bin op_mod op_modD (r_f (f_call (ok_lw_mix T) (hr.mono (by decide)) (by rfl) T.g_lw_mix T.f_lw_mix.kp T.b_lw_mix pass0 (a_cons (r_v 1) (a_cons (r_f f_int) a_nil)))) (r_f (f_bin opr_add op_addD (r_f (f_blt cr_len op_lenD (by rfl) T.z_len (by decide +kernel) (a_cons (r_v 3) a_nil))) (r_f f_int))))))
      (s_cons (s_if (tv_cmp (op_eqD hu) op_eqqD flat_eq (v_r (r_f (f_bin op_mod op_modD (r_f (f_call (ok_lw_mix T) (hr.mono (by decide)) (by rfl) T.g_lw_mix T.f_lw_mix.kp T.b_lw_mix pass0 (a_cons (r_v 1) (a_cons (r_f f_int) a_nil)))) (r_f f_int)))) (v_r (r_f f_int)) (nomark _)) (s_cons (s_set 3 nd (by rfl) (by first | exact Or.inl rfl | exact Or.inr rfl) (by rw [ek]; decide) (g_f (f_bin opr_add op_addD (r_f (f_bin opr_add op_addD (r_f (f_sl (r_v 3) o_none (o_some (r_v 4)))) (r_f (f_str [126])))) (r_f (f_sl (r_v 3) (o_some (r_v 4)) o_none)))))
      s_nil) s_nil)
      (s_kill [] (s_cons (s_ret (g_r (r_v 3))) s_nil))))))))
theorem ok_law (T : Tx K mg w) : FnOk P w K mg base CX0 8 T.a_law T.d_law ["_law_script"] (spD ⟨K, T.cl, w⟩ F_law) := by
  refine ok_def (N := N_law) (m := m_law) (kp := [true]) T.f_law sc_law rfl (fun cdv A outer s H XE en ek hr => ?_)
  have hu := hr.units
  have nd := (sc_law).nd
  exact (s_cons (s_set 1 nd (by rfl) (by first | exact Or.inl rfl | exact Or.inr rfl) (by rw [ek]; decide) (g_f (f_join (r_f (f_str [])) (r_f (f_lcV [("_law_cell_here", 2)] (by rfl) rfl nd (i_seqV (r_f (f_cold (f_sl (r_v 0) (o_some (r_f f_int)) (o_some (r_f f_int)))))) (blkOk_by (own := [("_law_cell_here", 2)]) (N := N_law) (sc := defScope s_law) (by decide +kernel)) (fun _ _ _ _ _ => (g_name 2 nd (by rfl) (by first | exact Or.inl rfl | exact Or.inr rfl) (by rw [ek]; decide))) (fun _ _ _ _ _ => ts_nil) (fun _ _ _ _ _ => (r_f (f_call (ok_lw_token T) (hr.mono (by decide)) (by rfl) T.g_lw_token T.f_lw_token.kp T.b_lw_token pass0 (a_cons (r_v 2) a_nil)))) (by decide) (by rw [ek]; decide))))))
      (s_cons (s_set 2 nd (by rfl) (by first | exact Or.inl rfl | exact Or.inr rfl) (by rw [ek]; decide) (g_f (f_call (ok_lw_cell T) (hr.mono (by decide)) (by rfl) T.g_lw_cell T.f_lw_cell.kp T.b_lw_cell pass0 (a_cons (r_v 0) (a_cons (r_f f_int) a_nil)))))
      (s_cons (s_set 3 nd (by rfl) (by first | exact Or.inl rfl | exact Or.inr rfl) (by rw [ek]; decide) (g_f (f_bin opr_add op_addD (r_f (f_call (ok_lw_token T) (hr.mono (by decide)) (by rfl) T.g_lw_token T.f_lw_token.kp T.b_lw_token pass0 (a_cons (r_f (f_call (ok_lw_cell T) (hr.mono (by decide)) (by rfl) T.g_lw_cell T.f_lw_cell.kp T.b_lw_cell pass0 (a_cons (r_v 0) (a_cons (r_f f_int) a_nil)))) a_nil))) (r_f (f_call (ok_lw_token T) (hr.mono (by decide)) (by rfl) T.g_lw_token T.f_lw_token.kp T.b_lw_token pass0 (a_cons (r_f (f_call (ok_lw_cell T) (hr.mono (by decide)) (by rfl) T.g_lw_cell T.f_lw_cell.kp T.b_lw_cell pass0 (a_cons (r_v 0) (a_cons (r_f f_int) a_nil)))) a_nil))))))
      (s_cons (s_set 4 nd (by rfl) (by first | exact Or.inl rfl | exact Or.inr rfl) (by rw [ek]; decide) (g_f (f_mk0 11 T.mk_Reader (ok_Reader_init T) (hr.mono (by decide)) (by rfl) T.gc_Reader T.b_Reader_init pass0)))
      (s_cons (s_seqI 5 (s_set 5 nd (by rfl) (by first | exact Or.inl rfl | exact Or.inr rfl) (by rw [ek]; decide) (g_meth 11 (p_v 4) T.cls_Reader T.me_Reader_feed (ok_Reader_feed T) (hr.mono (by decide)) T.b_Reader_feed pass0 (a_cons (r_v 3) a_nil))))
      (s_cons (s_set 6 nd (by rfl) (by first | exact Or.inl rfl | exact Or.inr rfl) (by rw [ek]; decide) (g_f (f_look0 11 (r_pl (p_v 4)) T.cls_Reader T.me_Reader_held_text (ok_Reader_held_text T) (hr.mono (by decide)) T.b_Reader_held_text pass0)))
      (s_cons (s_set 7 nd (by rfl) (by first | exact Or.inl rfl | exact Or.inr rfl) (by rw [ek]; decide) (g_f (f_call (ok_lw_spoilt T) (hr.mono (by decide)) (by rfl) T.g_lw_spoilt T.f_lw_spoilt.kp T.b_lw_spoilt pass0 (a_cons (r_v 1) (a_cons (r_v 2) a_nil)))))
      (s_cons (s_set 8 nd (by rfl) (by first | exact Or.inl rfl | exact Or.inr rfl) (by rw [ek]; decide) (g_r (r_ix hu (r_f (f_lst (a_cons (r_f f_non) (a_cons (r_f f_int) (a_cons (r_f f_bl) (a_cons (r_f (f_cold (f_lst (a_cons (r_f (f_str [97])) a_nil)))) (a_cons (r_f (f_tup (a_cons (r_f (f_str [97])) a_nil))) (a_cons (r_f (f_cold f_dnew)) (a_cons (r_f (f_cold (f_lst (a_cons (r_v 7) a_nil)))) a_nil))))))))) (r_f (f_bin op_mod op_modD (r_f (f_call (ok_lw_mix T) (hr.mono (by decide)) (by rfl) T.g_lw_mix T.f_lw_mix.kp T.b_lw_mix pass0 (a_cons (r_v 2) (a_cons (r_f f_int) a_nil)))) (r_f f_int))))))
      (s_cons (s_if (t_w (w_or (t_cmp opr_nis op_nisD (r_f (f_call (ok_checked T) (hr.mono (by decide)) (by rfl) T.g_checked T.f_checked.kp T.b_checked pass0 (a_cons (r_v 1) a_nil))) (r_f f_non) (nomark _)) (w_or (t_cmp opr_nis op_nisD (r_f (f_call (ok_checked T) (hr.mono (by decide)) (by rfl) T.g_checked T.f_checked.kp T.b_checked pass0 (a_cons (r_f (f_str [])) a_nil))) (r_f f_non) (nomark _)) (w_or1 (t_not (t_val (r_f (f_call (ok_lw_by_hand T) (hr.mono (by decide)) (by rfl) T.g_lw_by_hand T.f_lw_by_hand.kp T.b_lw_by_hand pass0 (a_cons (r_f (f_call (ok_lw_mix T) (hr.mono (by decide)) (by rfl) T.g_lw_mix T.f_lw_mix.kp T.b_lw_mix pass0 (a_cons (r_v 2) (a_cons (r_f f_int) a_nil)))) a_nil))))))))) (s_cons (s_ret (g_f f_bl)) s_nil) s_nil)
      (s_cons (s_for [9] PassesOwn.never rfl (i_seq (r_f (f_cold (f_lst (a_cons (r_f f_int) (a_cons (r_f f_int) (a_cons (r_f f_int) (a_cons (r_f f_int) a_nil)))))))) (g_name 9 nd (by rfl) (by first | exact Or.inl rfl | exact Or.inr rfl) (by rw [ek]; decide)) (s_cons (s_ifG (tg_w (wg_or (tg_not (tg_val (g_lend (ok_lw_refused T) (hr.mono (by decide)) (by rfl) T.g_lw_refused T.f_lw_refused.kp T.b_lw_refused pass0 (al_next (r_v 9) (al_here (p_v 4) (a_cons (r_v 7) (a_cons (r_f (f_sidx (r_v 7) (r_f (f_str [126])))) a_nil))))))) (wg_or1 (tg_not (tg_val (g_lend (ok_lw_refused T) (hr.mono (by decide)) (by rfl) T.g_lw_refused T.f_lw_refused.kp T.b_lw_refused pass0 (al_next (r_v 9) (al_here (p_v 4) (a_cons (r_v 8) (a_cons (r_f f_int) a_nil)))))))))) (s_cons (s_ret (g_f f_bl)) s_nil) s_nil)
      s_nil))
      (s_cons (s_if (tv_cmp (op_neD hu) op_neqD flat_ne (v_r (r_f (f_look0 11 (r_pl (p_v 4)) T.cls_Reader T.me_Reader_held_text (ok_Reader_held_text T) (hr.mono (by decide)) T.b_Reader_held_text pass0))) (v_r (r_v 6)) (nomark _)) (s_cons (s_ret (g_f f_bl)) s_nil) s_nil)
      (s_cons (s_seqI 5 (s_set 5 nd (by rfl) (by first | exact Or.inl rfl | exact Or.inr rfl) (by rw [ek]; decide) (g_bin2 opr_add op_addD (g_binV 5 opr_add op_addD (g_meth 11 (p_v 4) T.cls_Reader T.me_Reader_feed (ok_Reader_feed T) (hr.mono (by decide)) T.b_Reader_feed pass0 (a_cons (r_v 1) a_nil))) (g_meth0 11 (p_v 4) T.cls_Reader T.me_Reader_finish (ok_Reader_finish T) (hr.mono (by decide)) T.b_Reader_finish pass0))))
      (s_cons (s_ret (g_f (f_call (ok_lw_same T) (hr.mono (by decide)) (by rfl) T.g_lw_same T.f_lw_same.kp T.b_lw_same pass0 (a_cons (r_v 5) (a_cons (r_f (f_cold (f_call (ok_lw_items T) (hr.mono (by decide)) (by rfl) T.g_lw_items T.f_lw_items.kp T.b_lw_items pass0 (a_cons (r_f (f_bin opr_add op_addD (r_v 3) (r_v 1))) a_nil)))) a_nil))))) s_nil)))))))))))))
end
end LW

namespace LW
open PySem L2 PyProof.Rows LI
theorem law_true (ns : List Int) (hl : ns.length ≤ 63) (hb : ∀ z ∈ ns, Builtin.Int.intBits z ≤ 1048576) : ∃ ds', F_law [.scr ns] = some (.bl true, ds') := ⟨_, L_law ns (LW.law_t ns hl hb)⟩
theorem all_mk (LT : ∀ ns : List Int, ns.length ≤ 63 → (∀ z ∈ ns, Builtin.Int.intBits z ≤ 1048576) → ∃ ds', F_law [.scr ns] = some (.bl true, ds')) {l : PySem.W.OpenLaw} {w : World} {K : PySem.W.Frag} {h : Heap} {mg : Str → Option Value} {fa : Addr} (X : K.In h) (G : h.Ns mainGlobals mg) (hfa : mg "law" = some (.ref fa))
    {c_Reader c_OutError c_NoSign c_NoName c_NoHand c_Twice c_Closed c_NoSize c_NoRoom c_NoRoll c_NoCell c_NoRow p_is_sign p_is_colour p_checked__X1 p_checked p_sign_item p_begins_mark p_mark_item p_Reader_init p_Reader_held_text p_Reader_told p_Reader_take p_Reader_feed__X1 p_Reader_feed p_Reader_finish p_items_of__X1 p_lw_cell p_lw_mix p_lw_signs p_lw_token p_lw_item p_lw_items p_lw_whole p_lw_same p_lw_did p_lw_refused p_lw_by_hand p_lw_spoilt p_law p_NoSign_init NN_NoSign p_NoHand_init NN_NoHand p_Twice_init NN_Twice p_Closed_init NN_Closed p_NoRoom_init NN_NoRoom p_NoRoll_init NN_NoRoll q_ENDS : Addr} {od_is_sign an_is_sign od_is_colour an_is_colour od_checked__X1 an_checked__X1 od_checked an_checked od_sign_item an_sign_item od_begins_mark an_begins_mark od_mark_item an_mark_item od_Reader_init an_Reader_init od_Reader_held_text an_Reader_held_text od_Reader_told an_Reader_told od_Reader_take an_Reader_take od_Reader_feed__X1 an_Reader_feed__X1 od_Reader_feed an_Reader_feed od_Reader_finish an_Reader_finish od_items_of__X1 an_items_of__X1 od_lw_cell an_lw_cell od_lw_mix an_lw_mix od_lw_signs an_lw_signs od_lw_token an_lw_token od_lw_item an_lw_item od_lw_items an_lw_items od_lw_whole an_lw_whole od_lw_same an_lw_same od_lw_did an_lw_did od_lw_refused an_lw_refused od_lw_by_hand an_lw_by_hand od_lw_spoilt an_lw_spoilt od_law an_law od_NoSign_init an_NoSign_init dd_NoSign od_NoHand_init an_NoHand_init dd_NoHand od_Twice_init an_Twice_init dd_Twice od_Closed_init an_Closed_init dd_Closed od_NoRoom_init an_NoRoom_init dd_NoRoom od_NoRoll_init an_NoRoll_init dd_NoRoll : Option Addr} {sl_is_sign sl_is_colour sl_checked__X1 sl_checked sl_sign_item sl_begins_mark sl_mark_item sl_Reader_init sl_Reader_held_text sl_Reader_told sl_Reader_take sl_Reader_feed__X1 sl_Reader_feed sl_Reader_finish sl_items_of__X1 sl_lw_cell sl_lw_mix sl_lw_signs sl_lw_token sl_lw_item sl_lw_items sl_lw_whole sl_lw_same sl_lw_did sl_lw_refused sl_lw_by_hand sl_lw_spoilt sl_law sl_NoSign_init sl_NoHand_init sl_Twice_init sl_Closed_init sl_NoRoom_init sl_NoRoll_init : Array (Option Value)} {oc_is_sign kV_is_sign dc_is_sign pm_is_sign cd_is_sign ct_is_sign oc_is_colour kV_is_colour dc_is_colour pm_is_colour cd_is_colour ct_is_colour oc_checked__X1 kV_checked__X1 dc_checked__X1 pm_checked__X1 cd_checked__X1 ct_checked__X1 oc_checked kV_checked dc_checked pm_checked cd_checked ct_checked oc_sign_item kV_sign_item dc_sign_item pm_sign_item cd_sign_item ct_sign_item oc_begins_mark kV_begins_mark dc_begins_mark pm_begins_mark cd_begins_mark ct_begins_mark oc_mark_item kV_mark_item dc_mark_item pm_mark_item cd_mark_item ct_mark_item oc_Reader_init kV_Reader_init dc_Reader_init pm_Reader_init cd_Reader_init ct_Reader_init oc_Reader_held_text kV_Reader_held_text dc_Reader_held_text pm_Reader_held_text cd_Reader_held_text ct_Reader_held_text oc_Reader_told kV_Reader_told dc_Reader_told pm_Reader_told cd_Reader_told ct_Reader_told oc_Reader_take kV_Reader_take dc_Reader_take pm_Reader_take cd_Reader_take ct_Reader_take oc_Reader_feed__X1 kV_Reader_feed__X1 dc_Reader_feed__X1 pm_Reader_feed__X1 cd_Reader_feed__X1 ct_Reader_feed__X1 oc_Reader_feed kV_Reader_feed dc_Reader_feed pm_Reader_feed cd_Reader_feed ct_Reader_feed oc_Reader_finish kV_Reader_finish dc_Reader_finish pm_Reader_finish cd_Reader_finish ct_Reader_finish oc_items_of__X1 kV_items_of__X1 dc_items_of__X1 pm_items_of__X1 cd_items_of__X1 ct_items_of__X1 oc_lw_cell kV_lw_cell dc_lw_cell pm_lw_cell cd_lw_cell ct_lw_cell oc_lw_mix kV_lw_mix dc_lw_mix pm_lw_mix cd_lw_mix ct_lw_mix oc_lw_signs kV_lw_signs dc_lw_signs pm_lw_signs cd_lw_signs ct_lw_signs oc_lw_token kV_lw_token dc_lw_token pm_lw_token cd_lw_token ct_lw_token oc_lw_item kV_lw_item dc_lw_item pm_lw_item cd_lw_item ct_lw_item oc_lw_items kV_lw_items dc_lw_items pm_lw_items cd_lw_items ct_lw_items oc_lw_whole kV_lw_whole dc_lw_whole pm_lw_whole cd_lw_whole ct_lw_whole oc_lw_same kV_lw_same dc_lw_same pm_lw_same cd_lw_same ct_lw_same oc_lw_did kV_lw_did dc_lw_did pm_lw_did cd_lw_did ct_lw_did oc_lw_refused kV_lw_refused dc_lw_refused pm_lw_refused cd_lw_refused ct_lw_refused oc_lw_by_hand kV_lw_by_hand dc_lw_by_hand pm_lw_by_hand cd_lw_by_hand ct_lw_by_hand oc_lw_spoilt kV_lw_spoilt dc_lw_spoilt pm_lw_spoilt cd_lw_spoilt ct_lw_spoilt oc_law kV_law dc_law pm_law cd_law ct_law oc_NoSign_init kV_NoSign_init dc_NoSign_init pm_NoSign_init cd_NoSign_init ct_NoSign_init oc_NoHand_init kV_NoHand_init dc_NoHand_init pm_NoHand_init cd_NoHand_init ct_NoHand_init oc_Twice_init kV_Twice_init dc_Twice_init pm_Twice_init cd_Twice_init ct_Twice_init oc_Closed_init kV_Closed_init dc_Closed_init pm_Closed_init cd_Closed_init ct_Closed_init oc_NoRoom_init kV_NoRoom_init dc_NoRoom_init pm_NoRoom_init cd_NoRoom_init ct_NoRoom_init oc_NoRoll_init kV_NoRoll_init dc_NoRoll_init pm_NoRoll_init cd_NoRoll_init ct_NoRoll_init : Value} {nm_NoSign qq_NoSign nm_NoHand qq_NoHand nm_Twice qq_Twice nm_Closed qq_Closed nm_NoRoom qq_NoRoom nm_NoRoll qq_NoRoll : Str} {bs_NoSign su_NoSign bs_NoHand su_NoHand bs_Twice su_Twice bs_Closed su_Closed bs_NoRoom su_NoRoom bs_NoRoll su_NoRoll : List Value} {sn_NoSign sn_NoHand sn_Twice sn_Closed sn_NoRoom sn_NoRoll : List Str} {ab_NoSign ab_NoHand ab_Twice ab_Closed ab_NoRoom ab_NoRoll : Bool} {co_NoSign co_NoHand co_Twice co_Closed co_NoRoom co_NoRoll : Option Bool} {m0_NoSign m1_NoSign m2_NoSign m3_NoSign m5_NoSign m0_NoHand m1_NoHand m2_NoHand m3_NoHand m5_NoHand m0_Twice m1_Twice m2_Twice m3_Twice m5_Twice m0_Closed m1_Closed m2_Closed m3_Closed m5_Closed m0_NoRoom m1_NoRoom m2_NoRoom m3_NoRoom m5_NoRoom m0_NoRoll m1_NoRoll m2_NoRoll m3_NoRoll m5_NoRoll : Option Value} {t_COLOURS t_CONTROLS t_FIRST t_LAST : Tok} {es_ENDS : Array DictEntry} {n_ENDS : Nat} 
    (gc_OutError : PySem.W.nsIn K mainGlobals "OutError" = some (some (.ref c_OutError)))
    (gc_NoSign : PySem.W.nsIn K mainGlobals "NoSign" = some (some (.ref c_NoSign)))
    (gc_NoName : PySem.W.nsIn K mainGlobals "NoName" = some (some (.ref c_NoName)))
    (gc_NoHand : PySem.W.nsIn K mainGlobals "NoHand" = some (some (.ref c_NoHand)))
    (gc_Twice : PySem.W.nsIn K mainGlobals "Twice" = some (some (.ref c_Twice)))
    (gc_Closed : PySem.W.nsIn K mainGlobals "Closed" = some (some (.ref c_Closed)))
    (gc_NoSize : PySem.W.nsIn K mainGlobals "NoSize" = some (some (.ref c_NoSize)))
    (gc_NoRoom : PySem.W.nsIn K mainGlobals "NoRoom" = some (some (.ref c_NoRoom)))
    (gc_NoRoll : PySem.W.nsIn K mainGlobals "NoRoll" = some (some (.ref c_NoRoll)))
    (gc_NoCell : PySem.W.nsIn K mainGlobals "NoCell" = some (some (.ref c_NoCell)))
    (gc_NoRow : PySem.W.nsIn K mainGlobals "NoRow" = some (some (.ref c_NoRow)))
    (x1_Closed : PySem.W.isClsIn K c_Closed = true)
    (x2_Closed : PySem.W.findIn K (.ref c_Closed) "__getattribute__" = some (some (.builtin "BaseException.__getattribute__")))
    (x3_Closed : PySem.W.findIn K (.ref c_Closed) "__getattr__" = some none)
    (x4_Closed : PySem.W.subIn K (.ref c_Closed) (.type "BaseException") = some true)
    (x5_Closed : PySem.W.findIn K (.ref c_Closed) "__class__" = some (some (.builtin "object.__class__")))
    (x6_Closed : PySem.W.specialIn K (.builtin "object.__class__") "__get__" = some (some (.builtin "getset_descriptor.__get__")))
    (x7_Closed : PySem.W.takesIn K (.builtin "object.__class__") = some true)
    (x8_Closed : PySem.W.mroIn K c_Closed (.type "object") = some true)
    (x9_Closed : PySem.W.hasDictIn K c_Closed = true)
    (ik_v_Closed : PySem.W.kitOne K (.ref c_Closed) (.type "ValueError") = some true)
    (ik_Closed__Closed : PySem.W.kitOne K (.ref c_Closed) (.ref c_Closed) = some true)
    (ik_Closed__NoCell : PySem.W.kitOne K (.ref c_Closed) (.ref c_NoCell) = some false)
    (ik_Closed__NoHand : PySem.W.kitOne K (.ref c_Closed) (.ref c_NoHand) = some false)
    (ik_Closed__NoName : PySem.W.kitOne K (.ref c_Closed) (.ref c_NoName) = some false)
    (ik_Closed__NoRoll : PySem.W.kitOne K (.ref c_Closed) (.ref c_NoRoll) = some false)
    (ik_Closed__NoRoom : PySem.W.kitOne K (.ref c_Closed) (.ref c_NoRoom) = some false)
    (ik_Closed__NoRow : PySem.W.kitOne K (.ref c_Closed) (.ref c_NoRow) = some false)
    (ik_Closed__NoSign : PySem.W.kitOne K (.ref c_Closed) (.ref c_NoSign) = some false)
    (ik_Closed__NoSize : PySem.W.kitOne K (.ref c_Closed) (.ref c_NoSize) = some false)
    (ik_Closed__OutError : PySem.W.kitOne K (.ref c_Closed) (.ref c_OutError) = some true)
    (ik_Closed__Twice : PySem.W.kitOne K (.ref c_Closed) (.ref c_Twice) = some false)
    (xs_Closed__OutError : PySem.W.subIn K (.ref c_Closed) (.ref c_OutError) = some true)
    (x1_NoCell : PySem.W.isClsIn K c_NoCell = true)
    (x2_NoCell : PySem.W.findIn K (.ref c_NoCell) "__getattribute__" = some (some (.builtin "BaseException.__getattribute__")))
    (x3_NoCell : PySem.W.findIn K (.ref c_NoCell) "__getattr__" = some none)
    (x4_NoCell : PySem.W.subIn K (.ref c_NoCell) (.type "BaseException") = some true)
    (x5_NoCell : PySem.W.findIn K (.ref c_NoCell) "__class__" = some (some (.builtin "object.__class__")))
    (x6_NoCell : PySem.W.specialIn K (.builtin "object.__class__") "__get__" = some (some (.builtin "getset_descriptor.__get__")))
    (x7_NoCell : PySem.W.takesIn K (.builtin "object.__class__") = some true)
    (x8_NoCell : PySem.W.mroIn K c_NoCell (.type "object") = some true)
    (x9_NoCell : PySem.W.hasDictIn K c_NoCell = true)
    (ik_v_NoCell : PySem.W.kitOne K (.ref c_NoCell) (.type "ValueError") = some true)
    (ik_NoCell__Closed : PySem.W.kitOne K (.ref c_NoCell) (.ref c_Closed) = some false)
    (ik_NoCell__NoCell : PySem.W.kitOne K (.ref c_NoCell) (.ref c_NoCell) = some true)
    (ik_NoCell__NoHand : PySem.W.kitOne K (.ref c_NoCell) (.ref c_NoHand) = some false)
    (ik_NoCell__NoName : PySem.W.kitOne K (.ref c_NoCell) (.ref c_NoName) = some false)
    (ik_NoCell__NoRoll : PySem.W.kitOne K (.ref c_NoCell) (.ref c_NoRoll) = some false)
    (ik_NoCell__NoRoom : PySem.W.kitOne K (.ref c_NoCell) (.ref c_NoRoom) = some false)
    (ik_NoCell__NoRow : PySem.W.kitOne K (.ref c_NoCell) (.ref c_NoRow) = some false)
    (ik_NoCell__NoSign : PySem.W.kitOne K (.ref c_NoCell) (.ref c_NoSign) = some false)
    (ik_NoCell__NoSize : PySem.W.kitOne K (.ref c_NoCell) (.ref c_NoSize) = some false)
    (ik_NoCell__OutError : PySem.W.kitOne K (.ref c_NoCell) (.ref c_OutError) = some true)
    (ik_NoCell__Twice : PySem.W.kitOne K (.ref c_NoCell) (.ref c_Twice) = some false)
    (xs_NoCell__OutError : PySem.W.subIn K (.ref c_NoCell) (.ref c_OutError) = some true)
    (x1_NoHand : PySem.W.isClsIn K c_NoHand = true)
    (x2_NoHand : PySem.W.findIn K (.ref c_NoHand) "__getattribute__" = some (some (.builtin "BaseException.__getattribute__")))
    (x3_NoHand : PySem.W.findIn K (.ref c_NoHand) "__getattr__" = some none)
    (x4_NoHand : PySem.W.subIn K (.ref c_NoHand) (.type "BaseException") = some true)
    (x5_NoHand : PySem.W.findIn K (.ref c_NoHand) "__class__" = some (some (.builtin "object.__class__")))
    (x6_NoHand : PySem.W.specialIn K (.builtin "object.__class__") "__get__" = some (some (.builtin "getset_descriptor.__get__")))
    (x7_NoHand : PySem.W.takesIn K (.builtin "object.__class__") = some true)
    (x8_NoHand : PySem.W.mroIn K c_NoHand (.type "object") = some true)
    (x9_NoHand : PySem.W.hasDictIn K c_NoHand = true)
    (ik_v_NoHand : PySem.W.kitOne K (.ref c_NoHand) (.type "ValueError") = some true)
    (ik_NoHand__Closed : PySem.W.kitOne K (.ref c_NoHand) (.ref c_Closed) = some false)
    (ik_NoHand__NoCell : PySem.W.kitOne K (.ref c_NoHand) (.ref c_NoCell) = some false)
    (ik_NoHand__NoHand : PySem.W.kitOne K (.ref c_NoHand) (.ref c_NoHand) = some true)
    (ik_NoHand__NoName : PySem.W.kitOne K (.ref c_NoHand) (.ref c_NoName) = some false)
    (ik_NoHand__NoRoll : PySem.W.kitOne K (.ref c_NoHand) (.ref c_NoRoll) = some false)
    (ik_NoHand__NoRoom : PySem.W.kitOne K (.ref c_NoHand) (.ref c_NoRoom) = some false)
    (ik_NoHand__NoRow : PySem.W.kitOne K (.ref c_NoHand) (.ref c_NoRow) = some false)
    (ik_NoHand__NoSign : PySem.W.kitOne K (.ref c_NoHand) (.ref c_NoSign) = some false)
    (ik_NoHand__NoSize : PySem.W.kitOne K (.ref c_NoHand) (.ref c_NoSize) = some false)
    (ik_NoHand__OutError : PySem.W.kitOne K (.ref c_NoHand) (.ref c_OutError) = some true)
    (ik_NoHand__Twice : PySem.W.kitOne K (.ref c_NoHand) (.ref c_Twice) = some false)
    (xs_NoHand__OutError : PySem.W.subIn K (.ref c_NoHand) (.ref c_OutError) = some true)
    (x1_NoName : PySem.W.isClsIn K c_NoName = true)
    (x2_NoName : PySem.W.findIn K (.ref c_NoName) "__getattribute__" = some (some (.builtin "BaseException.__getattribute__")))
    (x3_NoName : PySem.W.findIn K (.ref c_NoName) "__getattr__" = some none)
    (x4_NoName : PySem.W.subIn K (.ref c_NoName) (.type "BaseException") = some true)
    (x5_NoName : PySem.W.findIn K (.ref c_NoName) "__class__" = some (some (.builtin "object.__class__")))
    (x6_NoName : PySem.W.specialIn K (.builtin "object.__class__") "__get__" = some (some (.builtin "getset_descriptor.__get__")))
    (x7_NoName : PySem.W.takesIn K (.builtin "object.__class__") = some true)
    (x8_NoName : PySem.W.mroIn K c_NoName (.type "object") = some true)
    (x9_NoName : PySem.W.hasDictIn K c_NoName = true)
    (ik_v_NoName : PySem.W.kitOne K (.ref c_NoName) (.type "ValueError") = some true)
    (ik_NoName__Closed : PySem.W.kitOne K (.ref c_NoName) (.ref c_Closed) = some false)
    (ik_NoName__NoCell : PySem.W.kitOne K (.ref c_NoName) (.ref c_NoCell) = some false)
    (ik_NoName__NoHand : PySem.W.kitOne K (.ref c_NoName) (.ref c_NoHand) = some false)
    (ik_NoName__NoName : PySem.W.kitOne K (.ref c_NoName) (.ref c_NoName) = some true)
    (ik_NoName__NoRoll : PySem.W.kitOne K (.ref c_NoName) (.ref c_NoRoll) = some false)
    (ik_NoName__NoRoom : PySem.W.kitOne K (.ref c_NoName) (.ref c_NoRoom) = some false)
    (ik_NoName__NoRow : PySem.W.kitOne K (.ref c_NoName) (.ref c_NoRow) = some false)
    (ik_NoName__NoSign : PySem.W.kitOne K (.ref c_NoName) (.ref c_NoSign) = some false)
    (ik_NoName__NoSize : PySem.W.kitOne K (.ref c_NoName) (.ref c_NoSize) = some false)
    (ik_NoName__OutError : PySem.W.kitOne K (.ref c_NoName) (.ref c_OutError) = some true)
    (ik_NoName__Twice : PySem.W.kitOne K (.ref c_NoName) (.ref c_Twice) = some false)
    (xs_NoName__OutError : PySem.W.subIn K (.ref c_NoName) (.ref c_OutError) = some true)
    (x1_NoRoll : PySem.W.isClsIn K c_NoRoll = true)
    (x2_NoRoll : PySem.W.findIn K (.ref c_NoRoll) "__getattribute__" = some (some (.builtin "BaseException.__getattribute__")))
    (x3_NoRoll : PySem.W.findIn K (.ref c_NoRoll) "__getattr__" = some none)
    (x4_NoRoll : PySem.W.subIn K (.ref c_NoRoll) (.type "BaseException") = some true)
    (x5_NoRoll : PySem.W.findIn K (.ref c_NoRoll) "__class__" = some (some (.builtin "object.__class__")))
    (x6_NoRoll : PySem.W.specialIn K (.builtin "object.__class__") "__get__" = some (some (.builtin "getset_descriptor.__get__")))
    (x7_NoRoll : PySem.W.takesIn K (.builtin "object.__class__") = some true)
    (x8_NoRoll : PySem.W.mroIn K c_NoRoll (.type "object") = some true)
    (x9_NoRoll : PySem.W.hasDictIn K c_NoRoll = true)
    (ik_v_NoRoll : PySem.W.kitOne K (.ref c_NoRoll) (.type "ValueError") = some true)
    (ik_NoRoll__Closed : PySem.W.kitOne K (.ref c_NoRoll) (.ref c_Closed) = some false)
    (ik_NoRoll__NoCell : PySem.W.kitOne K (.ref c_NoRoll) (.ref c_NoCell) = some false)
    (ik_NoRoll__NoHand : PySem.W.kitOne K (.ref c_NoRoll) (.ref c_NoHand) = some false)
    (ik_NoRoll__NoName : PySem.W.kitOne K (.ref c_NoRoll) (.ref c_NoName) = some false)
    (ik_NoRoll__NoRoll : PySem.W.kitOne K (.ref c_NoRoll) (.ref c_NoRoll) = some true)
    (ik_NoRoll__NoRoom : PySem.W.kitOne K (.ref c_NoRoll) (.ref c_NoRoom) = some false)
    (ik_NoRoll__NoRow : PySem.W.kitOne K (.ref c_NoRoll) (.ref c_NoRow) = some false)
    (ik_NoRoll__NoSign : PySem.W.kitOne K (.ref c_NoRoll) (.ref c_NoSign) = some false)
    (ik_NoRoll__NoSize : PySem.W.kitOne K (.ref c_NoRoll) (.ref c_NoSize) = some false)
    (ik_NoRoll__OutError : PySem.W.kitOne K (.ref c_NoRoll) (.ref c_OutError) = some true)
    (ik_NoRoll__Twice : PySem.W.kitOne K (.ref c_NoRoll) (.ref c_Twice) = some false)
    (xs_NoRoll__OutError : PySem.W.subIn K (.ref c_NoRoll) (.ref c_OutError) = some true)
    (x1_NoRoom : PySem.W.isClsIn K c_NoRoom = true)
    (x2_NoRoom : PySem.W.findIn K (.ref c_NoRoom) "__getattribute__" = some (some (.builtin "BaseException.__getattribute__")))
    (x3_NoRoom : PySem.W.findIn K (.ref c_NoRoom) "__getattr__" = some none)
    (x4_NoRoom : PySem.W.subIn K (.ref c_NoRoom) (.type "BaseException") = some true)
    (x5_NoRoom : PySem.W.findIn K (.ref c_NoRoom) "__class__" = some (some (.builtin "object.__class__")))
    (x6_NoRoom : PySem.W.specialIn K (.builtin "object.__class__") "__get__" = some (some (.builtin "getset_descriptor.__get__")))
    (x7_NoRoom : PySem.W.takesIn K (.builtin "object.__class__") = some true)
    (x8_NoRoom : PySem.W.mroIn K c_NoRoom (.type "object") = some true)
    (x9_NoRoom : PySem.W.hasDictIn K c_NoRoom = true)
    (ik_v_NoRoom : PySem.W.kitOne K (.ref c_NoRoom) (.type "ValueError") = some true)
    (ik_NoRoom__Closed : PySem.W.kitOne K (.ref c_NoRoom) (.ref c_Closed) = some false)
    (ik_NoRoom__NoCell : PySem.W.kitOne K (.ref c_NoRoom) (.ref c_NoCell) = some false)
    (ik_NoRoom__NoHand : PySem.W.kitOne K (.ref c_NoRoom) (.ref c_NoHand) = some false)
    (ik_NoRoom__NoName : PySem.W.kitOne K (.ref c_NoRoom) (.ref c_NoName) = some false)
    (ik_NoRoom__NoRoll : PySem.W.kitOne K (.ref c_NoRoom) (.ref c_NoRoll) = some false)
    (ik_NoRoom__NoRoom : PySem.W.kitOne K (.ref c_NoRoom) (.ref c_NoRoom) = some true)
    (ik_NoRoom__NoRow : PySem.W.kitOne K (.ref c_NoRoom) (.ref c_NoRow) = some false)
    (ik_NoRoom__NoSign : PySem.W.kitOne K (.ref c_NoRoom) (.ref c_NoSign) = some false)
    (ik_NoRoom__NoSize : PySem.W.kitOne K (.ref c_NoRoom) (.ref c_NoSize) = some false)
    (ik_NoRoom__OutError : PySem.W.kitOne K (.ref c_NoRoom) (.ref c_OutError) = some true)
    (ik_NoRoom__Twice : PySem.W.kitOne K (.ref c_NoRoom) (.ref c_Twice) = some false)
    (xs_NoRoom__OutError : PySem.W.subIn K (.ref c_NoRoom) (.ref c_OutError) = some true)
    (x1_NoRow : PySem.W.isClsIn K c_NoRow = true)
    (x2_NoRow : PySem.W.findIn K (.ref c_NoRow) "__getattribute__" = some (some (.builtin "BaseException.__getattribute__")))
    (x3_NoRow : PySem.W.findIn K (.ref c_NoRow) "__getattr__" = some none)
    (x4_NoRow : PySem.W.subIn K (.ref c_NoRow) (.type "BaseException") = some true)
    (x5_NoRow : PySem.W.findIn K (.ref c_NoRow) "__class__" = some (some (.builtin "object.__class__")))
    (x6_NoRow : PySem.W.specialIn K (.builtin "object.__class__") "__get__" = some (some (.builtin "getset_descriptor.__get__")))
    (x7_NoRow : PySem.W.takesIn K (.builtin "object.__class__") = some true)
    (x8_NoRow : PySem.W.mroIn K c_NoRow (.type "object") = some true)
    (x9_NoRow : PySem.W.hasDictIn K c_NoRow = true)
    (ik_v_NoRow : PySem.W.kitOne K (.ref c_NoRow) (.type "ValueError") = some true)
    (ik_NoRow__Closed : PySem.W.kitOne K (.ref c_NoRow) (.ref c_Closed) = some false)
    (ik_NoRow__NoCell : PySem.W.kitOne K (.ref c_NoRow) (.ref c_NoCell) = some false)
    (ik_NoRow__NoHand : PySem.W.kitOne K (.ref c_NoRow) (.ref c_NoHand) = some false)
    (ik_NoRow__NoName : PySem.W.kitOne K (.ref c_NoRow) (.ref c_NoName) = some false)
    (ik_NoRow__NoRoll : PySem.W.kitOne K (.ref c_NoRow) (.ref c_NoRoll) = some false)
    (ik_NoRow__NoRoom : PySem.W.kitOne K (.ref c_NoRow) (.ref c_NoRoom) = some false)
    (ik_NoRow__NoRow : PySem.W.kitOne K (.ref c_NoRow) (.ref c_NoRow) = some true)
    (ik_NoRow__NoSign : PySem.W.kitOne K (.ref c_NoRow) (.ref c_NoSign) = some false)
    (ik_NoRow__NoSize : PySem.W.kitOne K (.ref c_NoRow) (.ref c_NoSize) = some false)
    (ik_NoRow__OutError : PySem.W.kitOne K (.ref c_NoRow) (.ref c_OutError) = some true)
    (ik_NoRow__Twice : PySem.W.kitOne K (.ref c_NoRow) (.ref c_Twice) = some false)
    (xs_NoRow__OutError : PySem.W.subIn K (.ref c_NoRow) (.ref c_OutError) = some true)
    (x1_NoSign : PySem.W.isClsIn K c_NoSign = true)
    (x2_NoSign : PySem.W.findIn K (.ref c_NoSign) "__getattribute__" = some (some (.builtin "BaseException.__getattribute__")))
    (x3_NoSign : PySem.W.findIn K (.ref c_NoSign) "__getattr__" = some none)
    (x4_NoSign : PySem.W.subIn K (.ref c_NoSign) (.type "BaseException") = some true)
    (x5_NoSign : PySem.W.findIn K (.ref c_NoSign) "__class__" = some (some (.builtin "object.__class__")))
    (x6_NoSign : PySem.W.specialIn K (.builtin "object.__class__") "__get__" = some (some (.builtin "getset_descriptor.__get__")))
    (x7_NoSign : PySem.W.takesIn K (.builtin "object.__class__") = some true)
    (x8_NoSign : PySem.W.mroIn K c_NoSign (.type "object") = some true)
    (x9_NoSign : PySem.W.hasDictIn K c_NoSign = true)
    (ik_v_NoSign : PySem.W.kitOne K (.ref c_NoSign) (.type "ValueError") = some true)
    (ik_NoSign__Closed : PySem.W.kitOne K (.ref c_NoSign) (.ref c_Closed) = some false)
    (ik_NoSign__NoCell : PySem.W.kitOne K (.ref c_NoSign) (.ref c_NoCell) = some false)
    (ik_NoSign__NoHand : PySem.W.kitOne K (.ref c_NoSign) (.ref c_NoHand) = some false)
    (ik_NoSign__NoName : PySem.W.kitOne K (.ref c_NoSign) (.ref c_NoName) = some false)
    (ik_NoSign__NoRoll : PySem.W.kitOne K (.ref c_NoSign) (.ref c_NoRoll) = some false)
    (ik_NoSign__NoRoom : PySem.W.kitOne K (.ref c_NoSign) (.ref c_NoRoom) = some false)
    (ik_NoSign__NoRow : PySem.W.kitOne K (.ref c_NoSign) (.ref c_NoRow) = some false)
    (ik_NoSign__NoSign : PySem.W.kitOne K (.ref c_NoSign) (.ref c_NoSign) = some true)
    (ik_NoSign__NoSize : PySem.W.kitOne K (.ref c_NoSign) (.ref c_NoSize) = some false)
    (ik_NoSign__OutError : PySem.W.kitOne K (.ref c_NoSign) (.ref c_OutError) = some true)
    (ik_NoSign__Twice : PySem.W.kitOne K (.ref c_NoSign) (.ref c_Twice) = some false)
    (xs_NoSign__OutError : PySem.W.subIn K (.ref c_NoSign) (.ref c_OutError) = some true)
    (x1_NoSize : PySem.W.isClsIn K c_NoSize = true)
    (x2_NoSize : PySem.W.findIn K (.ref c_NoSize) "__getattribute__" = some (some (.builtin "BaseException.__getattribute__")))
    (x3_NoSize : PySem.W.findIn K (.ref c_NoSize) "__getattr__" = some none)
    (x4_NoSize : PySem.W.subIn K (.ref c_NoSize) (.type "BaseException") = some true)
    (x5_NoSize : PySem.W.findIn K (.ref c_NoSize) "__class__" = some (some (.builtin "object.__class__")))
    (x6_NoSize : PySem.W.specialIn K (.builtin "object.__class__") "__get__" = some (some (.builtin "getset_descriptor.__get__")))
    (x7_NoSize : PySem.W.takesIn K (.builtin "object.__class__") = some true)
    (x8_NoSize : PySem.W.mroIn K c_NoSize (.type "object") = some true)
    (x9_NoSize : PySem.W.hasDictIn K c_NoSize = true)
    (ik_v_NoSize : PySem.W.kitOne K (.ref c_NoSize) (.type "ValueError") = some true)
    (ik_NoSize__Closed : PySem.W.kitOne K (.ref c_NoSize) (.ref c_Closed) = some false)
    (ik_NoSize__NoCell : PySem.W.kitOne K (.ref c_NoSize) (.ref c_NoCell) = some false)
    (ik_NoSize__NoHand : PySem.W.kitOne K (.ref c_NoSize) (.ref c_NoHand) = some false)
    (ik_NoSize__NoName : PySem.W.kitOne K (.ref c_NoSize) (.ref c_NoName) = some false)
    (ik_NoSize__NoRoll : PySem.W.kitOne K (.ref c_NoSize) (.ref c_NoRoll) = some false)
    (ik_NoSize__NoRoom : PySem.W.kitOne K (.ref c_NoSize) (.ref c_NoRoom) = some false)
    (ik_NoSize__NoRow : PySem.W.kitOne K (.ref c_NoSize) (.ref c_NoRow) = some false)
    (ik_NoSize__NoSign : PySem.W.kitOne K (.ref c_NoSize) (.ref c_NoSign) = some false)
    (ik_NoSize__NoSize : PySem.W.kitOne K (.ref c_NoSize) (.ref c_NoSize) = some true)
    (ik_NoSize__OutError : PySem.W.kitOne K (.ref c_NoSize) (.ref c_OutError) = some true)
    (ik_NoSize__Twice : PySem.W.kitOne K (.ref c_NoSize) (.ref c_Twice) = some false)
    (xs_NoSize__OutError : PySem.W.subIn K (.ref c_NoSize) (.ref c_OutError) = some true)
    (x1_Twice : PySem.W.isClsIn K c_Twice = true)
    (x2_Twice : PySem.W.findIn K (.ref c_Twice) "__getattribute__" = some (some (.builtin "BaseException.__getattribute__")))
    (x3_Twice : PySem.W.findIn K (.ref c_Twice) "__getattr__" = some none)
    (x4_Twice : PySem.W.subIn K (.ref c_Twice) (.type "BaseException") = some true)
    (x5_Twice : PySem.W.findIn K (.ref c_Twice) "__class__" = some (some (.builtin "object.__class__")))
    (x6_Twice : PySem.W.specialIn K (.builtin "object.__class__") "__get__" = some (some (.builtin "getset_descriptor.__get__")))
    (x7_Twice : PySem.W.takesIn K (.builtin "object.__class__") = some true)
    (x8_Twice : PySem.W.mroIn K c_Twice (.type "object") = some true)
    (x9_Twice : PySem.W.hasDictIn K c_Twice = true)
    (ik_v_Twice : PySem.W.kitOne K (.ref c_Twice) (.type "ValueError") = some true)
    (ik_Twice__Closed : PySem.W.kitOne K (.ref c_Twice) (.ref c_Closed) = some false)
    (ik_Twice__NoCell : PySem.W.kitOne K (.ref c_Twice) (.ref c_NoCell) = some false)
    (ik_Twice__NoHand : PySem.W.kitOne K (.ref c_Twice) (.ref c_NoHand) = some false)
    (ik_Twice__NoName : PySem.W.kitOne K (.ref c_Twice) (.ref c_NoName) = some false)
    (ik_Twice__NoRoll : PySem.W.kitOne K (.ref c_Twice) (.ref c_NoRoll) = some false)
    (ik_Twice__NoRoom : PySem.W.kitOne K (.ref c_Twice) (.ref c_NoRoom) = some false)
    (ik_Twice__NoRow : PySem.W.kitOne K (.ref c_Twice) (.ref c_NoRow) = some false)
    (ik_Twice__NoSign : PySem.W.kitOne K (.ref c_Twice) (.ref c_NoSign) = some false)
    (ik_Twice__NoSize : PySem.W.kitOne K (.ref c_Twice) (.ref c_NoSize) = some false)
    (ik_Twice__OutError : PySem.W.kitOne K (.ref c_Twice) (.ref c_OutError) = some true)
    (ik_Twice__Twice : PySem.W.kitOne K (.ref c_Twice) (.ref c_Twice) = some true)
    (xs_Twice__OutError : PySem.W.subIn K (.ref c_Twice) (.ref c_OutError) = some true)
    (xf_at__Closed : PySem.W.findIn K (.ref c_Closed) "at" = some none)
    (xf_at__NoCell : PySem.W.findIn K (.ref c_NoCell) "at" = some none)
    (xf_at__NoHand : PySem.W.findIn K (.ref c_NoHand) "at" = some none)
    (xf_at__NoName : PySem.W.findIn K (.ref c_NoName) "at" = some none)
    (xf_at__NoRoll : PySem.W.findIn K (.ref c_NoRoll) "at" = some none)
    (xf_at__NoRoom : PySem.W.findIn K (.ref c_NoRoom) "at" = some none)
    (xf_at__NoRow : PySem.W.findIn K (.ref c_NoRow) "at" = some none)
    (xf_at__NoSign : PySem.W.findIn K (.ref c_NoSign) "at" = some none)
    (xf_at__NoSize : PySem.W.findIn K (.ref c_NoSize) "at" = some none)
    (xf_at__Twice : PySem.W.findIn K (.ref c_Twice) "at" = some none)
    (a1_NoSign_init : PySem.W.findIn K (.ref c_NoSign) "__init__" = some (some (.ref p_NoSign_init)))
    (a5_NoSign_init : PySem.W.typeIn K (.ref p_NoSign_init) = some (.type "function"))
    (a2_NoSign_init : K.lookup p_NoSign_init = some ⟨oc_NoSign_init, od_NoSign_init, .func (PySem.W.fnOf "__init__" "NoSign.__init__" (defArgs s_NoSign_init) (defBody s_NoSign_init) (defScope s_NoSign_init) .none kV_NoSign_init dc_NoSign_init pm_NoSign_init an_NoSign_init cd_NoSign_init ct_NoSign_init), sl_NoSign_init⟩)
    (a3_NoSign_init : PySem.W.codeIn K cd_NoSign_init "NoSign.__init__" = true)
    (a4_NoSign_init : PySem.W.keepIn K (.ref p_NoSign_init) = true)
    (xl_NoSign : K.lookup c_NoSign = some (excClassObj nm_NoSign qq_NoSign c_NoSign NN_NoSign bs_NoSign [.ref c_OutError, .type "ValueError", .type "Exception", .type "BaseException", .type "object"] true sn_NoSign su_NoSign ab_NoSign co_NoSign dd_NoSign m0_NoSign m1_NoSign m2_NoSign m3_NoSign m5_NoSign "ValueError.__new__"))
    (xw_NoSign : PySem.W.findIn K (.ref c_NoSign) "__setattr__" = some (some (.builtin "object.__setattr__")))
    (xt_NoSign : PySem.W.typeIn K (.ref c_NoSign) = some (.type "type"))
    (xq_NoSign : PySem.W.keepIn K (.ref c_NoSign) = true)
    (xn_NoSign : PySem.W.findIn K (.ref c_NoSign) "at" = some none)
    (a1_NoHand_init : PySem.W.findIn K (.ref c_NoHand) "__init__" = some (some (.ref p_NoHand_init)))
    (a5_NoHand_init : PySem.W.typeIn K (.ref p_NoHand_init) = some (.type "function"))
    (a2_NoHand_init : K.lookup p_NoHand_init = some ⟨oc_NoHand_init, od_NoHand_init, .func (PySem.W.fnOf "__init__" "NoHand.__init__" (defArgs s_NoHand_init) (defBody s_NoHand_init) (defScope s_NoHand_init) .none kV_NoHand_init dc_NoHand_init pm_NoHand_init an_NoHand_init cd_NoHand_init ct_NoHand_init), sl_NoHand_init⟩)
    (a3_NoHand_init : PySem.W.codeIn K cd_NoHand_init "NoHand.__init__" = true)
    (a4_NoHand_init : PySem.W.keepIn K (.ref p_NoHand_init) = true)
    (xl_NoHand : K.lookup c_NoHand = some (excClassObj nm_NoHand qq_NoHand c_NoHand NN_NoHand bs_NoHand [.ref c_OutError, .type "ValueError", .type "Exception", .type "BaseException", .type "object"] true sn_NoHand su_NoHand ab_NoHand co_NoHand dd_NoHand m0_NoHand m1_NoHand m2_NoHand m3_NoHand m5_NoHand "ValueError.__new__"))
    (xw_NoHand : PySem.W.findIn K (.ref c_NoHand) "__setattr__" = some (some (.builtin "object.__setattr__")))
    (xt_NoHand : PySem.W.typeIn K (.ref c_NoHand) = some (.type "type"))
    (xq_NoHand : PySem.W.keepIn K (.ref c_NoHand) = true)
    (xn_NoHand : PySem.W.findIn K (.ref c_NoHand) "name" = some none)
    (a1_Twice_init : PySem.W.findIn K (.ref c_Twice) "__init__" = some (some (.ref p_Twice_init)))
    (a5_Twice_init : PySem.W.typeIn K (.ref p_Twice_init) = some (.type "function"))
    (a2_Twice_init : K.lookup p_Twice_init = some ⟨oc_Twice_init, od_Twice_init, .func (PySem.W.fnOf "__init__" "Twice.__init__" (defArgs s_Twice_init) (defBody s_Twice_init) (defScope s_Twice_init) .none kV_Twice_init dc_Twice_init pm_Twice_init an_Twice_init cd_Twice_init ct_Twice_init), sl_Twice_init⟩)
    (a3_Twice_init : PySem.W.codeIn K cd_Twice_init "Twice.__init__" = true)
    (a4_Twice_init : PySem.W.keepIn K (.ref p_Twice_init) = true)
    (xl_Twice : K.lookup c_Twice = some (excClassObj nm_Twice qq_Twice c_Twice NN_Twice bs_Twice [.ref c_OutError, .type "ValueError", .type "Exception", .type "BaseException", .type "object"] true sn_Twice su_Twice ab_Twice co_Twice dd_Twice m0_Twice m1_Twice m2_Twice m3_Twice m5_Twice "ValueError.__new__"))
    (xw_Twice : PySem.W.findIn K (.ref c_Twice) "__setattr__" = some (some (.builtin "object.__setattr__")))
    (xt_Twice : PySem.W.typeIn K (.ref c_Twice) = some (.type "type"))
    (xq_Twice : PySem.W.keepIn K (.ref c_Twice) = true)
    (xn_Twice : PySem.W.findIn K (.ref c_Twice) "name" = some none)
    (a1_Closed_init : PySem.W.findIn K (.ref c_Closed) "__init__" = some (some (.ref p_Closed_init)))
    (a5_Closed_init : PySem.W.typeIn K (.ref p_Closed_init) = some (.type "function"))
    (a2_Closed_init : K.lookup p_Closed_init = some ⟨oc_Closed_init, od_Closed_init, .func (PySem.W.fnOf "__init__" "Closed.__init__" (defArgs s_Closed_init) (defBody s_Closed_init) (defScope s_Closed_init) .none kV_Closed_init dc_Closed_init pm_Closed_init an_Closed_init cd_Closed_init ct_Closed_init), sl_Closed_init⟩)
    (a3_Closed_init : PySem.W.codeIn K cd_Closed_init "Closed.__init__" = true)
    (a4_Closed_init : PySem.W.keepIn K (.ref p_Closed_init) = true)
    (xl_Closed : K.lookup c_Closed = some (excClassObj nm_Closed qq_Closed c_Closed NN_Closed bs_Closed [.ref c_OutError, .type "ValueError", .type "Exception", .type "BaseException", .type "object"] true sn_Closed su_Closed ab_Closed co_Closed dd_Closed m0_Closed m1_Closed m2_Closed m3_Closed m5_Closed "ValueError.__new__"))
    (xw_Closed : PySem.W.findIn K (.ref c_Closed) "__setattr__" = some (some (.builtin "object.__setattr__")))
    (xt_Closed : PySem.W.typeIn K (.ref c_Closed) = some (.type "type"))
    (xq_Closed : PySem.W.keepIn K (.ref c_Closed) = true)
    (xn_Closed : PySem.W.findIn K (.ref c_Closed) "name" = some none)
    (a1_NoRoom_init : PySem.W.findIn K (.ref c_NoRoom) "__init__" = some (some (.ref p_NoRoom_init)))
    (a5_NoRoom_init : PySem.W.typeIn K (.ref p_NoRoom_init) = some (.type "function"))
    (a2_NoRoom_init : K.lookup p_NoRoom_init = some ⟨oc_NoRoom_init, od_NoRoom_init, .func (PySem.W.fnOf "__init__" "NoRoom.__init__" (defArgs s_NoRoom_init) (defBody s_NoRoom_init) (defScope s_NoRoom_init) .none kV_NoRoom_init dc_NoRoom_init pm_NoRoom_init an_NoRoom_init cd_NoRoom_init ct_NoRoom_init), sl_NoRoom_init⟩)
    (a3_NoRoom_init : PySem.W.codeIn K cd_NoRoom_init "NoRoom.__init__" = true)
    (a4_NoRoom_init : PySem.W.keepIn K (.ref p_NoRoom_init) = true)
    (xl_NoRoom : K.lookup c_NoRoom = some (excClassObj nm_NoRoom qq_NoRoom c_NoRoom NN_NoRoom bs_NoRoom [.ref c_OutError, .type "ValueError", .type "Exception", .type "BaseException", .type "object"] true sn_NoRoom su_NoRoom ab_NoRoom co_NoRoom dd_NoRoom m0_NoRoom m1_NoRoom m2_NoRoom m3_NoRoom m5_NoRoom "ValueError.__new__"))
    (xw_NoRoom : PySem.W.findIn K (.ref c_NoRoom) "__setattr__" = some (some (.builtin "object.__setattr__")))
    (xt_NoRoom : PySem.W.typeIn K (.ref c_NoRoom) = some (.type "type"))
    (xq_NoRoom : PySem.W.keepIn K (.ref c_NoRoom) = true)
    (xn_NoRoom : PySem.W.findIn K (.ref c_NoRoom) "at" = some none)
    (a1_NoRoll_init : PySem.W.findIn K (.ref c_NoRoll) "__init__" = some (some (.ref p_NoRoll_init)))
    (a5_NoRoll_init : PySem.W.typeIn K (.ref p_NoRoll_init) = some (.type "function"))
    (a2_NoRoll_init : K.lookup p_NoRoll_init = some ⟨oc_NoRoll_init, od_NoRoll_init, .func (PySem.W.fnOf "__init__" "NoRoll.__init__" (defArgs s_NoRoll_init) (defBody s_NoRoll_init) (defScope s_NoRoll_init) .none kV_NoRoll_init dc_NoRoll_init pm_NoRoll_init an_NoRoll_init cd_NoRoll_init ct_NoRoll_init), sl_NoRoll_init⟩)
    (a3_NoRoll_init : PySem.W.codeIn K cd_NoRoll_init "NoRoll.__init__" = true)
    (a4_NoRoll_init : PySem.W.keepIn K (.ref p_NoRoll_init) = true)
    (xl_NoRoll : K.lookup c_NoRoll = some (excClassObj nm_NoRoll qq_NoRoll c_NoRoll NN_NoRoll bs_NoRoll [.ref c_OutError, .type "ValueError", .type "Exception", .type "BaseException", .type "object"] true sn_NoRoll su_NoRoll ab_NoRoll co_NoRoll dd_NoRoll m0_NoRoll m1_NoRoll m2_NoRoll m3_NoRoll m5_NoRoll "ValueError.__new__"))
    (xw_NoRoll : PySem.W.findIn K (.ref c_NoRoll) "__setattr__" = some (some (.builtin "object.__setattr__")))
    (xt_NoRoll : PySem.W.typeIn K (.ref c_NoRoll) = some (.type "type"))
    (xq_NoRoll : PySem.W.keepIn K (.ref c_NoRoll) = true)
    (xn_NoRoll : PySem.W.findIn K (.ref c_NoRoll) "at" = some none)
    (rd_OutError : PySem.W.readsIn K c_OutError (.type "type") = true)
    (ga_OutError : PySem.W.specialIn K (.ref c_OutError) "__getattribute__" = some (some (.builtin "type.__getattribute__")))
    (bi_OutError : PySem.W.findCls K (.ref c_OutError) (.type "type") "__init__" = some (.val (.builtin "ValueError.__init__")))
    (xm1_OutError : PySem.W.subIn K (.ref c_OutError) (.type "BaseException") = some true)
    (xm2_OutError : PySem.W.hasDictIn K c_OutError = true)
    (xm3_OutError : PySem.W.typeIn K (.ref c_OutError) = some (.type "type"))
    (xp_NoRow : PySem.W.excIn K c_NoRow [.type "ValueError", .type "Exception", .type "BaseException", .type "object"] "ValueError.__new__" = true)
    (xq_NoRow : PySem.W.keepIn K (.ref c_NoRow) = true)
    (xt_NoRow : PySem.W.typeIn K (.ref c_NoRow) = some (.type "type"))
    (xp_NoCell : PySem.W.excIn K c_NoCell [.type "ValueError", .type "Exception", .type "BaseException", .type "object"] "ValueError.__new__" = true)
    (xq_NoCell : PySem.W.keepIn K (.ref c_NoCell) = true)
    (xt_NoCell : PySem.W.typeIn K (.ref c_NoCell) = some (.type "type"))
    (xp_NoSize : PySem.W.excIn K c_NoSize [.type "ValueError", .type "Exception", .type "BaseException", .type "object"] "ValueError.__new__" = true)
    (xq_NoSize : PySem.W.keepIn K (.ref c_NoSize) = true)
    (xt_NoSize : PySem.W.typeIn K (.ref c_NoSize) = some (.type "type"))
    (xp_NoName : PySem.W.excIn K c_NoName [.type "ValueError", .type "Exception", .type "BaseException", .type "object"] "ValueError.__new__" = true)
    (xq_NoName : PySem.W.keepIn K (.ref c_NoName) = true)
    (xt_NoName : PySem.W.typeIn K (.ref c_NoName) = some (.type "type"))
    (gc_Reader : PySem.W.nsIn K mainGlobals "Reader" = some (some (.ref c_Reader)))
    (a1_is_sign : PySem.W.nsIn K mainGlobals "is_sign" = some (some (.ref p_is_sign)))
    (a2_is_sign : K.lookup p_is_sign = some ⟨oc_is_sign, od_is_sign, .func (PySem.W.fnOf "is_sign" "is_sign" (defArgs s_is_sign) (defBody s_is_sign) (defScope s_is_sign) .none kV_is_sign dc_is_sign pm_is_sign an_is_sign cd_is_sign ct_is_sign), sl_is_sign⟩)
    (a3_is_sign : PySem.W.codeIn K cd_is_sign "is_sign" = true)
    (a4_is_sign : PySem.W.keepIn K (.ref p_is_sign) = true)
    (a1_is_colour : PySem.W.nsIn K mainGlobals "is_colour" = some (some (.ref p_is_colour)))
    (a2_is_colour : K.lookup p_is_colour = some ⟨oc_is_colour, od_is_colour, .func (PySem.W.fnOf "is_colour" "is_colour" (defArgs s_is_colour) (defBody s_is_colour) (defScope s_is_colour) .none kV_is_colour dc_is_colour pm_is_colour an_is_colour cd_is_colour ct_is_colour), sl_is_colour⟩)
    (a3_is_colour : PySem.W.codeIn K cd_is_colour "is_colour" = true)
    (a4_is_colour : PySem.W.keepIn K (.ref p_is_colour) = true)
    (a1_checked__X1 : PySem.W.nsIn K mainGlobals "checked" = some (some (.ref p_checked__X1)))
    (a2_checked__X1 : K.lookup p_checked__X1 = some ⟨oc_checked__X1, od_checked__X1, .func (PySem.W.fnOf "checked" "checked" (defArgs s_checked__X1) (defBody s_checked__X1) (defScope s_checked__X1) .none kV_checked__X1 dc_checked__X1 pm_checked__X1 an_checked__X1 cd_checked__X1 ct_checked__X1), sl_checked__X1⟩)
    (a3_checked__X1 : PySem.W.codeIn K cd_checked__X1 "checked" = true)
    (a4_checked__X1 : PySem.W.keepIn K (.ref p_checked__X1) = true)
    (a1_checked : PySem.W.nsIn K mainGlobals "checked" = some (some (.ref p_checked)))
    (a2_checked : K.lookup p_checked = some ⟨oc_checked, od_checked, .func (PySem.W.fnOf "checked" "checked" (defArgs s_checked) (defBody s_checked) (defScope s_checked) .none kV_checked dc_checked pm_checked an_checked cd_checked ct_checked), sl_checked⟩)
    (a3_checked : PySem.W.codeIn K cd_checked "checked" = true)
    (a4_checked : PySem.W.keepIn K (.ref p_checked) = true)
    (a1_sign_item : PySem.W.nsIn K mainGlobals "sign_item" = some (some (.ref p_sign_item)))
    (a2_sign_item : K.lookup p_sign_item = some ⟨oc_sign_item, od_sign_item, .func (PySem.W.fnOf "sign_item" "sign_item" (defArgs s_sign_item) (defBody s_sign_item) (defScope s_sign_item) .none kV_sign_item dc_sign_item pm_sign_item an_sign_item cd_sign_item ct_sign_item), sl_sign_item⟩)
    (a3_sign_item : PySem.W.codeIn K cd_sign_item "sign_item" = true)
    (a4_sign_item : PySem.W.keepIn K (.ref p_sign_item) = true)
    (a1_begins_mark : PySem.W.nsIn K mainGlobals "begins_mark" = some (some (.ref p_begins_mark)))
    (a2_begins_mark : K.lookup p_begins_mark = some ⟨oc_begins_mark, od_begins_mark, .func (PySem.W.fnOf "begins_mark" "begins_mark" (defArgs s_begins_mark) (defBody s_begins_mark) (defScope s_begins_mark) .none kV_begins_mark dc_begins_mark pm_begins_mark an_begins_mark cd_begins_mark ct_begins_mark), sl_begins_mark⟩)
    (a3_begins_mark : PySem.W.codeIn K cd_begins_mark "begins_mark" = true)
    (a4_begins_mark : PySem.W.keepIn K (.ref p_begins_mark) = true)
    (a1_mark_item : PySem.W.nsIn K mainGlobals "mark_item" = some (some (.ref p_mark_item)))
    (a2_mark_item : K.lookup p_mark_item = some ⟨oc_mark_item, od_mark_item, .func (PySem.W.fnOf "mark_item" "mark_item" (defArgs s_mark_item) (defBody s_mark_item) (defScope s_mark_item) .none kV_mark_item dc_mark_item pm_mark_item an_mark_item cd_mark_item ct_mark_item), sl_mark_item⟩)
    (a3_mark_item : PySem.W.codeIn K cd_mark_item "mark_item" = true)
    (a4_mark_item : PySem.W.keepIn K (.ref p_mark_item) = true)
    (a1_Reader_init : PySem.W.findIn K (.ref c_Reader) "__init__" = some (some (.ref p_Reader_init)))
    (a5_Reader_init : PySem.W.isFn K (.ref p_Reader_init) = true)
    (a2_Reader_init : K.lookup p_Reader_init = some ⟨oc_Reader_init, od_Reader_init, .func (PySem.W.fnOf "__init__" "Reader.__init__" (defArgs s_Reader_init) (defBody s_Reader_init) (defScope s_Reader_init) .none kV_Reader_init dc_Reader_init pm_Reader_init an_Reader_init cd_Reader_init ct_Reader_init), sl_Reader_init⟩)
    (a3_Reader_init : PySem.W.codeIn K cd_Reader_init "Reader.__init__" = true)
    (a4_Reader_init : PySem.W.keepIn K (.ref p_Reader_init) = true)
    (a1_Reader_held_text : PySem.W.findIn K (.ref c_Reader) "held_text" = some (some (.ref p_Reader_held_text)))
    (a5_Reader_held_text : PySem.W.isFn K (.ref p_Reader_held_text) = true)
    (a2_Reader_held_text : K.lookup p_Reader_held_text = some ⟨oc_Reader_held_text, od_Reader_held_text, .func (PySem.W.fnOf "held_text" "Reader.held_text" (defArgs s_Reader_held_text) (defBody s_Reader_held_text) (defScope s_Reader_held_text) .none kV_Reader_held_text dc_Reader_held_text pm_Reader_held_text an_Reader_held_text cd_Reader_held_text ct_Reader_held_text), sl_Reader_held_text⟩)
    (a3_Reader_held_text : PySem.W.codeIn K cd_Reader_held_text "Reader.held_text" = true)
    (a4_Reader_held_text : PySem.W.keepIn K (.ref p_Reader_held_text) = true)
    (a1_Reader_told : PySem.W.findIn K (.ref c_Reader) "told" = some (some (.ref p_Reader_told)))
    (a5_Reader_told : PySem.W.isFn K (.ref p_Reader_told) = true)
    (a2_Reader_told : K.lookup p_Reader_told = some ⟨oc_Reader_told, od_Reader_told, .func (PySem.W.fnOf "told" "Reader.told" (defArgs s_Reader_told) (defBody s_Reader_told) (defScope s_Reader_told) .none kV_Reader_told dc_Reader_told pm_Reader_told an_Reader_told cd_Reader_told ct_Reader_told), sl_Reader_told⟩)
    (a3_Reader_told : PySem.W.codeIn K cd_Reader_told "Reader.told" = true)
    (a4_Reader_told : PySem.W.keepIn K (.ref p_Reader_told) = true)
    (a1_Reader_take : PySem.W.findIn K (.ref c_Reader) "take" = some (some (.ref p_Reader_take)))
    (a5_Reader_take : PySem.W.isFn K (.ref p_Reader_take) = true)
    (a2_Reader_take : K.lookup p_Reader_take = some ⟨oc_Reader_take, od_Reader_take, .func (PySem.W.fnOf "take" "Reader.take" (defArgs s_Reader_take) (defBody s_Reader_take) (defScope s_Reader_take) .none kV_Reader_take dc_Reader_take pm_Reader_take an_Reader_take cd_Reader_take ct_Reader_take), sl_Reader_take⟩)
    (a3_Reader_take : PySem.W.codeIn K cd_Reader_take "Reader.take" = true)
    (a4_Reader_take : PySem.W.keepIn K (.ref p_Reader_take) = true)
    (a1_Reader_feed__X1 : PySem.W.findIn K (.ref c_Reader) "feed" = some (some (.ref p_Reader_feed__X1)))
    (a5_Reader_feed__X1 : PySem.W.isFn K (.ref p_Reader_feed__X1) = true)
    (a2_Reader_feed__X1 : K.lookup p_Reader_feed__X1 = some ⟨oc_Reader_feed__X1, od_Reader_feed__X1, .func (PySem.W.fnOf "feed" "Reader.feed" (defArgs s_Reader_feed__X1) (defBody s_Reader_feed__X1) (defScope s_Reader_feed__X1) .none kV_Reader_feed__X1 dc_Reader_feed__X1 pm_Reader_feed__X1 an_Reader_feed__X1 cd_Reader_feed__X1 ct_Reader_feed__X1), sl_Reader_feed__X1⟩)
    (a3_Reader_feed__X1 : PySem.W.codeIn K cd_Reader_feed__X1 "Reader.feed" = true)
    (a4_Reader_feed__X1 : PySem.W.keepIn K (.ref p_Reader_feed__X1) = true)
    (a1_Reader_feed : PySem.W.findIn K (.ref c_Reader) "feed" = some (some (.ref p_Reader_feed)))
    (a5_Reader_feed : PySem.W.isFn K (.ref p_Reader_feed) = true)
    (a2_Reader_feed : K.lookup p_Reader_feed = some ⟨oc_Reader_feed, od_Reader_feed, .func (PySem.W.fnOf "feed" "Reader.feed" (defArgs s_Reader_feed) (defBody s_Reader_feed) (defScope s_Reader_feed) .none kV_Reader_feed dc_Reader_feed pm_Reader_feed an_Reader_feed cd_Reader_feed ct_Reader_feed), sl_Reader_feed⟩)
    (a3_Reader_feed : PySem.W.codeIn K cd_Reader_feed "Reader.feed" = true)
    (a4_Reader_feed : PySem.W.keepIn K (.ref p_Reader_feed) = true)
    (a1_Reader_finish : PySem.W.findIn K (.ref c_Reader) "finish" = some (some (.ref p_Reader_finish)))
    (a5_Reader_finish : PySem.W.isFn K (.ref p_Reader_finish) = true)
    (a2_Reader_finish : K.lookup p_Reader_finish = some ⟨oc_Reader_finish, od_Reader_finish, .func (PySem.W.fnOf "finish" "Reader.finish" (defArgs s_Reader_finish) (defBody s_Reader_finish) (defScope s_Reader_finish) .none kV_Reader_finish dc_Reader_finish pm_Reader_finish an_Reader_finish cd_Reader_finish ct_Reader_finish), sl_Reader_finish⟩)
    (a3_Reader_finish : PySem.W.codeIn K cd_Reader_finish "Reader.finish" = true)
    (a4_Reader_finish : PySem.W.keepIn K (.ref p_Reader_finish) = true)
    (a1_items_of__X1 : PySem.W.nsIn K mainGlobals "items_of" = some (some (.ref p_items_of__X1)))
    (a2_items_of__X1 : K.lookup p_items_of__X1 = some ⟨oc_items_of__X1, od_items_of__X1, .func (PySem.W.fnOf "items_of" "items_of" (defArgs s_items_of__X1) (defBody s_items_of__X1) (defScope s_items_of__X1) .none kV_items_of__X1 dc_items_of__X1 pm_items_of__X1 an_items_of__X1 cd_items_of__X1 ct_items_of__X1), sl_items_of__X1⟩)
    (a3_items_of__X1 : PySem.W.codeIn K cd_items_of__X1 "items_of" = true)
    (a4_items_of__X1 : PySem.W.keepIn K (.ref p_items_of__X1) = true)
    (a1_lw_cell : PySem.W.nsIn K mainGlobals "_law_cell" = some (some (.ref p_lw_cell)))
    (a2_lw_cell : K.lookup p_lw_cell = some ⟨oc_lw_cell, od_lw_cell, .func (PySem.W.fnOf "_law_cell" "_law_cell" (defArgs s_lw_cell) (defBody s_lw_cell) (defScope s_lw_cell) .none kV_lw_cell dc_lw_cell pm_lw_cell an_lw_cell cd_lw_cell ct_lw_cell), sl_lw_cell⟩)
    (a3_lw_cell : PySem.W.codeIn K cd_lw_cell "_law_cell" = true)
    (a4_lw_cell : PySem.W.keepIn K (.ref p_lw_cell) = true)
    (a1_lw_mix : PySem.W.nsIn K mainGlobals "_law_mix" = some (some (.ref p_lw_mix)))
    (a2_lw_mix : K.lookup p_lw_mix = some ⟨oc_lw_mix, od_lw_mix, .func (PySem.W.fnOf "_law_mix" "_law_mix" (defArgs s_lw_mix) (defBody s_lw_mix) (defScope s_lw_mix) .none kV_lw_mix dc_lw_mix pm_lw_mix an_lw_mix cd_lw_mix ct_lw_mix), sl_lw_mix⟩)
    (a3_lw_mix : PySem.W.codeIn K cd_lw_mix "_law_mix" = true)
    (a4_lw_mix : PySem.W.keepIn K (.ref p_lw_mix) = true)
    (a1_lw_signs : PySem.W.nsIn K mainGlobals "_law_signs" = some (some (.ref p_lw_signs)))
    (a2_lw_signs : K.lookup p_lw_signs = some ⟨oc_lw_signs, od_lw_signs, .func (PySem.W.fnOf "_law_signs" "_law_signs" (defArgs s_lw_signs) (defBody s_lw_signs) (defScope s_lw_signs) .none kV_lw_signs dc_lw_signs pm_lw_signs an_lw_signs cd_lw_signs ct_lw_signs), sl_lw_signs⟩)
    (a3_lw_signs : PySem.W.codeIn K cd_lw_signs "_law_signs" = true)
    (a4_lw_signs : PySem.W.keepIn K (.ref p_lw_signs) = true)
    (a1_lw_token : PySem.W.nsIn K mainGlobals "_law_token" = some (some (.ref p_lw_token)))
    (a2_lw_token : K.lookup p_lw_token = some ⟨oc_lw_token, od_lw_token, .func (PySem.W.fnOf "_law_token" "_law_token" (defArgs s_lw_token) (defBody s_lw_token) (defScope s_lw_token) .none kV_lw_token dc_lw_token pm_lw_token an_lw_token cd_lw_token ct_lw_token), sl_lw_token⟩)
    (a3_lw_token : PySem.W.codeIn K cd_lw_token "_law_token" = true)
    (a4_lw_token : PySem.W.keepIn K (.ref p_lw_token) = true)
    (a1_lw_item : PySem.W.nsIn K mainGlobals "_law_item" = some (some (.ref p_lw_item)))
    (a2_lw_item : K.lookup p_lw_item = some ⟨oc_lw_item, od_lw_item, .func (PySem.W.fnOf "_law_item" "_law_item" (defArgs s_lw_item) (defBody s_lw_item) (defScope s_lw_item) .none kV_lw_item dc_lw_item pm_lw_item an_lw_item cd_lw_item ct_lw_item), sl_lw_item⟩)
    (a3_lw_item : PySem.W.codeIn K cd_lw_item "_law_item" = true)
    (a4_lw_item : PySem.W.keepIn K (.ref p_lw_item) = true)
    (a1_lw_items : PySem.W.nsIn K mainGlobals "_law_items" = some (some (.ref p_lw_items)))
    (a2_lw_items : K.lookup p_lw_items = some ⟨oc_lw_items, od_lw_items, .func (PySem.W.fnOf "_law_items" "_law_items" (defArgs s_lw_items) (defBody s_lw_items) (defScope s_lw_items) .none kV_lw_items dc_lw_items pm_lw_items an_lw_items cd_lw_items ct_lw_items), sl_lw_items⟩)
    (a3_lw_items : PySem.W.codeIn K cd_lw_items "_law_items" = true)
    (a4_lw_items : PySem.W.keepIn K (.ref p_lw_items) = true)
    (a1_lw_whole : PySem.W.nsIn K mainGlobals "_law_whole" = some (some (.ref p_lw_whole)))
    (a2_lw_whole : K.lookup p_lw_whole = some ⟨oc_lw_whole, od_lw_whole, .func (PySem.W.fnOf "_law_whole" "_law_whole" (defArgs s_lw_whole) (defBody s_lw_whole) (defScope s_lw_whole) .none kV_lw_whole dc_lw_whole pm_lw_whole an_lw_whole cd_lw_whole ct_lw_whole), sl_lw_whole⟩)
    (a3_lw_whole : PySem.W.codeIn K cd_lw_whole "_law_whole" = true)
    (a4_lw_whole : PySem.W.keepIn K (.ref p_lw_whole) = true)
    (a1_lw_same : PySem.W.nsIn K mainGlobals "_law_same" = some (some (.ref p_lw_same)))
    (a2_lw_same : K.lookup p_lw_same = some ⟨oc_lw_same, od_lw_same, .func (PySem.W.fnOf "_law_same" "_law_same" (defArgs s_lw_same) (defBody s_lw_same) (defScope s_lw_same) .none kV_lw_same dc_lw_same pm_lw_same an_lw_same cd_lw_same ct_lw_same), sl_lw_same⟩)
    (a3_lw_same : PySem.W.codeIn K cd_lw_same "_law_same" = true)
    (a4_lw_same : PySem.W.keepIn K (.ref p_lw_same) = true)
    (a1_lw_did : PySem.W.nsIn K mainGlobals "_law_did" = some (some (.ref p_lw_did)))
    (a2_lw_did : K.lookup p_lw_did = some ⟨oc_lw_did, od_lw_did, .func (PySem.W.fnOf "_law_did" "_law_did" (defArgs s_lw_did) (defBody s_lw_did) (defScope s_lw_did) .none kV_lw_did dc_lw_did pm_lw_did an_lw_did cd_lw_did ct_lw_did), sl_lw_did⟩)
    (a3_lw_did : PySem.W.codeIn K cd_lw_did "_law_did" = true)
    (a4_lw_did : PySem.W.keepIn K (.ref p_lw_did) = true)
    (a1_lw_refused : PySem.W.nsIn K mainGlobals "_law_refused" = some (some (.ref p_lw_refused)))
    (a2_lw_refused : K.lookup p_lw_refused = some ⟨oc_lw_refused, od_lw_refused, .func (PySem.W.fnOf "_law_refused" "_law_refused" (defArgs s_lw_refused) (defBody s_lw_refused) (defScope s_lw_refused) .none kV_lw_refused dc_lw_refused pm_lw_refused an_lw_refused cd_lw_refused ct_lw_refused), sl_lw_refused⟩)
    (a3_lw_refused : PySem.W.codeIn K cd_lw_refused "_law_refused" = true)
    (a4_lw_refused : PySem.W.keepIn K (.ref p_lw_refused) = true)
    (a1_lw_by_hand : PySem.W.nsIn K mainGlobals "_law_by_hand" = some (some (.ref p_lw_by_hand)))
    (a2_lw_by_hand : K.lookup p_lw_by_hand = some ⟨oc_lw_by_hand, od_lw_by_hand, .func (PySem.W.fnOf "_law_by_hand" "_law_by_hand" (defArgs s_lw_by_hand) (defBody s_lw_by_hand) (defScope s_lw_by_hand) .none kV_lw_by_hand dc_lw_by_hand pm_lw_by_hand an_lw_by_hand cd_lw_by_hand ct_lw_by_hand), sl_lw_by_hand⟩)
    (a3_lw_by_hand : PySem.W.codeIn K cd_lw_by_hand "_law_by_hand" = true)
    (a4_lw_by_hand : PySem.W.keepIn K (.ref p_lw_by_hand) = true)
    (a1_lw_spoilt : PySem.W.nsIn K mainGlobals "_law_spoilt" = some (some (.ref p_lw_spoilt)))
    (a2_lw_spoilt : K.lookup p_lw_spoilt = some ⟨oc_lw_spoilt, od_lw_spoilt, .func (PySem.W.fnOf "_law_spoilt" "_law_spoilt" (defArgs s_lw_spoilt) (defBody s_lw_spoilt) (defScope s_lw_spoilt) .none kV_lw_spoilt dc_lw_spoilt pm_lw_spoilt an_lw_spoilt cd_lw_spoilt ct_lw_spoilt), sl_lw_spoilt⟩)
    (a3_lw_spoilt : PySem.W.codeIn K cd_lw_spoilt "_law_spoilt" = true)
    (a4_lw_spoilt : PySem.W.keepIn K (.ref p_lw_spoilt) = true)
    (a1_law : PySem.W.nsIn K mainGlobals "law" = some (some (.ref p_law)))
    (a2_law : K.lookup p_law = some ⟨oc_law, od_law, .func (PySem.W.fnOf "law" "law" (defArgs s_law) (defBody s_law) (defScope s_law) .none kV_law dc_law pm_law an_law cd_law ct_law), sl_law⟩)
    (a3_law : PySem.W.codeIn K cd_law "law" = true)
    (a4_law : PySem.W.keepIn K (.ref p_law) = true)
    (z_ValueError : PySem.W.nsIn K mainGlobals "ValueError" = some none)
    (z_bool : PySem.W.nsIn K mainGlobals "bool" = some none)
    (z_enumerate : PySem.W.nsIn K mainGlobals "enumerate" = some none)
    (z_int : PySem.W.nsIn K mainGlobals "int" = some none)
    (z_isinstance : PySem.W.nsIn K mainGlobals "isinstance" = some none)
    (z_len : PySem.W.nsIn K mainGlobals "len" = some none)
    (z_list : PySem.W.nsIn K mainGlobals "list" = some none)
    (z_range : PySem.W.nsIn K mainGlobals "range" = some none)
    (z_str : PySem.W.nsIn K mainGlobals "str" = some none)
    (z_tuple : PySem.W.nsIn K mainGlobals "tuple" = some none)
    (k_COLOURS : PySem.W.nsIn K mainGlobals "COLOURS" = some (some (.str "abcdefgh." t_COLOURS)))
    (k_CONTROLS : PySem.W.nsIn K mainGlobals "CONTROLS" = some (some (.str "\n\t" t_CONTROLS)))
    (k1_ENDS : PySem.W.nsIn K mainGlobals "ENDS" = some (some (.ref q_ENDS)))
    (k2_ENDS : K.lookup q_ENDS = some ⟨.type "dict", none, .dict es_ENDS n_ENDS, #[]⟩)
    (k4_ENDS : (q_ENDS == sysModules) = false)
    (k3_ENDS : KdVals w.params es_ENDS.toList kv_ENDS)
    (k_FIRST : PySem.W.nsIn K mainGlobals "FIRST" = some (some (.str " " t_FIRST)))
    (k_LAST : PySem.W.nsIn K mainGlobals "LAST" = some (some (.str "}" t_LAST)))
    (pg_Reader : PySem.W.plainGet K c_Reader Str.empty = true)
    (hd_Reader : PySem.W.hasDictIn K c_Reader = true)
    (po_Reader : PySem.W.plainOver K c_Reader = true)
    (sa_Reader : PySem.W.findIn K (.ref c_Reader) "__setattr__" = some (some (.builtin "object.__setattr__")))
    (na_Reader_kept : PySem.W.findIn K (.ref c_Reader) "kept" = some none)
    (na_Reader_place : PySem.W.findIn K (.ref c_Reader) "place" = some none)
    (mi_Reader : PySem.W.makesIn K c_Reader = true)
    (kc_Reader : PySem.W.keepIn K (.ref c_Reader) = true) :
    ∃ fd : FuncData, (∀ (s : Shared) (v : Value), BindsTo s fd ⟨[v], []⟩ [("_law_script", v)]) ∧ ∀ base : Heap, K.In base → base.Ns mainGlobals mg → FnOk l.prog w K mg base CX0 8 fa fd ["_law_script"] (spLaw K) := by
  have e := hfa.symm.trans (PySem.W.mg_of X G a1_law)
  cases e
  have Fis_sign := fun_mk (st := s_is_sign) a2_is_sign a3_is_sign a4_is_sign
  have Fis_colour := fun_mk (st := s_is_colour) a2_is_colour a3_is_colour a4_is_colour
  have Fchecked__X1 := fun_mk (st := s_checked__X1) a2_checked__X1 a3_checked__X1 a4_checked__X1
  have Fchecked := fun_mk (st := s_checked) a2_checked a3_checked a4_checked
  have Fsign_item := fun_mk (st := s_sign_item) a2_sign_item a3_sign_item a4_sign_item
  have Fbegins_mark := fun_mk (st := s_begins_mark) a2_begins_mark a3_begins_mark a4_begins_mark
  have Fmark_item := fun_mk (st := s_mark_item) a2_mark_item a3_mark_item a4_mark_item
  have FReader_init := fun_mk (st := s_Reader_init) a2_Reader_init a3_Reader_init a4_Reader_init
  have FReader_held_text := fun_mk (st := s_Reader_held_text) a2_Reader_held_text a3_Reader_held_text a4_Reader_held_text
  have FReader_told := fun_mk (st := s_Reader_told) a2_Reader_told a3_Reader_told a4_Reader_told
  have FReader_take := fun_mk (st := s_Reader_take) a2_Reader_take a3_Reader_take a4_Reader_take
  have FReader_feed__X1 := fun_mk (st := s_Reader_feed__X1) a2_Reader_feed__X1 a3_Reader_feed__X1 a4_Reader_feed__X1
  have FReader_feed := fun_mk (st := s_Reader_feed) a2_Reader_feed a3_Reader_feed a4_Reader_feed
  have FReader_finish := fun_mk (st := s_Reader_finish) a2_Reader_finish a3_Reader_finish a4_Reader_finish
  have Fitems_of__X1 := fun_mk (st := s_items_of__X1) a2_items_of__X1 a3_items_of__X1 a4_items_of__X1
  have Flw_cell := fun_mk (st := s_lw_cell) a2_lw_cell a3_lw_cell a4_lw_cell
  have Flw_mix := fun_mk (st := s_lw_mix) a2_lw_mix a3_lw_mix a4_lw_mix
  have Flw_signs := fun_mk (st := s_lw_signs) a2_lw_signs a3_lw_signs a4_lw_signs
  have Flw_token := fun_mk (st := s_lw_token) a2_lw_token a3_lw_token a4_lw_token
  have Flw_item := fun_mk (st := s_lw_item) a2_lw_item a3_lw_item a4_lw_item
  have Flw_items := fun_mk (st := s_lw_items) a2_lw_items a3_lw_items a4_lw_items
  have Flw_whole := fun_mk (st := s_lw_whole) a2_lw_whole a3_lw_whole a4_lw_whole
  have Flw_same := fun_mk (st := s_lw_same) a2_lw_same a3_lw_same a4_lw_same
  have Flw_did := fun_mk (st := s_lw_did) a2_lw_did a3_lw_did a4_lw_did
  have Flw_refused := fun_mk (st := s_lw_refused) a2_lw_refused a3_lw_refused a4_lw_refused
  have Flw_by_hand := fun_mk (st := s_lw_by_hand) a2_lw_by_hand a3_lw_by_hand a4_lw_by_hand
  have Flw_spoilt := fun_mk (st := s_lw_spoilt) a2_lw_spoilt a3_lw_spoilt a4_lw_spoilt
  have Flaw := fun_mk (st := s_law) a2_law a3_law a4_law
  have FNoSign_init := fun_mk (st := s_NoSign_init) a2_NoSign_init a3_NoSign_init a4_NoSign_init
  have FNoHand_init := fun_mk (st := s_NoHand_init) a2_NoHand_init a3_NoHand_init a4_NoHand_init
  have FTwice_init := fun_mk (st := s_Twice_init) a2_Twice_init a3_Twice_init a4_Twice_init
  have FClosed_init := fun_mk (st := s_Closed_init) a2_Closed_init a3_Closed_init a4_Closed_init
  have FNoRoom_init := fun_mk (st := s_NoRoom_init) a2_NoRoom_init a3_NoRoom_init a4_NoRoom_init
  have FNoRoll_init := fun_mk (st := s_NoRoll_init) a2_NoRoll_init a3_NoRoll_init a4_NoRoll_init
  let T : Tx K mg w := {
    cl := fun i => if i = 11 then c_Reader else if i = 0 then c_OutError else if i = 1 then c_NoSign else if i = 2 then c_NoName else if i = 3 then c_NoHand else if i = 4 then c_Twice else if i = 5 then c_Closed else if i = 6 then c_NoSize else if i = 7 then c_NoRoom else if i = 8 then c_NoRoll else if i = 9 then c_NoCell else if i = 10 then c_NoRow else 0,
    a_is_sign := p_is_sign,
    d_is_sign := _,
    f_is_sign := Fis_sign,
    b_is_sign := Fis_sign.binds (ps := ["thing"]) fun _ _ _ _ _ _ us hl => match us, hl with | [_], _ => rfl,
    g_is_sign := PySem.W.mg_of X G a1_is_sign,
    a_is_colour := p_is_colour,
    d_is_colour := _,
    f_is_colour := Fis_colour,
    b_is_colour := Fis_colour.binds (ps := ["thing"]) fun _ _ _ _ _ _ us hl => match us, hl with | [_], _ => rfl,
    g_is_colour := PySem.W.mg_of X G a1_is_colour,
    a_checked__X1 := p_checked__X1,
    d_checked__X1 := _,
    f_checked__X1 := Fchecked__X1,
    b_checked__X1 := Fchecked__X1.binds (ps := ["text"]) fun _ _ _ _ _ _ us hl => match us, hl with | [_], _ => rfl,
    g_checked__X1 := PySem.W.mg_of X G a1_checked__X1,
    a_checked := p_checked,
    d_checked := _,
    f_checked := Fchecked,
    b_checked := Fchecked.binds (ps := ["text"]) fun _ _ _ _ _ _ us hl => match us, hl with | [_], _ => rfl,
    g_checked := PySem.W.mg_of X G a1_checked,
    a_sign_item := p_sign_item,
    d_sign_item := _,
    f_sign_item := Fsign_item,
    b_sign_item := Fsign_item.binds (ps := ["place", "sign"]) fun _ _ _ _ _ _ us hl => match us, hl with | [_, _], _ => rfl,
    g_sign_item := PySem.W.mg_of X G a1_sign_item,
    a_begins_mark := p_begins_mark,
    d_begins_mark := _,
    f_begins_mark := Fbegins_mark,
    b_begins_mark := Fbegins_mark.binds (ps := ["text"]) fun _ _ _ _ _ _ us hl => match us, hl with | [_], _ => rfl,
    g_begins_mark := PySem.W.mg_of X G a1_begins_mark,
    a_mark_item := p_mark_item,
    d_mark_item := _,
    f_mark_item := Fmark_item,
    b_mark_item := Fmark_item.binds (ps := ["place", "text"]) fun _ _ _ _ _ _ us hl => match us, hl with | [_, _], _ => rfl,
    g_mark_item := PySem.W.mg_of X G a1_mark_item,
    a_Reader_init := p_Reader_init,
    d_Reader_init := _,
    f_Reader_init := FReader_init,
    b_Reader_init := FReader_init.binds (ps := ["self"]) fun _ _ _ _ _ _ us hl => match us, hl with | [_], _ => rfl,
    a_Reader_held_text := p_Reader_held_text,
    d_Reader_held_text := _,
    f_Reader_held_text := FReader_held_text,
    b_Reader_held_text := FReader_held_text.binds (ps := ["self"]) fun _ _ _ _ _ _ us hl => match us, hl with | [_], _ => rfl,
    a_Reader_told := p_Reader_told,
    d_Reader_told := _,
    f_Reader_told := FReader_told,
    b_Reader_told := FReader_told.binds (ps := ["self", "many"]) fun _ _ _ _ _ _ us hl => match us, hl with | [_, _], _ => rfl,
    a_Reader_take := p_Reader_take,
    d_Reader_take := _,
    f_Reader_take := FReader_take,
    b_Reader_take := FReader_take.binds (ps := ["self", "sign"]) fun _ _ _ _ _ _ us hl => match us, hl with | [_, _], _ => rfl,
    a_Reader_feed__X1 := p_Reader_feed__X1,
    d_Reader_feed__X1 := _,
    f_Reader_feed__X1 := FReader_feed__X1,
    b_Reader_feed__X1 := FReader_feed__X1.binds (ps := ["self", "piece"]) fun _ _ _ _ _ _ us hl => match us, hl with | [_, _], _ => rfl,
    a_Reader_feed := p_Reader_feed,
    d_Reader_feed := _,
    f_Reader_feed := FReader_feed,
    b_Reader_feed := FReader_feed.binds (ps := ["self", "piece"]) fun _ _ _ _ _ _ us hl => match us, hl with | [_, _], _ => rfl,
    a_Reader_finish := p_Reader_finish,
    d_Reader_finish := _,
    f_Reader_finish := FReader_finish,
    b_Reader_finish := FReader_finish.binds (ps := ["self"]) fun _ _ _ _ _ _ us hl => match us, hl with | [_], _ => rfl,
    a_items_of__X1 := p_items_of__X1,
    d_items_of__X1 := _,
    f_items_of__X1 := Fitems_of__X1,
    b_items_of__X1 := Fitems_of__X1.binds (ps := ["text"]) fun _ _ _ _ _ _ us hl => match us, hl with | [_], _ => rfl,
    g_items_of__X1 := PySem.W.mg_of X G a1_items_of__X1,
    a_lw_cell := p_lw_cell,
    d_lw_cell := _,
    f_lw_cell := Flw_cell,
    b_lw_cell := Flw_cell.binds (ps := ["_law_script", "_law_k"]) fun _ _ _ _ _ _ us hl => match us, hl with | [_, _], _ => rfl,
    g_lw_cell := PySem.W.mg_of X G a1_lw_cell,
    a_lw_mix := p_lw_mix,
    d_lw_mix := _,
    f_lw_mix := Flw_mix,
    b_lw_mix := Flw_mix.binds (ps := ["_law_cell_here", "_law_k"]) fun _ _ _ _ _ _ us hl => match us, hl with | [_, _], _ => rfl,
    g_lw_mix := PySem.W.mg_of X G a1_lw_mix,
    a_lw_signs := p_lw_signs,
    d_lw_signs := _,
    f_lw_signs := Flw_signs,
    b_lw_signs := Flw_signs.binds (ps := []) fun _ _ _ _ _ _ us hl => match us, hl with | [], _ => rfl,
    g_lw_signs := PySem.W.mg_of X G a1_lw_signs,
    a_lw_token := p_lw_token,
    d_lw_token := _,
    f_lw_token := Flw_token,
    b_lw_token := Flw_token.binds (ps := ["_law_cell_here"]) fun _ _ _ _ _ _ us hl => match us, hl with | [_], _ => rfl,
    g_lw_token := PySem.W.mg_of X G a1_lw_token,
    a_lw_item := p_lw_item,
    d_lw_item := _,
    f_lw_item := Flw_item,
    b_lw_item := Flw_item.binds (ps := ["_law_text", "_law_at"]) fun _ _ _ _ _ _ us hl => match us, hl with | [_, _], _ => rfl,
    g_lw_item := PySem.W.mg_of X G a1_lw_item,
    a_lw_items := p_lw_items,
    d_lw_items := _,
    f_lw_items := Flw_items,
    b_lw_items := Flw_items.binds (ps := ["_law_text"]) fun _ _ _ _ _ _ us hl => match us, hl with | [_], _ => rfl,
    g_lw_items := PySem.W.mg_of X G a1_lw_items,
    a_lw_whole := p_lw_whole,
    d_lw_whole := _,
    f_lw_whole := Flw_whole,
    b_lw_whole := Flw_whole.binds (ps := ["_law_found"]) fun _ _ _ _ _ _ us hl => match us, hl with | [_], _ => rfl,
    g_lw_whole := PySem.W.mg_of X G a1_lw_whole,
    a_lw_same := p_lw_same,
    d_lw_same := _,
    f_lw_same := Flw_same,
    b_lw_same := Flw_same.binds (ps := ["_law_found", "_law_due"]) fun _ _ _ _ _ _ us hl => match us, hl with | [_, _], _ => rfl,
    g_lw_same := PySem.W.mg_of X G a1_lw_same,
    a_lw_did := p_lw_did,
    d_lw_did := _,
    f_lw_did := Flw_did,
    b_lw_did := Flw_did.binds (ps := ["_law_way", "_law_reader", "_law_thing"]) fun _ _ _ _ _ _ us hl => match us, hl with | [_, _, _], _ => rfl,
    g_lw_did := PySem.W.mg_of X G a1_lw_did,
    a_lw_refused := p_lw_refused,
    d_lw_refused := _,
    f_lw_refused := Flw_refused,
    b_lw_refused := Flw_refused.binds (ps := ["_law_way", "_law_reader", "_law_thing", "_law_at"]) fun _ _ _ _ _ _ us hl => match us, hl with | [_, _, _, _], _ => rfl,
    g_lw_refused := PySem.W.mg_of X G a1_lw_refused,
    a_lw_by_hand := p_lw_by_hand,
    d_lw_by_hand := _,
    f_lw_by_hand := Flw_by_hand,
    b_lw_by_hand := Flw_by_hand.binds (ps := ["_law_number"]) fun _ _ _ _ _ _ us hl => match us, hl with | [_], _ => rfl,
    g_lw_by_hand := PySem.W.mg_of X G a1_lw_by_hand,
    a_lw_spoilt := p_lw_spoilt,
    d_lw_spoilt := _,
    f_lw_spoilt := Flw_spoilt,
    b_lw_spoilt := Flw_spoilt.binds (ps := ["_law_text", "_law_cell_here"]) fun _ _ _ _ _ _ us hl => match us, hl with | [_, _], _ => rfl,
    g_lw_spoilt := PySem.W.mg_of X G a1_lw_spoilt,
    a_law := fa,
    d_law := _,
    f_law := Flaw,
    b_law := Flaw.binds (ps := ["_law_script"]) fun _ _ _ _ _ _ us hl => match us, hl with | [_], _ => rfl,
    g_law := PySem.W.mg_of X G a1_law,
    z_ValueError := PySem.W.mg_none_of X G z_ValueError,
    z_bool := PySem.W.mg_none_of X G z_bool,
    z_enumerate := PySem.W.mg_none_of X G z_enumerate,
    z_int := PySem.W.mg_none_of X G z_int,
    z_isinstance := PySem.W.mg_none_of X G z_isinstance,
    z_len := PySem.W.mg_none_of X G z_len,
    z_list := PySem.W.mg_none_of X G z_list,
    z_range := PySem.W.mg_none_of X G z_range,
    z_str := PySem.W.mg_none_of X G z_str,
    z_tuple := PySem.W.mg_none_of X G z_tuple,
    k_COLOURS := ⟨_, PySem.W.mg_of X G k_COLOURS, _, by rfl⟩,
    k_CONTROLS := ⟨_, PySem.W.mg_of X G k_CONTROLS, _, by rfl⟩,
    k_ENDS := ⟨_, _, _, PySem.W.mg_of X G k1_ENDS, k2_ENDS, k4_ENDS, k3_ENDS⟩,
    k_FIRST := ⟨_, PySem.W.mg_of X G k_FIRST, _, by rfl⟩,
    k_LAST := ⟨_, PySem.W.mg_of X G k_LAST, _, by rfl⟩,
    cls_Reader := ⟨pg_Reader, hd_Reader, po_Reader, sa_Reader⟩,
    gc_Reader := PySem.W.mg_of X G gc_Reader,
    na_Reader_kept := na_Reader_kept,
    na_Reader_place := na_Reader_place,
    me_Reader_told := ⟨a1_Reader_told, a5_Reader_told, a4_Reader_told⟩,
    me_Reader_take := ⟨a1_Reader_take, a5_Reader_take, a4_Reader_take⟩,
    mk_Reader := ⟨mi_Reader, a1_Reader_init, a5_Reader_init, kc_Reader⟩,
    me_Reader_feed__X1 := ⟨a1_Reader_feed__X1, a5_Reader_feed__X1, a4_Reader_feed__X1⟩,
    me_Reader_finish := ⟨a1_Reader_finish, a5_Reader_finish, a4_Reader_finish⟩,
    xm_OutError := fun n fs h => by
      simp only [xL_OutError, List.mem_cons, List.not_mem_nil, or_false, Prod.mk.injEq] at h
      rcases h with ⟨rfl, _⟩ | ⟨rfl, _⟩ | ⟨rfl, _⟩ | ⟨rfl, _⟩ | ⟨rfl, _⟩ | ⟨rfl, _⟩ | ⟨rfl, _⟩ | ⟨rfl, _⟩ | ⟨rfl, _⟩ | ⟨rfl, _⟩
      · exact PySem.W.exm_ref xm1_OutError xm2_OutError xm3_OutError xs_NoSign__OutError
      · exact PySem.W.exm_ref xm1_OutError xm2_OutError xm3_OutError xs_NoName__OutError
      · exact PySem.W.exm_ref xm1_OutError xm2_OutError xm3_OutError xs_NoHand__OutError
      · exact PySem.W.exm_ref xm1_OutError xm2_OutError xm3_OutError xs_Twice__OutError
      · exact PySem.W.exm_ref xm1_OutError xm2_OutError xm3_OutError xs_Closed__OutError
      · exact PySem.W.exm_ref xm1_OutError xm2_OutError xm3_OutError xs_NoSize__OutError
      · exact PySem.W.exm_ref xm1_OutError xm2_OutError xm3_OutError xs_NoRoom__OutError
      · exact PySem.W.exm_ref xm1_OutError xm2_OutError xm3_OutError xs_NoRoll__OutError
      · exact PySem.W.exm_ref xm1_OutError xm2_OutError xm3_OutError xs_NoCell__OutError
      · exact PySem.W.exm_ref xm1_OutError xm2_OutError xm3_OutError xs_NoRow__OutError,
    xp_NoRow := xp_NoRow,
    xq_NoRow := xq_NoRow,
    xb_NoRow := x4_NoRow,
    xt_NoRow := xt_NoRow,
    xp_NoCell := xp_NoCell,
    xq_NoCell := xq_NoCell,
    xb_NoCell := x4_NoCell,
    xt_NoCell := xt_NoCell,
    xp_NoSize := xp_NoSize,
    xq_NoSize := xq_NoSize,
    xb_NoSize := x4_NoSize,
    xt_NoSize := xt_NoSize,
    xp_NoName := xp_NoName,
    xq_NoName := xq_NoName,
    xb_NoName := x4_NoName,
    xt_NoName := xt_NoName,
    me_Reader_feed := ⟨a1_Reader_feed, a5_Reader_feed, a4_Reader_feed⟩,
    me_Reader_held_text := ⟨a1_Reader_held_text, a5_Reader_held_text, a4_Reader_held_text⟩,
    gc_OutError := PySem.W.mg_of X G gc_OutError,
    gc_NoSign := PySem.W.mg_of X G gc_NoSign,
    gc_NoName := PySem.W.mg_of X G gc_NoName,
    gc_NoHand := PySem.W.mg_of X G gc_NoHand,
    gc_Twice := PySem.W.mg_of X G gc_Twice,
    gc_Closed := PySem.W.mg_of X G gc_Closed,
    gc_NoSize := PySem.W.mg_of X G gc_NoSize,
    gc_NoRoom := PySem.W.mg_of X G gc_NoRoom,
    gc_NoRoll := PySem.W.mg_of X G gc_NoRoll,
    gc_NoCell := PySem.W.mg_of X G gc_NoCell,
    gc_NoRow := PySem.W.mg_of X G gc_NoRow,
    a_NoSign_init := p_NoSign_init,
    d_NoSign_init := _,
    f_NoSign_init := FNoSign_init,
    b_NoSign_init := FNoSign_init.binds (ps := ["self", "at"]) fun _ _ _ _ _ _ us hl => match us, hl with | [_, _], _ => rfl,
    xo_NoSign := ⟨⟨_, _, _, _, _, _, _, _, _, _, _, _, _, _, _, xl_NoSign, (show PySem.HandSPX.refsVE [.type "ValueError", .type "Exception", .type "BaseException", .type "object"] = true by decide +kernel)⟩, xw_NoSign, x4_NoSign, xt_NoSign, xq_NoSign⟩,
    xic_NoSign := a1_NoSign_init,
    xit_NoSign := a5_NoSign_init,
    xn_NoSign := xn_NoSign,
    a_NoHand_init := p_NoHand_init,
    d_NoHand_init := _,
    f_NoHand_init := FNoHand_init,
    b_NoHand_init := FNoHand_init.binds (ps := ["self", "name"]) fun _ _ _ _ _ _ us hl => match us, hl with | [_, _], _ => rfl,
    xo_NoHand := ⟨⟨_, _, _, _, _, _, _, _, _, _, _, _, _, _, _, xl_NoHand, (show PySem.HandSPX.refsVE [.type "ValueError", .type "Exception", .type "BaseException", .type "object"] = true by decide +kernel)⟩, xw_NoHand, x4_NoHand, xt_NoHand, xq_NoHand⟩,
    xic_NoHand := a1_NoHand_init,
    xit_NoHand := a5_NoHand_init,
    xn_NoHand := xn_NoHand,
    a_Twice_init := p_Twice_init,
    d_Twice_init := _,
    f_Twice_init := FTwice_init,
    b_Twice_init := FTwice_init.binds (ps := ["self", "name"]) fun _ _ _ _ _ _ us hl => match us, hl with | [_, _], _ => rfl,
    xo_Twice := ⟨⟨_, _, _, _, _, _, _, _, _, _, _, _, _, _, _, xl_Twice, (show PySem.HandSPX.refsVE [.type "ValueError", .type "Exception", .type "BaseException", .type "object"] = true by decide +kernel)⟩, xw_Twice, x4_Twice, xt_Twice, xq_Twice⟩,
    xic_Twice := a1_Twice_init,
    xit_Twice := a5_Twice_init,
    xn_Twice := xn_Twice,
    a_Closed_init := p_Closed_init,
    d_Closed_init := _,
    f_Closed_init := FClosed_init,
    b_Closed_init := FClosed_init.binds (ps := ["self", "name"]) fun _ _ _ _ _ _ us hl => match us, hl with | [_, _], _ => rfl,
    xo_Closed := ⟨⟨_, _, _, _, _, _, _, _, _, _, _, _, _, _, _, xl_Closed, (show PySem.HandSPX.refsVE [.type "ValueError", .type "Exception", .type "BaseException", .type "object"] = true by decide +kernel)⟩, xw_Closed, x4_Closed, xt_Closed, xq_Closed⟩,
    xic_Closed := a1_Closed_init,
    xit_Closed := a5_Closed_init,
    xn_Closed := xn_Closed,
    a_NoRoom_init := p_NoRoom_init,
    d_NoRoom_init := _,
    f_NoRoom_init := FNoRoom_init,
    b_NoRoom_init := FNoRoom_init.binds (ps := ["self", "at"]) fun _ _ _ _ _ _ us hl => match us, hl with | [_, _], _ => rfl,
    xo_NoRoom := ⟨⟨_, _, _, _, _, _, _, _, _, _, _, _, _, _, _, xl_NoRoom, (show PySem.HandSPX.refsVE [.type "ValueError", .type "Exception", .type "BaseException", .type "object"] = true by decide +kernel)⟩, xw_NoRoom, x4_NoRoom, xt_NoRoom, xq_NoRoom⟩,
    xic_NoRoom := a1_NoRoom_init,
    xit_NoRoom := a5_NoRoom_init,
    xn_NoRoom := xn_NoRoom,
    a_NoRoll_init := p_NoRoll_init,
    d_NoRoll_init := _,
    f_NoRoll_init := FNoRoll_init,
    b_NoRoll_init := FNoRoll_init.binds (ps := ["self", "at"]) fun _ _ _ _ _ _ us hl => match us, hl with | [_, _], _ => rfl,
    xo_NoRoll := ⟨⟨_, _, _, _, _, _, _, _, _, _, _, _, _, _, _, xl_NoRoll, (show PySem.HandSPX.refsVE [.type "ValueError", .type "Exception", .type "BaseException", .type "object"] = true by decide +kernel)⟩, xw_NoRoll, x4_NoRoll, xt_NoRoll, xq_NoRoll⟩,
    xic_NoRoll := a1_NoRoll_init,
    xit_NoRoll := a5_NoRoll_init,
    xn_NoRoll := xn_NoRoll,
    rd_OutError := rd_OutError,
    ga_OutError := ga_OutError,
    bi_OutError := bi_OutError,
    xf_at := fun n fs h => by
      simp only [xL, List.mem_cons, List.not_mem_nil, or_false, Prod.mk.injEq] at h
      rcases h with ⟨rfl, _⟩ | ⟨rfl, _⟩ | ⟨rfl, _⟩ | ⟨rfl, _⟩ | ⟨rfl, _⟩ | ⟨rfl, _⟩ | ⟨rfl, _⟩ | ⟨rfl, _⟩ | ⟨rfl, _⟩ | ⟨rfl, _⟩
      · exact xf_at__NoSign
      · exact xf_at__NoName
      · exact xf_at__NoHand
      · exact xf_at__Twice
      · exact xf_at__Closed
      · exact xf_at__NoSize
      · exact xf_at__NoRoom
      · exact xf_at__NoRoll
      · exact xf_at__NoCell
      · exact xf_at__NoRow,
    xc := fun n fs h => by
      simp only [xL, List.mem_cons, List.not_mem_nil, or_false, Prod.mk.injEq] at h
      rcases h with ⟨rfl, _⟩ | ⟨rfl, _⟩ | ⟨rfl, _⟩ | ⟨rfl, _⟩ | ⟨rfl, _⟩ | ⟨rfl, _⟩ | ⟨rfl, _⟩ | ⟨rfl, _⟩ | ⟨rfl, _⟩ | ⟨rfl, _⟩
      · exact ⟨x1_NoSign, x2_NoSign, x3_NoSign, x4_NoSign, x5_NoSign, x6_NoSign, x7_NoSign, x8_NoSign, x9_NoSign⟩
      · exact ⟨x1_NoName, x2_NoName, x3_NoName, x4_NoName, x5_NoName, x6_NoName, x7_NoName, x8_NoName, x9_NoName⟩
      · exact ⟨x1_NoHand, x2_NoHand, x3_NoHand, x4_NoHand, x5_NoHand, x6_NoHand, x7_NoHand, x8_NoHand, x9_NoHand⟩
      · exact ⟨x1_Twice, x2_Twice, x3_Twice, x4_Twice, x5_Twice, x6_Twice, x7_Twice, x8_Twice, x9_Twice⟩
      · exact ⟨x1_Closed, x2_Closed, x3_Closed, x4_Closed, x5_Closed, x6_Closed, x7_Closed, x8_Closed, x9_Closed⟩
      · exact ⟨x1_NoSize, x2_NoSize, x3_NoSize, x4_NoSize, x5_NoSize, x6_NoSize, x7_NoSize, x8_NoSize, x9_NoSize⟩
      · exact ⟨x1_NoRoom, x2_NoRoom, x3_NoRoom, x4_NoRoom, x5_NoRoom, x6_NoRoom, x7_NoRoom, x8_NoRoom, x9_NoRoom⟩
      · exact ⟨x1_NoRoll, x2_NoRoll, x3_NoRoll, x4_NoRoll, x5_NoRoll, x6_NoRoll, x7_NoRoll, x8_NoRoll, x9_NoRoll⟩
      · exact ⟨x1_NoCell, x2_NoCell, x3_NoCell, x4_NoCell, x5_NoCell, x6_NoCell, x7_NoCell, x8_NoCell, x9_NoCell⟩
      · exact ⟨x1_NoRow, x2_NoRow, x3_NoRow, x4_NoRow, x5_NoRow, x6_NoRow, x7_NoRow, x8_NoRow, x9_NoRow⟩,
    xv := fun n fs h => by
      simp only [xL, List.mem_cons, List.not_mem_nil, or_false, Prod.mk.injEq] at h
      rcases h with ⟨rfl, _⟩ | ⟨rfl, _⟩ | ⟨rfl, _⟩ | ⟨rfl, _⟩ | ⟨rfl, _⟩ | ⟨rfl, _⟩ | ⟨rfl, _⟩ | ⟨rfl, _⟩ | ⟨rfl, _⟩ | ⟨rfl, _⟩
      · exact ik_v_NoSign
      · exact ik_v_NoName
      · exact ik_v_NoHand
      · exact ik_v_Twice
      · exact ik_v_Closed
      · exact ik_v_NoSize
      · exact ik_v_NoRoom
      · exact ik_v_NoRoll
      · exact ik_v_NoCell
      · exact ik_v_NoRow,
    xk := fun n fs k h hk => by
      simp only [xL, List.mem_cons, List.not_mem_nil, or_false, Prod.mk.injEq] at h
      simp only [kL, List.mem_cons, List.not_mem_nil, or_false] at hk
      rcases h with ⟨rfl, _⟩ | ⟨rfl, _⟩ | ⟨rfl, _⟩ | ⟨rfl, _⟩ | ⟨rfl, _⟩ | ⟨rfl, _⟩ | ⟨rfl, _⟩ | ⟨rfl, _⟩ | ⟨rfl, _⟩ | ⟨rfl, _⟩
      · rcases hk with rfl | rfl | rfl | rfl | rfl | rfl | rfl | rfl | rfl | rfl | rfl
        · exact ik_NoSign__OutError
        · exact ik_NoSign__NoSign
        · exact ik_NoSign__NoName
        · exact ik_NoSign__NoHand
        · exact ik_NoSign__Twice
        · exact ik_NoSign__Closed
        · exact ik_NoSign__NoSize
        · exact ik_NoSign__NoRoom
        · exact ik_NoSign__NoRoll
        · exact ik_NoSign__NoCell
        · exact ik_NoSign__NoRow
      · rcases hk with rfl | rfl | rfl | rfl | rfl | rfl | rfl | rfl | rfl | rfl | rfl
        · exact ik_NoName__OutError
        · exact ik_NoName__NoSign
        · exact ik_NoName__NoName
        · exact ik_NoName__NoHand
        · exact ik_NoName__Twice
        · exact ik_NoName__Closed
        · exact ik_NoName__NoSize
        · exact ik_NoName__NoRoom
        · exact ik_NoName__NoRoll
        · exact ik_NoName__NoCell
        · exact ik_NoName__NoRow
      · rcases hk with rfl | rfl | rfl | rfl | rfl | rfl | rfl | rfl | rfl | rfl | rfl
        · exact ik_NoHand__OutError
        · exact ik_NoHand__NoSign
        · exact ik_NoHand__NoName
        · exact ik_NoHand__NoHand
        · exact ik_NoHand__Twice
        · exact ik_NoHand__Closed
        · exact ik_NoHand__NoSize
        · exact ik_NoHand__NoRoom
        · exact ik_NoHand__NoRoll
        · exact ik_NoHand__NoCell
        · exact ik_NoHand__NoRow
      · rcases hk with rfl | rfl | rfl | rfl | rfl | rfl | rfl | rfl | rfl | rfl | rfl
        · exact ik_Twice__OutError
        · exact ik_Twice__NoSign
        · exact ik_Twice__NoName
        · exact ik_Twice__NoHand
        · exact ik_Twice__Twice
        · exact ik_Twice__Closed
        · exact ik_Twice__NoSize
        · exact ik_Twice__NoRoom
        · exact ik_Twice__NoRoll
        · exact ik_Twice__NoCell
        · exact ik_Twice__NoRow
      · rcases hk with rfl | rfl | rfl | rfl | rfl | rfl | rfl | rfl | rfl | rfl | rfl
        · exact ik_Closed__OutError
        · exact ik_Closed__NoSign
        · exact ik_Closed__NoName
        · exact ik_Closed__NoHand
        · exact ik_Closed__Twice
        · exact ik_Closed__Closed
        · exact ik_Closed__NoSize
        · exact ik_Closed__NoRoom
        · exact ik_Closed__NoRoll
        · exact ik_Closed__NoCell
        · exact ik_Closed__NoRow
      · rcases hk with rfl | rfl | rfl | rfl | rfl | rfl | rfl | rfl | rfl | rfl | rfl
        · exact ik_NoSize__OutError
        · exact ik_NoSize__NoSign
        · exact ik_NoSize__NoName
        · exact ik_NoSize__NoHand
        · exact ik_NoSize__Twice
        · exact ik_NoSize__Closed
        · exact ik_NoSize__NoSize
        · exact ik_NoSize__NoRoom
        · exact ik_NoSize__NoRoll
        · exact ik_NoSize__NoCell
        · exact ik_NoSize__NoRow
      · rcases hk with rfl | rfl | rfl | rfl | rfl | rfl | rfl | rfl | rfl | rfl | rfl
        · exact ik_NoRoom__OutError
        · exact ik_NoRoom__NoSign
        · exact ik_NoRoom__NoName
        · exact ik_NoRoom__NoHand
        · exact ik_NoRoom__Twice
        · exact ik_NoRoom__Closed
        · exact ik_NoRoom__NoSize
        · exact ik_NoRoom__NoRoom
        · exact ik_NoRoom__NoRoll
        · exact ik_NoRoom__NoCell
        · exact ik_NoRoom__NoRow
      · rcases hk with rfl | rfl | rfl | rfl | rfl | rfl | rfl | rfl | rfl | rfl | rfl
        · exact ik_NoRoll__OutError
        · exact ik_NoRoll__NoSign
        · exact ik_NoRoll__NoName
        · exact ik_NoRoll__NoHand
        · exact ik_NoRoll__Twice
        · exact ik_NoRoll__Closed
        · exact ik_NoRoll__NoSize
        · exact ik_NoRoll__NoRoom
        · exact ik_NoRoll__NoRoll
        · exact ik_NoRoll__NoCell
        · exact ik_NoRoll__NoRow
      · rcases hk with rfl | rfl | rfl | rfl | rfl | rfl | rfl | rfl | rfl | rfl | rfl
        · exact ik_NoCell__OutError
        · exact ik_NoCell__NoSign
        · exact ik_NoCell__NoName
        · exact ik_NoCell__NoHand
        · exact ik_NoCell__Twice
        · exact ik_NoCell__Closed
        · exact ik_NoCell__NoSize
        · exact ik_NoCell__NoRoom
        · exact ik_NoCell__NoRoll
        · exact ik_NoCell__NoCell
        · exact ik_NoCell__NoRow
      · rcases hk with rfl | rfl | rfl | rfl | rfl | rfl | rfl | rfl | rfl | rfl | rfl
        · exact ik_NoRow__OutError
        · exact ik_NoRow__NoSign
        · exact ik_NoRow__NoName
        · exact ik_NoRow__NoHand
        · exact ik_NoRow__Twice
        · exact ik_NoRow__Closed
        · exact ik_NoRow__NoSize
        · exact ik_NoRow__NoRoom
        · exact ik_NoRow__NoRoll
        · exact ik_NoRow__NoCell
        · exact ik_NoRow__NoRow }
  exact ⟨PySem.W.fnOf "law" "law" (defArgs s_law) (defBody s_law) (defScope s_law) .none kV_law dc_law pm_law an_law cd_law ct_law, fun s v => .of_eq rfl, fun base _ _ => law_ok (ok_law T) LT⟩
end LW
namespace PySem.W.Fast
def tw11806570718758562505:=0
def tw3151670492251508795:=0
def tw11411787804810201608:=0
def tw4936834530124307901:=0
def tw5947339844550641269:=0
def tw3853188260194859150:=0
def tw4623189060074933305:=0
def tw4419209110438151146:=0
def tw10110039251868507191:=0
def tw12618780867417578780:=0
def tw8227754845278017988:=0
def tw11957746842047024268:=0
def tw1066308179969855277:=0
def tw1211853564833997456:=0
def tw10685356756525984197:=0
def tw11590856091513155699:=0
def tw13609804737000981716:=0
def tw8363758524505491913:=0
def tw15994488035625971245:=0
def tw2052432321845282836:=0
def tw6732323960101753025:=0
def tw12877261862126882576:=0
def tw14256314947773745021:=0
def tw4873799722260088415:=0
def tw3364542831237102986:=0
def tw15592188132268417939:=0
def tw14349287904336595067:=0
def tw7180904226061652747:=0
def tw16097416318866521329:=0
def tw1460517533005790805:=0
def tw2803620044406006176:=0
def tw12153573764656098565:=0
def tw1320054295248493531:=0
def tw11372253321804541402:=0
def tw9944287453639318612:=0
def tw6225249931108213298:=0
def tw3855190674027286020:=0
def tw13152574476949535731:=0
def tw10242045256602040403:=0
def tw3219800991065047960:=0
def tw1528087165059481661:=0
def tw11831814928711790059:=0
def tw14197939515932387429:=0
def tw14906294181230075926:=0
def tw456807605403045739:=0
def tw269820366827840834:=0
def tw10426778758078902342:=0
def tw12064056516328625481:=0
def tw17522092362153659015:=0
def tw11923207358597477457:=0
def tw1369701239983285837:=0
def tw3174181356807335355:=0
def tw11184976674102107734:=0
def tw2883640898779781142:=0
def tw8708720896846496583:=0
def tw17266476116392672270:=0
def tw9662838191726465007:=0
def tw4520501767989467175:=0
def tw17966097767545441048:=0
def tw8817250440276137037:=0
def tw17900654443264594600:=0
def tw2725841379037635292:=0
def tw10662466239010309574:=0
def tw17444057584402999305:=0
def tw3199357934242270707:=0
def tw3379298710410076184:=0
def tw2439077012320136585:=0
def tw1739379373121292896:=0
def tw12494538755637211125:=0
def tw9916878121966845106:=0
def tw16940345870140577189:=0
def tw13384805487537077081:=0
def tw12438107581411411939:=0
def tw14515496077071779602:=0
def tw2972817831803678208:=0
def tw11764645735624880193:=0
def tw8154333824008879237:=0
def tw9502386960032474182:=0
def tw9005290496449119427:=0
def tw4454720599690036533:=0
def tw8695370052123794651:=0
def tw1578814649467196108:=0
def tw4266088363471252990:=0
def tw2511346656800760333:=0
def tw16092207132499169651:=0
def tw84485619392473565:=0
def tw12279140977839303507:=0
def tw15937006400902802366:=0
def tw2108788275632339913:=0
def tw10015658312447823528:=0
def tw9383131723606237807:=0
def tw18069694993490359871:=0
def tw13131715577726617191:=0
def tw14592872974416145558:=0
def tw6718623896764946584:=0
def tw12822875531207280288:=0
def tw5349713200926848795:=0
def tw9822667843717257935:=0
def tw3177646260605791493:=0
def tw10576065431747626743:=0
def tw6458024715787400305:=0
def tw7229689465891888544:=0
def tw2514081508524138660:=0
def tw283565932115001301:=0
def tw763769021482397526:=0
def tw3219864213650102015:=0
def tw9790144217219024003:=0
def tw3716371861109666774:=0
def tw13477484315230897403:=0
def tw6620248076073164450:=0
def tw15861217961442144945:=0
def tw3456624224907012760:=0
def tw2638581817155028329:=0
def tw18242042870393824240:=0
def tw2838791029539111580:=0
def tw12214278591903079168:=0
def tw3972739300770381008:=0
def tw6250322143149098017:=0
def tw2600386205836900583:=0
def tw13413588784312232690:=0
def tw14278964043684076069:=0
def tw11632670644183774277:=0
def tw10727478194257528803:=0
def tw13330784022191256891:=0
def tw16319944231156642218:=0
def tw11791919693143352684:=0
def tw13157409923673743405:=0
def tw12291764217118238738:=0
def tw16767945027813803478:=0
def tw15440190088406826647:=0
def tw14869121106963753537:=0
def tw9556240391868058430:=0
def tw16338769103773698788:=0
def tw10159624470923232567:=0
def tw9536168502521564218:=0
def tw2697383510860458961:=0
def tw4643676553779495924:=0
def tw8212210850052573391:=0
def tw9434067887327919461:=0
def tw9856364521336066201:=0
def tw15064911860896236808:=0
def tw2451823983661396768:=0
def tw17889560474288908504:=0
def tw12629993283040082670:=0
def tw4654484774465992746:=0
def tw743114476748530463:=0
def tw2763328249497889657:=0
def tw3627091089144818979:=0
def tw8730676583530000875:=0
def tw14563369109563220366:=0
def tw11633350301958811865:=0
def tw14997920234267978438:=0
def tw17653053652981633526:=0
def tw295903529520391960:=0
def tw16530889327438063431:=0
def tw3498317058611842575:=0
def tw11716406876143219134:=0
def tw13136709000552690357:=0
def tw12104062386412993330:=0
def tw6145798207397303652:=0
def tw12940077562962310191:=0
def tw8101735813176377899:=0
def tw1436754045943747244:=0
def tw2757097381257168058:=0
def tw7676797297270442022:=0
def tw2436580887334436725:=0
def tw15794223851976764158:=0
def tw9792753067471873669:=0
def tw15699823807971895579:=0
def tw10915777182438227418:=0
def tw17919103046188765429:=0
def tw15473696057743758076:=0
def tw11500994711698990671:=0
def tw5727811732502938983:=0
def tw7997938500222699459:=0
def tw1545859395758039294:=0
def tw5593494935629995633:=0
def tw11510413660987538797:=0
def tw2927112018322716443:=0
def tw13607287381175961655:=0
def tw1130528348129509939:=0
def tw372019807037886659:=0
def tw9929056068383787647:=0
def tw10978668320598243048:=0
def tw10834674250673074324:=0
def tw3347785526494967645:=0
def tw1774822488349168070:=0
def tw4906982298720410655:=0
def tw1802458386578192299:=0
def tw2456270838658928538:=0
def tw10783050302573307741:=0
def tw5868389910518277854:=0
def tw15605006303787348791:=0
def tw4882832134406764593:=0
def tw17687923176453856306:=0
def tw17275864509611025883:=0
def tw5267791051570038879:=0
def tw8202666961511756902:=0
def tw9361222087824809836:=0
def tw8869289463779628003:=0
def tw3981139237966550145:=0
def tw359487917100245161:=0
def tw18232106581385926625:=0
def tw8313310534120921217:=0
def tw74492434592951242:=0
def tw8343915115338292760:=0
def tw4608595983995966190:=0
def tw3911586552798761881:=0
def tw3233226945867937283:=0
def tw10843838651492046848:=0
def tw15588872557992778866:=0
def tw8535034808210960890:=0
def tw15374403036799836355:=0
def tw16214909739881404272:=0
def tw10548942636242710776:=0
def tw8557915322854581160:=0
def tw239824031368315727:=0
def tw18187345906735909234:=0
def tw6808808523727199738:=0
def tw12804494281253690776:=0
def tw12014174908191154988:=0
def tw14083992329815354886:=0
def tw3333328007201187265:=0
def tw11732502006855103862:=0
def tw5086970953593633765:=0
def tw4910903852594101605:=0
def tw7446085748371581025:=0
def tw4638123311482006134:=0
def tw3744202624098047120:=0
def tw2547377925220439420:=0
def tw10856372045920029674:=0
def tw15557733418321468606:=0
def tw15480294903535588649:=0
def tw4238609071739433715:=0
def tw11313059528114861267:=0
def tw17343631087777226573:=0
def tw2197783329206905323:=0
def tw15900209884603956583:=0
def tw13633344837754928420:=0
def tw2254689294960259083:=0
def tw1616733107543456458:=0
def tw18097013452063043602:=0
def tw9872367876769714814:=0
def tw8783296700665795467:=0
def tw2097075963843248298:=0
def tw8819811192113489642:=0
def tw16505795827047077998:=0
def tw14717750079639110466:=0
def tw559238820828616140:=0
def tw10516583821075399002:=0
def tw17431566949030122920:=0
def tw16055509659611514359:=0
def tw2072365221473843269:=0
def tw16594721952475851865:=0
def tw9102367674584441226:=0
def tw4811844499233486966:=0
def tw11857021057287763550:=0
def tw1338681610128853895:=0
def tw14396474226370556876:=0
def tw15791022259196265034:=0
def tw15493492143825307826:=0
def tw15860866950552843923:=0
def tw12534668450190393120:=0
def tw2799514209077579664:=0
def tw6224757612390292387:=0
def tw14773339057724936674:=0
def tw6161242193303531600:=0
def tw11915504898020946403:=0
def tw590552502870671812:=0
def tw9713910981228970920:=0
def tw4070567372800494719:=0
def tw8282580942483241721:=0
def tw12727423324737355003:=0
def tw9557329637352917843:=0
def tw13384033372433060710:=0
def tw4321473031097219028:=0
def tw4106890256249017334:=0
def tw6319398121521704645:=0
def tw7226926068388053877:=0
def tw9252629093522584731:=0
def tw11864386108912278453:=0
def tw4836245897945386228:=0
def tw3792346115836766384:=0
def tw17619221609629455646:=0
def tw2124472934480632525:=0
def tw10925965229467912469:=0
def tw7478775657947668348:=0
def tw6175132506237097059:=0
def tw14949139916252455223:=0
def tw15485574411869216025:=0
def tw8697409789980400389:=0
def tw7208483298732782394:=0
def tw3103154355084551170:=0
def tw15325450425809545687:=0
def tw12339960781312072466:=0
def tw6142060097294043904:=0
def tw9855013584429185877:=0
def tw2109908102459707969:=0
def tw16915476310882015928:=0
def tw17650291554430068992:=0
def tw8849059355753297997:=0
def tw8985778740948293796:=0
def tw11778048524690853907:=0
def tw12296576622941784393:=0
def tw13179236654189382584:=0
def tw2808235122527939942:=0
def tw1207475370853330981:=0
def tw11817193929179478105:=0
def tw14408307103919927758:=0
def tw6171675739721325600:=0
def tw9281815171940369851:=0
def tw18165656941610078683:=0
def tw9528092118317509141:=0
def tw11104578996328644214:=0
def tw15038245604193222627:=0
def tw4650836248261791423:=0
def tw5518436291737976709:=0
def tw16200256795549541027:=0
def tw15818344190602828624:=0
def tw4610770629707493282:=0
def tw11178057082696507842:=0
def tw2357911257609804509:=0
def tw13222062885003930608:=0
def tw13931997496582081708:=0
def tw7891265173369255877:=0
def tw6998761754462256555:=0
def tw11943530963990313099:=0
def tw8619201939830388009:=0
def tw10693058029907657979:=0
def tw17543043352728306974:=0
def tw1738714664151560793:=0
def tw5954992765503827812:=0
def tw4214596010947192016:=0
def tw4333064589434886396:=0
def tw13028546004250050614:=0
def tw10296660738840175781:=0
def tw15378872483135642826:=0
def tw2993368594438436706:=0
def tw15953898644435058719:=0
def tw7691647070283111673:=0
def tw8952359330764096113:=0
def tw12145824253150482310:=0
def tw5272705670162465780:=0
def tw8487565903135038589:=0
def tw8847493745324605358:=0
def tw1273508855075129390:=0
def tw7732523793256490761:=0
def tw9882223098450427902:=0
def tw6596674293164266436:=0
def tw14341632611027594677:=0
def tw15826438329194676954:=0
def tw10188187101015303449:=0
def tw10419640268904243345:=0
def tw2272735340887798129:=0
def tw5190699520571113213:=0
def tw13378844995304162818:=0
def tw3409372740604196364:=0
def tw3257720558092811736:=0
def tw4611239932293714869:=0
def tw10256161135564517649:=0
def tw9558790826098135197:=0
def tw17554079149095975357:=0
def tw4544051082449165276:=0
def tw5873975709593140152:=0
def tw14638246199073138924:=0
def tw16800198684967217646:=0
def tw16942482013484842256:=0
def tw12720688575816526093:=0
def tw3286051430727842106:=0
def tw5557267451892038575:=0
def tw16701238910573871034:=0
def tw18379278498797118075:=0
def tw14963757930909258444:=0
def tw17702315331041888864:=0
def tw8514916112576377670:=0
def tw1801842269376025637:=0
def tw5000884797949367216:=0
def tw8681436059966806957:=0
def tw12860491462990616622:=0
def tw3122721736220431517:=0
def tw3942701845962070468:=0
def tw7123513738501439805:=0
def tw8400815064259333406:=0
def tw7008754223555392903:=0
def tw10453062473858587768:=0
def tw9732547761130620821:=0
def tw5022755504613442738:=0
def tw16102666534012592220:=0
def tw1797150391302989560:=0
def tw17566324192543381868:=0
def tw5376799600500482636:=0
def tw12423216799501809581:=0
def tw17987040923360067775:=0
def tw17067998397085475378:=0
def tw1275038037556196365:=0
def tw8511613311509787550:=0
def tw13141344560324919991:=0
def tw5684287740032226074:=0
def tw8070579091312631452:=0
def tw5916646368524960036:=0
def tw7509428484771559834:=0
def tw7950545706120875212:=0
def tw13380454084451263653:=0
def tw12669150502178233237:=0
def tw4854450748465367048:=0
def tw9735285051834678583:=0
def tw11833182420966904214:=0
def tw7371507721933007805:=0
def tw13207796849257534768:=0
def tw10766629728641855954:=0
def tw3870434062803710085:=0
def tw1586666270596043319:=0
def tw17574276129133889499:=0
def tw17779086210549176819:=0
def tw5547030523776016118:=0
def tw3394635079820781126:=0
def tw7927295523847322345:=0
def tw3066001278249386455:=0
def tw8882122732916767349:=0
def tw10438004380927814191:=0
def tw18209823804445275007:=0
def tw16544993783884061710:=0
def tw12345134346071997643:=0
def tw9344354452051768292:=0
def tw12385576682115027794:=0
def tw13266074913014129651:=0
def tw3482878713115954305:=0
def tw15878018022178152280:=0
def tw16620874728566516226:=0
def tw155808659232840213:=0
def tw6730321835645726331:=0
def tw4761543465353269080:=0
def tw13098604450478008831:=0
def tw10891271022061469356:=0
def tw17058762142103768480:=0
def tw1749914295539756566:=0
def tw12012867291257816059:=0
def tw15769492666015351068:=0
def tw4050321760986845325:=0
def tw2373672203975645021:=0
def tw10119755896589707735:=0
def tw8662185365032384941:=0
def tw1686546522198486887:=0
def tw10839908125834816471:=0
def tw6914211094653985048:=0
def tw13196186040809946229:=0
def tw12378322639443897725:=0
def tw14236277561125986211:=0
def tw1154144204993917106:=0
def tw690148457071625222:=0
def tw9532343952704687055:=0
def tw12817037240069663014:=0
def tw2348359069923028870:=0
def tw3737342534341206316:=0
def tw17451670951805196102:=0
def tw17300057116414020160:=0
def tw12632524306023267376:=0
def tw2324981222637009033:=0
def tw2717917745067434075:=0
def tw14998884180407719300:=0
def tw359858991187557826:=0
def tw15375700951564222727:=0
def tw9530178861667531373:=0
def tw6773050801898187491:=0
def tw4833681909487769940:=0
def tw9992852366888023951:=0
def tw13855647502927197793:=0
def tw18270373824432637208:=0
def tw16829485569874038152:=0
def tw9222026094556892300:=0
def tw17388117530433734677:=0
def tw11292115460742071380:=0
def tw15165360888496168969:=0
def tw8280696949138548681:=0
def tw4282227721144318955:=0
def tw14044039799526389472:=0
def tw8122122909946403702:=0
def tw9952985135843968614:=0
def tw17325162137407314689:=0
def tw18210920562662968775:=0
def tw4404026770462256153:=0
def tw8048381263077777686:=0
def tw13647828599041136203:=0
def tw1745498326083025634:=0
def tw11759616398253263737:=0
def tw14882249014986478725:=0
def tw16348375239881628007:=0
def tw17629626974454940168:=0
def tw5065466964103816849:=0
def tw5477065181078391799:=0
def tw17787806401434470284:=0
def tw8248780668546062237:=0
def tw10938915856305060697:=0
def tw460174873715726821:=0
def tw1136549666421036916:=0
def tw17731541151531148620:=0
def tw6995248815163750535:=0
def tw16758794089161102914:=0
def tw15887492786932745220:=0
def tw13709464454417010333:=0
def tw4329603610430789803:=0
def tw11026877703034362229:=0
def tw10214254698324277825:=0
def tw10465672626279164952:=0
def tw10239046994878203081:=0
def tw9756005330707887712:=0
def tw2678723769022251190:=0
def tw10434462437116863583:=0
def tw17180065478374997244:=0
def tw13178039929435342157:=0
def tw5654583159247286598:=0
def tw17536634644654393735:=0
def tw7205828532195661712:=0
def tw1776773714366386135:=0
def tw3144813629685098808:=0
def tw2215605210260076544:=0
def tw17873774498405605824:=0
def tw14223072365243123490:=0
def tw16767403071656911940:=0
def tw10593976352532936695:=0
def tw5036816631532636812:=0
def tw18360011405782765367:=0
def tw438562854183214356:=0
def tw4908320746310543754:=0
def tw4268394402162420615:=0
def tw924765120110481877:=0
def tw12317059011906148543:=0
def tw13812635005744200077:=0
def tw14946843273394120486:=0
def tw11631831824152273989:=0
def tw806020861561352027:=0
def tw9044823276902598492:=0
def tw5982299010180752394:=0
def tw10788206063169768149:=0
def tw9149094491763605194:=0
def tw4205606911479148191:=0
def tw5523176856514441508:=0
def tw10032459938648115662:=0
def tw11109750379796521623:=0
def tw17597714576628580272:=0
def tw11972596852402990414:=0
def tw8633741358448423189:=0
def tw558692691971897749:=0
def tw5330996649880335731:=0
def tw670236757619994576:=0
def tw4543253760916391572:=0
def tw5671138287022807092:=0
def tw17884667227162934061:=0
def tw18034487158020660972:=0
def tw2094628870834153764:=0
def tw12096554307929357373:=0
def tw2731263079397739857:=0
def tw13675552147120204122:=0
def tw16107718192193480246:=0
def tw6654903237484952495:=0
def tw11786124324754472549:=0
def tw4663837518622141750:=0
def tw13414127605956026593:=0
def tw16029819207998804090:=0
def tw2379047739998944610:=0
def tw2884082496602073148:=0
def tw15228360180251097251:=0
def tw12513693567325572685:=0
def tw8085023347810207666:=0
def tw4003223824119440406:=0
def tw12992774002282276711:=0
def tw5300936939122527193:=0
def tw14419287034090620188:=0
def tw7218634664926570962:=0
def tw10679838730994164126:=0
def tw8804245304341154039:=0
def tw9194659820972636607:=0
def tw13038149162869841134:=0
def tw8942845817384757160:=0
def tw15977156608868646047:=0
def tw2415765595398812233:=0
def tw12593984675392842650:=0
def tw11666390529701624691:=0
def tw12434702567469432954:=0
def tw11993621964112912743:=0
def tw10821393006803556046:=0
def tw2693273693008638902:=0
def tw8012840113917553699:=0
def tw8117465701122004386:=0
def tw4821423502440081829:=0
def tw1539476772597977662:=0
def tw10490206619524544850:=0
def tw2682439824599713155:=0
def tw4467486471534827821:=0
def tw13039221646903281629:=0
def tw7701722157525591707:=0
def tw14318389078434766126:=0
def tw6492388791040068930:=0
def tw8623422878198437841:=0
def tw11116122245296860605:=0
def tw17316540543586401311:=0
def tw3707744804956666652:=0
def tw271965963402492568:=0
def tw2652971937131238768:=0
def tw8473314316890395930:=0
def tw11100954321734954211:=0
def tw16033060164055717675:=0
def tw6390378932137881613:=0
def tw4560519009209587307:=0
def tw11305306750806293255:=0
def tw18240631924652048641:=0
def tw15869260325922639816:=0
def tw7002322403397314991:=0
def tw14083633783065495461:=0
def tw7551637542061350502:=0
def tw15182806084516731101:=0
def tw12316125392663095080:=0
def tw294302792663688474:=0
def tw15860956807242247508:=0
def tw4016964498708760720:=0
def tw96242121556040953:=0
def tw5876387565191000824:=0
def tw589078909539631870:=0
def tw10200565595803771923:=0
def tw3909661895986313674:=0
def tw10807218126293901918:=0
def tw10288085616879653985:=0
def tw15684419797997723863:=0
def tw17374118848388478860:=0
def tw13623794942511929484:=0
def tw7414126152928059418:=0
def tw8244414913609457067:=0
def tw16273830958042549162:=0
def tw13884156961494100926:=0
def tw15977411124888909711:=0
def tw18090513213652804165:=0
def tw4863899533728328162:=0
def tw5057493014917848362:=0
def tw10699775304495284968:=0
def tw13941754897683799272:=0
def tw4091756707196655002:=0
def tw9706579089832473688:=0
def tw3354718367571411857:=0
def tw16484254334130310070:=0
def tw11854005185117623693:=0
def tw13021296114165654665:=0
def tw3542910895750037165:=0
def tw7264323010674235462:=0
def tw13329516175537140953:=0
def tw13633594799177125634:=0
def tw5162620476274534017:=0
def tw888345860128415607:=0
def tw635004370194205526:=0
def tw8875650978315121356:=0
def tw18359153121560492103:=0
def tw3419163896238206122:=0
def tw9116564876828823142:=0
def tw11056875578740572154:=0
def tw10025023945464514761:=0
def tw12902152700116255299:=0
def tw76266099334505510:=0
def tw2259371415957278623:=0
def tw4295283321154234325:=0
def tw765635843580254555:=0
def tw14021522600287427386:=0
def tw14568754646706134610:=0
def tw8805307434589246996:=0
def tw10704261841621725799:=0
def tw12451159358871411446:=0
def tw9030085574838765585:=0
def tw10322833508700456090:=0
def tw13660675877712539057:=0
def tw1575746214269849902:=0
def tw4399543267022965519:=0
def tw8154915830881743969:=0
def tw13836606849405891868:=0
def tw17716914794518672585:=0
def tw8320264086116933676:=0
def tw8447872571354470528:=0
def tw7346981922520837108:=0
def tw7928654301127543061:=0
def tw8362658240728474786:=0
def tw15460669435009918432:=0
def tw4646548018916593793:=0
def tw15387779057613164420:=0
def tw3851080458029477714:=0
def tw5622625798130009841:=0
def tw3478075660789788235:=0
def tw6361692884435979596:=0
def tw9486063411696928089:=0
def tw5393853944730861391:=0
def tw7978080778028403374:=0
def tw9465319647472106178:=0
def tw12379117197522558739:=0
def tw5053991766429775602:=0
def tw17981339941927444896:=0
def tw2464758207258376541:=0
def tw14156989754892410430:=0
def tw10409040820701677187:=0
def tw17093036396456848893:=0
def tw9079752746730696702:=0
def tw16375478036569739876:=0
def tw14223663762444342068:=0
def tw14490263475885868810:=0
def tw9573186822564029809:=0
def tw8456957673573752981:=0
def tw17783562011702080712:=0
def tw1101383321450324961:=0
def tw7698340693331433153:=0
def tw10069500466180995149:=0
def tw5365127905664639847:=0
def tw15440458176463601357:=0
def tw17998978021794582183:=0
def tw14784653434970784829:=0
def tw16755141904993927256:=0
def tw7390340602193645789:=0
def tw1061503831696290838:=0
def tw17680142307228337765:=0
def tw9949604225274912884:=0
def tw9315443545723793555:=0
def tw1909226204471690082:=0
def tw2635343747380121253:=0
def tw12056571400104034877:=0
def tw1949347012965932000:=0
def tw4840836797823969003:=0
def tw14130983760525836090:=0
def tw3182799782369916786:=0
def tw13227671754716604909:=0
def tw8388392556724997452:=0
def tw8783612963959586306:=0
def tw11790271015946462083:=0
def tw4472509615421748881:=0
def tw12344561403991112029:=0
def tw16604736310047800439:=0
def tw12839726598899740844:=0
def tw7864380065553203739:=0
def tw16535739029420653873:=0
def tw15662195772293507710:=0
def tw17020965148054144307:=0
def tw4556682356230116641:=0
def tw13485576820136268452:=0
def tw14109958397299969250:=0
def tw9203175563870352636:=0
def tw2921551644383734385:=0
def tw12187229690840274090:=0
def tw9663588412348407350:=0
def tw5763302853963060638:=0
def tw15329704813707218442:=0
def tw8393176154481999783:=0
def tw5833924609538912651:=0
def tw5892352721083778871:=0
def tw16050764301499763607:=0
def tw10258546219326548264:=0
def tw17923077040651113761:=0
def tw12212786888861892998:=0
def tw6178165577993504882:=0
def tw17527856686368934086:=0
def tw1915161837505794444:=0
def tw12637614857625088910:=0
def tw12760185355752048855:=0
def tw11591593161901640143:=0
def tw13209658614739496232:=0
def tw11780267412244070637:=0
def tw4836149147611003923:=0
def tw9266980563013686998:=0
def tw16459781552163594391:=0
def tw18345569558873423680:=0
def tw16814814825389428237:=0
def tw8515362206583159497:=0
def tw18114427738257687915:=0
def tw995412587049688931:=0
def tw8936285667834834919:=0
def tw2663750528475171809:=0
def tw3343869708861131669:=0
def tw10675875965608525191:=0
def tw11362880278477512964:=0
def tw18267899382660147028:=0
def tw2386590501478297918:=0
def tw12084270806202666344:=0
def tw5026682692617655033:=0
def tw16966935551160464970:=0
def tw14144079344529032595:=0
def tw9052404162955006214:=0
def tw9101306102954058113:=0
def tw13374958509228050433:=0
def tw394813391393403541:=0
def tw17613716583110434732:=0
def tw17974617337997897189:=0
def tw10366678136356665222:=0
def tw12712967502475764650:=0
def tw683743730335110568:=0
def tw10899560962474062249:=0
def tw8254095243813888489:=0
def tw2149271228536049683:=0
def tw3853406327185403208:=0
def tw1895540847438515842:=0
def tw18067032632086958294:=0
def tw5504485994758950660:=0
def tw8933377880982331609:=0
def tw13158968878598620729:=0
def tw13606184080779591475:=0
def tw5557289114018054384:=0
def tw17994052436882983961:=0
def tw9515553603862688999:=0
def tw10028184963996827941:=0
def tw7272707533817480660:=0
def tw17312739045579500603:=0
def tw6455406949214591997:=0
def tw16587332669662837779:=0
def tw13013589633530455317:=0
def tw18344706445895949330:=0
def tw5901387670926478672:=0
def tw14009715042402025554:=0
def tw841122673060333049:=0
def tw11329438587384768367:=0
def tw14226754016855628930:=0
def tw5300463737029581264:=0
def tw11735200043253624229:=0
def tw2189807274589574605:=0
def tw12513550786360419356:=0
def tw17673977357494685506:=0
def tw8592856470274937205:=0
def tw969785807025878565:=0
def tw7349134634886691802:=0
def tw14828293965742739400:=0
def tw12617437794870287658:=0
def tw10878249241298306786:=0
def tw15422409272260504944:=0
def tw15829423622605471537:=0
def tw13186870345345363317:=0
def tw2840160249061413954:=0
def tw15322400274756428129:=0
def tw5792184697648968953:=0
def tw3926248268452153134:=0
def tw15000624015598194456:=0
def tw2164923637740591560:=0
def tw4406829164334120536:=0
def tw8571809235859900266:=0
def tw4809688771409423053:=0
def tw8786362319619237880:=0
def tw13061312688278132670:=0
def tw13261539938482393162:=0
def tw4290156445486261401:=0
def tw6667013317051604552:=0
def tw9241691819540431238:=0
def tw14681907118499857899:=0
def tw5405952194462880633:=0
def tw9462996306659614896:=0
def tw15784171381788345857:=0
def tw18313904161323183802:=0
def tw7028661247335310897:=0
def tw14117643777889103242:=0
def tw15833496995524888445:=0
def tw5097957011021889552:=0
def tw8256441388060901067:=0
def tw13444404531378347529:=0
def tw13580775382291152033:=0
def tw16868930361574025708:=0
def tw11054962146077138984:=0
def tw17202879513989788734:=0
def tw13974874875891677794:=0
def tw11503783165521194354:=0
def tw9536029885537525979:=0
def tw1757213218777933997:=0
def tw13570654419569039344:=0
def tw14294773839431173034:=0
def tw14085547285068588730:=0
def tw14754566622116350645:=0
def tw16876411596006040568:=0
def tw17989431443157843490:=0
def tw15859544861646552942:=0
def tw3558582310792455010:=0
def tw905951312276933860:=0
def tw5948427720474593491:=0
def tw15162331456440662332:=0
def tw17326657622936979398:=0
def tw5707390275515160119:=0
def tw16359574963273209364:=0
def tw12529536454432719146:=0
def tw12869376016004096672:=0
def tw17225515924013229722:=0
def tw16064430870281745828:=0
def tw6635895747702046539:=0
def tw7994714138392067332:=0
def tw76610697725677867:=0
def tw4531564521035921686:=0
def tw3235627956365880123:=0
def tw6414481434166195988:=0
def tw3523465306032416679:=0
def tw7518939356898831853:=0
def tw604603342281023691:=0
def tw5591262861261438579:=0
def tw11621726629814913355:=0
def tw9249752216829952120:=0
def tw9951954040515576154:=0
def tw27602784091392304:=0
def tw11532082099526737953:=0
def tw17057278313101809378:=0
def tw12902143362477038743:=0
def tw6173757329139494959:=0
def tw4725636435078697953:=0
def tw6320792580904158942:=0
def tw13397233297440950357:=0
def tw9419661139389353494:=0
def tw10825000710710010157:=0
def tw11866695747291646607:=0
def tw4920891956622063674:=0
def tw4883474811604040298:=0
def tw17621617713691739625:=0
def tw9254158228116525548:=0
def tw4799674983252021938:=0
def tw10534460584074534494:=0
def tw2692527987807398629:=0
def tw9065800550515176550:=0
def tw2878909023943913543:=0
def tw10154781996123353184:=0
def tw16478948153173515667:=0
def tw11702614909635262804:=0
def tw1232740414052430963:=0
def tw5565017480069388923:=0
def tw2130752193964080651:=0
def tw3514209111428034112:=0
def tw10282397259664566746:=0
def tw15832116015979957028:=0
def tw1606763903929661327:=0
def tw1916646464744948545:=0
def tw16489631752699953012:=0
def tw13145869040816139929:=0
def tw11194175253721478440:=0
def tw15553165515558881571:=0
def tw1424389282339748871:=0
def tw13997918750887690714:=0
def tw8537421050164736182:=0
def tw6878036186206377161:=0
def tw1233459343384488492:=0
def tw9865781605431984158:=0
def tw7630630356334181407:=0
def tw11887904908671183729:=0
def tw1414663610628654188:=0
def tw6416689781207942609:=0
def tw7999701236355887596:=0
def tw1282785849907029255:=0
def tw7156874868897358076:=0
def tw15183227026617597375:=0
def tw1838354072769182996:=0
def tw11561469153426811474:=0
def tw14266792481475022811:=0
def tw8253232217179516994:=0
def tw3419829939354247809:=0
def tw6611434323063879910:=0
def tw1170686830725654013:=0
def tw15430192004392488384:=0
def tw14459977843404277561:=0
def tw18356862649937840859:=0
def tw8692433421054831300:=0
def tw3190736770872455832:=0
def tw8384378311777153835:=0
def tw17951784409960007436:=0
def tw8654053030871395566:=0
def tw2013863428623303764:=0
def tw6990038271075344419:=0
def tw11405072419295310695:=0
def tw13317239153926028468:=0
def tw519407368575543311:=0
def tw13339323960806197665:=0
def tw7443747096117965251:=0
def tw3941166060056805456:=0
def tw13206965394279379966:=0
def tw6459960469236695870:=0
def tw4176990062065438896:=0
def tw5499977789467095367:=0
def tw10639593063281165902:=0
def tw13883784897793936018:=0
def tw8000832679059155213:=0
def tw13305925426056970399:=0
def tw426340578170228317:=0
def tw12643223140878530815:=0
def tw655577335583192932:=0
def tw175978982341400919:=0
def tw17989144270207333576:=0
def tw7394800815669985279:=0
def tw11089699063510535163:=0
def tw7963185878709066234:=0
def tw5743828716838332547:=0
def tw2720822847745489120:=0
def tw5624116106218597472:=0
def tw227352001620384123:=0
def tw18193177768251500332:=0
def tw12226387881071214761:=0
def tw3826989283508597315:=0
def tw14592000436525088675:=0
def tw7802717032171612520:=0
def tw17879177580408241754:=0
def tw12566654494650299851:=0
def tw7720623675545848215:=0
def tw315625655307541790:=0
def tw6843701646535841014:=0
def tw11393827317812488313:=0
def tw2758790573863023153:=0
def tw34806251979757862:=0
def tw2322338412917515155:=0
def tw4016510982119416856:=0
def tw7738360688321555845:=0
def tw13773467922625849810:=0
def tw17411360951621817878:=0
def tw13160867198051406086:=0
def tw15423731302552079584:=0
def tw17322408853000187600:=0
def tw12824610030524609123:=0
def tw4621761724220005876:=0
def tw16773904644363539252:=0
def tw1883632017025166496:=0
def tw2876448031640463289:=0
def tw103747454394625773:=0
def tw3443032004801401335:=0
def tw5354271619104165082:=0
def tw4941410758600953992:=0
def tw12320693036431790234:=0
def tw11365480692361886302:=0
def tw13153573702553163479:=0
def tw4147194020801556856:=0
def tw16880498661822928553:=0
def tw16321048409740755021:=0
def tw17093885101127239228:=0
def tw7973190316574909068:=0
def tw12454065104019732382:=0
def tw9123003303056464269:=0
def tw9426271184228110361:=0
def tw17121412275856959382:=0
def tw3422688276597260733:=0
def tw324048528091255616:=0
def tw1140315223134519943:=0
def tw5545168156816885193:=0
def tw17411478220576530127:=0
def tw4402634596554885060:=0
def tw2740965363096664380:=0
def tw4812731716683272233:=0
def tw11719576099444327266:=0
def tw441043514620713181:=0
def tw14287175955616704750:=0
def tw6731935830275712627:=0
def tw10201435010301379559:=0
def tw9570116001683660494:=0
def tw16506168025546327749:=0
def tw6826124853483485204:=0
def tw13343293680262033581:=0
def tw6078168374563847470:=0
def tw797142175768535758:=0
def tw16352903619174997156:=0
def tw15581253158279478610:=0
def tw7989550646828179404:=0
def tw10648052047622440653:=0
def tw7473362355976170563:=0
def tw12478242655577762846:=0
def tw4976493809126787498:=0
def tw5100266502770740382:=0
def tw13668077300718638360:=0
def tw11637577323593625590:=0
def tw4633469316673027390:=0
def tw6958319458237555010:=0
def tw10204088998022629472:=0
def tw6040993213052249968:=0
def tw18325665974850649114:=0
def tw6675656235361215682:=0
def tw4071726063592308156:=0
def tw12221447445923243561:=0
def tw16730662138181923020:=0
def tw5569941594824916371:=0
def tw16922157560092444589:=0
def tw6377049610969455460:=0
def tw3645011590163252293:=0
def tw15556104503096336929:=0
def tw2799510654141367295:=0
def tw15234568634912853715:=0
def tw6360642861848583827:=0
def tw8905179815726002356:=0
def tw16529215404303591260:=0
def tw11197638397287796588:=0
def tw9808933971141084035:=0
def tw10068579983910833834:=0
def tw5838246589448591709:=0
def tw5417815907299682419:=0
def tw6944476286520287555:=0
def tw574993341934574506:=0
def tw13440471736463748458:=0
def tw11112847741132430311:=0
def tw6236550352042370109:=0
def tw5108511526739879091:=0
def tw15351682117889908159:=0
def tw17429177095344373622:=0
def tw409124619438702890:=0
def tw15782050601223347582:=0
def tw17949068787383931613:=0
def tw1669010227287449411:=0
def tw12458289496789539957:=0
def tw6117624919117921128:=0
def tw11936931941327999823:=0
def tw13051479524705551655:=0
def tw15901561997159447915:=0
def tw12035148221150010316:=0
def tw2645808935958113339:=0
def tw9957429606355967700:=0
def tw10392389000553216417:=0
def tw9954729480511578081:=0
def tw3262102703755408918:=0
def tw6222969596097464225:=0
def tw6746507307781596957:=0
def tw3369875775495317459:=0
def tw4951196414931096467:=0
def tw12575190923991401716:=0
def tw6038755856770712804:=0
def tw15509032410848216972:=0
def tw11475626171898946700:=0
def tw4006532344855617635:=0
def tw2864682413231257665:=0
def tw5428980044762572907:=0
def tw2678985744081842985:=0
def tw8462234976440704076:=0
def tw4268861757635756692:=0
def tw5177166413334677187:=0
def tw5103701849368277475:=0
def tw12997658415229010569:=0
def tw1911303714654478068:=0
def tw5599047855595583510:=0
def tw6458881000451706666:=0
def tw10781380140807099104:=0
def tw10480175617699802598:=0
def tw1134502240264406783:=0
def tw7028212949013277435:=0
def tw16626018641937714905:=0
def tw15974696948569292210:=0
def tw6306898324875596879:=0
def tw14831015090145548302:=0
def tw15014902389939902456:=0
def tw18263240698606798772:=0
def tw17992101795143485773:=0
def tw15713145235670114620:=0
def tw81711589922082556:=0
def tw17109924701761968583:=0
def tw8588490362875760916:=0
def tw5878270271167996909:=0
def tw15560236459682945406:=0
def tw15117519488231218197:=0
def tw5456937134589997710:=0
def tw601410499616008301:=0
def tw12477801174583518354:=0
def tw12624641186158076133:=0
def tw10594813541664123735:=0
def tw14417646664855149242:=0
def tw8009873260639689761:=0
def tw670937073271353326:=0
def tw1753395320200258703:=0
def tw18398349606296322112:=0
def tw7424227468738873584:=0
def tw5845961285426669047:=0
def tw15744324639252348284:=0
def tw2119554239490263370:=0
def tw2427592589182687952:=0
def tw1594431039769560116:=0
def tw6453488441096764924:=0
def tw1854474400920756292:=0
def tw11847201567159536022:=0
def tw8025509413045255799:=0
def tw4321451421886985448:=0
def tw15609849224712549072:=0
def tw15254799870608422365:=0
def tw17368754817278749651:=0
def tw6175399978814160828:=0
def tw3380454448205174436:=0
def tw15624540177443915897:=0
def tw2869679846205629393:=0
def tw2697028603566187635:=0
def tw5094797044329931284:=0
def tw6691127036164197530:=0
def tw15872992783838866167:=0
def tw17793070421155908348:=0
def tw14455102785663718064:=0
def tw7305396008340358469:=0
def tw18359150160114182005:=0
def tw17048823430023270545:=0
def tw15475141967386181999:=0
def tw7321758591540636121:=0
def tw4377586311003273596:=0
def tw351541878230649259:=0
def tw8106556808888117252:=0
def tw15686540043847905661:=0
def tw17896506499113110817:=0
def tw18302479230373624472:=0
def tw13620693976748081641:=0
def tw1889554842801388916:=0
def tw11284991402378627990:=0
def tw4205434860675030998:=0
def tw15949882620025408541:=0
def tw11367980887173489296:=0
def tw4880454340821939511:=0
def tw8050430767812599295:=0
def tw17033479549331270387:=0
def tw12873526445752654361:=0
def tw15693154072563392871:=0
def tw14126774700882699308:=0
def tw4380774289025602165:=0
def tw9303857595401114698:=0
def tw13656977870169893255:=0
def tw6739073449370635450:=0
def tw4029499877790867552:=0
def tw627496105098334906:=0
def tw15188166643530723875:=0
def tw4847181157247204883:=0
def tw3242991597954379268:=0
def tw5149104808228480747:=0
def tw7430606546480986573:=0
def tw3085388991900300276:=0
def tw7172226310991273541:=0
def tw3145174153883438889:=0
def tw14342438688794857379:=0
def tw8614028921550819817:=0
def tw16673325909134337238:=0
def tw15762900373243145124:=0
def tw11161170326260028845:=0
def tw7817122487564508168:=0
def tw17077540457741811319:=0
def tw17332376965538524302:=0
def tw7026314829002985150:=0
def tw2579568070014567412:=0
def tw6112747861402275704:=0
def tw3597224558371887580:=0
def tw7406730358422545875:=0
def tw16292242302319917645:=0
def tw10392927126915984380:=0
def tw12771383818459728146:=0
def tw6331422132363538396:=0
def tw17614327280725741277:=0
def tw14898401407548979700:=0
def tw7350278287105420216:=0
def tw7647470548410168918:=0
def tw973314362451596134:=0
def tw8740844871237422719:=0
def tw15232204236077058445:=0
def tw4272507774587937460:=0
def tw9140434560777650466:=0
def tw14140612437447828359:=0
def tw12379984815139079503:=0
def tw3311642305019273223:=0
def tw14152718192101584129:=0
def tw7082704818282500446:=0
def tw565915162701133147:=0
def tw7078671208677907745:=0
def tw16370938932946969874:=0
def tw179823155749098224:=0
def tw14524474232135697353:=0
def tw8454397062250766390:=0
def tw5660657064554058201:=0
def tw5391044358200014767:=0
def tw11177887455062691084:=0
def tw2724440093445704281:=0
def tw11953284490880431733:=0
def tw15406574747303236184:=0
def tw15046399752231733443:=0
def tw6977356852971656079:=0
def tw877711695778544218:=0
def tw10730375602832682090:=0
def tw11609419210579966613:=0
def tw9202871448201616767:=0
def tw14823622118291118306:=0
def tw11226612793522793329:=0
def tw17648580509203150067:=0
def tw1019573294170081899:=0
def tw4993149352259798972:=0
def tw13101635846618669031:=0
def tw17249434114041773541:=0
def tw11497853905989349403:=0
def tw16714273606728135546:=0
def tw11527033649443193461:=0
def tw17716463604710468234:=0
def tw13423436967098138254:=0
def tw16011203903468568098:=0
def tw16518268366178825377:=0
def tw1902210577575080690:=0
def tw8289304659713182043:=0
def tw11989999811076031395:=0
def tw15303558105078954552:=0
def tw18332626786300237173:=0
def tw4624372509152709953:=0
def tw15761185255584652749:=0
def tw16406484007721578587:=0
def tw4429602557872470719:=0
def tw11718886629249365994:=0
def tw2379441278513594896:=0
def tw5620584330728539555:=0
def tw762057681886703508:=0
def tw10122889778598539685:=0
def tw12589460709186882386:=0
def tw3923165512602899257:=0
def tw12734434296719486675:=0
def tw17480412626050309487:=0
def tw4863595797821714698:=0
def tw9420024833662936864:=0
def tw7201143211670051673:=0
def tw9015137067410078528:=0
def tw15269808335251771329:=0
def tw12112132359994515993:=0
def tw13313774478098363243:=0
def tw6681451383464803689:=0
def tw12988601812882619962:=0
def tw16109856560425625153:=0
def tw9748910582259830283:=0
def tw2980783892976800704:=0
def tw4271725082652734314:=0
def tw13544797324500085220:=0
def tw15838392290485413718:=0
def tw14442781764959384745:=0
def tw4405908612232185097:=0
def tw2351038654337219498:=0
def tw4330005836079295625:=0
def tw7081671915211012455:=0
def tw14338817137081026380:=0
def tw7720758438574140502:=0
def tw12195159736441805876:=0
def tw12978161789314533282:=0
def tw3104253831039774710:=0
def tw16719920777219737606:=0
def tw7099222585188513075:=0
def tw4516981826689718927:=0
def tw15094271664857537752:=0
def tw3424600101629832034:=0
def tw9462460505268619286:=0
def tw14888091173702910710:=0
def tw11979065071584658881:=0
def tw7198398371785588434:=0
def tw16393240834964742996:=0
def tw9768203773044084370:=0
def tw6753090964593773216:=0
def tw10342311243877885115:=0
def tw1970033243831479105:=0
def tw6365937443395901544:=0
def tw7509150444126756448:=0
def tw12458754297551926786:=0
def tw12891696768096100290:=0
def tw8636929206200763592:=0
def tw10957401161423698557:=0
def tw13651210101941236889:=0
def tw4460739904579000861:=0
def tw14388870507852360864:=0
def tw5684264607935556922:=0
def tw7857297730759114902:=0
def tw7969358623949091352:=0
def tw9983205229480225822:=0
def tw16566627577926204833:=0
def tw1552634995310628439:=0
def tw11904847052084458540:=0
def tw17697968992027822575:=0
def tw5555266005255207289:=0
def tw6952086209917972194:=0
def tw10330934339017597432:=0
def tw10114775804081755608:=0
def tw7679467517117308797:=0
def tw15734828927260328112:=0
def tw6739573856928407367:=0
def tw11506604679863647972:=0
def tw2515118166611622273:=0
def tw6334429841053711603:=0
def tw3575631927580681251:=0
def tw10832319027538031208:=0
def tw7553821539947257522:=0
def tw3647188785165657244:=0
def tw5341906370923453147:=0
def tw4080063353331657901:=0
def tw13515748724109407047:=0
def tw18150528945485058872:=0
def tw6624772457494132738:=0
def tw9453599938989543978:=0
def tw17531569025543759774:=0
def tw1060550212905047723:=0
def tw771018857726267934:=0
def tw16516118383023728237:=0
def tw9094103320102570955:=0
def tw6208037669424347765:=0
def tw16381189114086215190:=0
def tw8686433466521287828:=0
def tw2229170890585795539:=0
def tw11022817515276647964:=0
def tw18276665376270938001:=0
def tw6646990874330498976:=0
def tw2479263050368629053:=0
def tw17480998732869474448:=0
def tw4554202377906603941:=0
def tw3127344363293708109:=0
def tw15663125555291840904:=0
def tw3300804843066876189:=0
def tw12867802586423025698:=0
def tw8875512789115603432:=0
def tw13923602416773453364:=0
def tw17949068558179192504:=0
def tw10943055139066327127:=0
def tw3799391668188229139:=0
def tw7589905350477919538:=0
def tw9748104406197019147:=0
def tw3392706676479933854:=0
def tw14226702664634420668:=0
def tw1387732689500690853:=0
def tw11750721255337059620:=0
def tw11656415926932329810:=0
def tw17586658010981254565:=0
def tw15364762653470696923:=0
def tw600893691950828020:=0
def tw16943304147877386005:=0
def tw13077222210575378557:=0
def tw9800024683150375642:=0
def tw12747986466585794835:=0
def tw12610411420368472885:=0
def tw7253752381313611255:=0
def tw11002770689506123848:=0
def tw8830776383759859100:=0
def tw13526409076691244731:=0
def tw2102159428881171113:=0
def tw4856790830763682604:=0
def tw10316572996754932706:=0
def tw9509364038554899375:=0
def tw12366467491268537030:=0
def tw5489791567914153268:=0
def tw13387068583617900516:=0
def tw1293362600439578818:=0
def tw17368026887778622860:=0
def tw9510775376254171868:=0
def tw16503065370060042212:=0
def tw11891940785387714636:=0
def tw8150239616637801168:=0
def tw367534944573438852:=0
def tw1198959846299582201:=0
def tw16517487708263472494:=0
def tw17377885089343171443:=0
def tw16760582524548957002:=0
def tw9065313129327801573:=0
def tw11286600685467307375:=0
def tw12467196172857576562:=0
def tw14736325421924989982:=0
def tw7303753917755913703:=0
def tw16690150054539337345:=0
def tw16650446479809678185:=0
def tw2241420821023207934:=0
def tw4247695454320899766:=0
def tw8221276017379096982:=0
def tw3996441340165270322:=0
def tw13092701955809686978:=0
def tw7486471919316398661:=0
def tw2780762603277816534:=0
def tw7916947963683780916:=0
def tw14122123456170781168:=0
def tw16817520772617738712:=0
def tw18253211067244318528:=0
def tw6924249985465748870:=0
def tw11282460663210509631:=0
def tw9273915077617170608:=0
def tw12028611154494763791:=0
def tw300388634087055718:=0
def tw9420066464003497804:=0
def tw4983006238602050727:=0
def tw726660388957530300:=0
def tw13629884106825103941:=0
def tw1550560084626486815:=0
def tw6972431299688525947:=0
def tw8251864150428515543:=0
def tw9644744288400631264:=0
def tw17161505185745684905:=0
def tw5888124082794935148:=0
def tw899319442688821390:=0
def tw6185031121416126861:=0
def tw6661105126689046657:=0
def tw5978257282874955411:=0
def tw3840203546787788527:=0
def tw6426091756476402783:=0
def tw5395802281612086639:=0
def tw5575059256181195374:=0
def tw6491566433386652097:=0
def tw6624819915309768350:=0
def tw14642852668797715876:=0
def tw15098707846761568419:=0
def tw215026337516475704:=0
def tw13815107140097915223:=0
def tw18303519956784099783:=0
def tw9120476790805629848:=0
def tw12513229203033529745:=0
def tw14493714979455229869:=0
def tw9961043358190639412:=0
def tw6279903205571378986:=0
def tw2754031390579531003:=0
def tw7937137889204777600:=0
def tw5986047495291462526:=0
def tw4784275952163268464:=0
def tw18390741543112255205:=0
def tw437325238616340954:=0
def tw11327886156737802717:=0
def tw13076363919938397148:=0
def tw2387858864310565336:=0
def tw4710370218347883871:=0
def tw11363917969228113144:=0
def tw16724250949321615161:=0
def tw12892144071367847726:=0
def tw4739105308782867336:=0
def tw12938099940284616510:=0
def tw9888330520945857665:=0
def tw7989016354937881226:=0
def tw17135329279411702746:=0
def tw14028716202557871248:=0
def tw1725729007366600945:=0
def tw4305055461452993621:=0
def tw2626853527941550432:=0
def tw7576524134257759279:=0
def tw6682630740609092204:=0
def tw9587812512220924539:=0
def tw16862765751209239839:=0
def tw1627197989355243654:=0
def tw18006596290788093570:=0
def tw12354065410349996974:=0
def tw3374863976133077439:=0
def tw3410971274696877028:=0
def tw11606110504721278830:=0
def tw17549663440202968875:=0
def tw2101775736436470835:=0
def tw5426138215011918940:=0
def tw13216192265573021618:=0
def tw10692550640076639790:=0
def tw15033509633593876819:=0
def tw2036205862654192101:=0
def tw11897327850961009205:=0
def tw11904122663317355099:=0
def tw18176497695751614626:=0
def tw15916877488764689858:=0
def tw10130770657650788401:=0
def tw2091558342591986047:=0
def tw14107428908512376462:=0
def tw868794538662584446:=0
def tw3088651722281480324:=0
def tw1498167901730927684:=0
def tw11323237445164940469:=0
def tw17041815194779908156:=0
def tw17098047128466779973:=0
def tw14029183562686737688:=0
def tw59166372873102785:=0
def tw14902398583723000608:=0
def tw659065130447334422:=0
def tw485320903583876385:=0
def tw364837940183428896:=0
def tw1810901780428302824:=0
def tw2959677700288220839:=0
def tw7998929094389307739:=0
def tw5440196143253748075:=0
def tw17956970556605846227:=0
def tw15243772165649650302:=0
def tw5323961764632399773:=0
def tw6237185221777905195:=0
def tw7074473545495600839:=0
def tw17974428773002823839:=0
def tw5514075822172746006:=0
def tw17013169627010216029:=0
def tw9116574973437706276:=0
def tw15626609371159322401:=0
def tw11190734731024238942:=0
def tw18115690956608449738:=0
def tw5792909940190001921:=0
def tw11379721775130956995:=0
def tw8725712294294608974:=0
def tw5038838148206311152:=0
def tw7781356204311995389:=0
def tw1201877352095271525:=0
def tw9493883878119126387:=0
def tw16726908026327879689:=0
def tw11538763401174273108:=0
def tw11447356945509691163:=0
def tw4137740771376126959:=0
def tw12324618709026517128:=0
def tw7849032300049502322:=0
def tw7179693760738560583:=0
def tw5236428531692988430:=0
def tw15984041902315538997:=0
def tw4874681935946128947:=0
def tw7703332899265560942:=0
def tw4967087319683403914:=0
def tw17644665812952359378:=0
def tw10973568743729073464:=0
def tw4423404342865604371:=0
def tw2671843104729008948:=0
def tw6891297469599603741:=0
def tw2526592938300209302:=0
def tw15114331277503346793:=0
def tw12370221543802984229:=0
def tw11751912524935226870:=0
def tw11982866652644218743:=0
def tw10268753447011999914:=0
def tw7732845648660151:=0
def tw9279575076524017746:=0
def tw16852094181513743538:=0
def tw10596177417013433878:=0
def tw5691697769586248425:=0
def tw12354094377717056468:=0
def tw3311750466462821759:=0
def tw3642691259416753659:=0
def tw10123447144263019663:=0
def tw435061276839276511:=0
def tw8253684243504858410:=0
def tw15111756125925119420:=0
def tw9888213813275977780:=0
def tw12569763974659418139:=0
def tw4971140562543597884:=0
def tw469889014017763032:=0
def tw3801391161043391470:=0
def tw4230019797196923054:=0
def tw3676052728093963246:=0
def tw777975893314901485:=0
def tw10196370760160060034:=0
def tw3363005182058908488:=0
def tw15719972756877468199:=0
def tw10310457873577843702:=0
def tw12804527146323113912:=0
def tw12155508381926458933:=0
def tw7504431863028560104:=0
def tw11208646987382250528:=0
def tw12064517755452708708:=0
def tw17778464003672915867:=0
def tw8128701694485884640:=0
def tw17964189522960483158:=0
def tw3224519062439577416:=0
def tw8911520041935107588:=0
def tw10039944949799878043:=0
def tw15535486172072591947:=0
def tw12879546393013780446:=0
def tw6362775878240393042:=0
def tw4567609971052479433:=0
def tw14584544223011911076:=0
def tw1465771125994175160:=0
def tw15906768397705533228:=0
def tw13192110486653956571:=0
def tw11087358071552533097:=0
def tw10114553131635335099:=0
def tw10463711385972953635:=0
def tw11939775454175174284:=0
def tw18092567860019772659:=0
def tw17837808463698617380:=0
def tw8912680920725716367:=0
def tw18235349842508361197:=0
def tw1998608557934871999:=0
def tw16712280403188214582:=0
def tw2316247103649554033:=0
def tw11403586702989558600:=0
def tw13068276963083405146:=0
def tw5217905677524499054:=0
def tw1998649918231905514:=0
def tw7166703792420424232:=0
def tw6235495635253116742:=0
def tw16256007273814352936:=0
def tw15440820428857515940:=0
def tw13028223724363308465:=0
def tw18038962878540708724:=0
def tw4355264008075113805:=0
def tw16079697746212994983:=0
def tw11158633575280866678:=0
def tw6394901226213244060:=0
def tw3041892650421225569:=0
def tw3992673920938388124:=0
def tw10816274147291938789:=0
def tw1210096128997887833:=0
def tw17003059703148861875:=0
def tw16980153209253799569:=0
def tw9566840000236310510:=0
def tw6539770467565481012:=0
def tw1147030732946143780:=0
def tw13931168758485993238:=0
def tw4848816411158580454:=0
def tw17207036167701263222:=0
def tw14862398838170482310:=0
def tw4139612083996996915:=0
def tw622480671569934341:=0
def tw14805949021496546305:=0
def tw9186449018603046346:=0
def tw2766832924267724727:=0
def tw10275689331997595153:=0
def tw3073152866234429870:=0
def tw9645358658551959840:=0
def tw13900201205622704266:=0
def tw8405176098317957894:=0
def tw1502110436078442220:=0
def tw2884625565143093363:=0
def tw18341867743161537650:=0
def tw4722046415835339925:=0
def tw16027182113932998585:=0
def tw12280265226420414722:=0
def tw17240390836984262226:=0
def tw14894280856536842757:=0
def tw12777570147525463635:=0
def tw7454157822295388227:=0
def tw3266363390792962839:=0
def tw17670115961559774663:=0
def tw18051234771097765802:=0
def tw15058372631012304439:=0
def tw14777307905498506346:=0
def tw1190147506905124014:=0
def tw13071561765192761189:=0
def tw8330869381255125036:=0
def tw5620678114372155188:=0
def tw17561343452035827485:=0
def tw17391639949562034236:=0
def tw3778132262248518755:=0
def tw11169400685352811098:=0
def tw7584132214418664838:=0
def tw10957012331078993944:=0
def tw10690843624791514160:=0
def tw8008671928027055315:=0
def tw5929568629531025911:=0
def tw15848761711345709517:=0
def tw6490525949064387428:=0
def tw2743529362712601944:=0
def tw8758554752548492478:=0
def tw5222685529070039948:=0
def tw5011762928173293243:=0
def tw2098869508974017647:=0
def tw1903535389468451900:=0
def tw16804677680416214986:=0
def tw17028353789206988113:=0
def tw4247311873961643163:=0
def tw6071038768270186632:=0
def tw1063604746801459605:=0
def tw7512736936847114633:=0
def tw9767036040986194384:=0
def tw11292058060495964364:=0
def tw9993753103977311896:=0
def tw12489494050228413717:=0
def tw15799708531592671906:=0
def tw11511801233816901972:=0
def tw8967369430037745907:=0
def tw1925350328434304361:=0
def tw15383348320876774740:=0
def tw1204610872890422935:=0
def tw15714704077689309142:=0
def tw2579308929689803614:=0
def tw12892130033829665090:=0
def tw14227856050502054593:=0
def tw7196275150840641331:=0
def tw17522576445902469390:=0
def tw18005128881794587434:=0
def tw14219307892146878344:=0
def tw11955901401031039084:=0
def tw13469551715529737028:=0
def tw14481866295781670990:=0
def tw14038705600003951078:=0
def tw10312669155460274154:=0
def tw11363267778176854224:=0
def tw1727883514786169104:=0
def tw12140730994192089003:=0
def tw7214113743104550197:=0
def tw5838941493150785711:=0
def tw16933636885260952646:=0
def tw10179035741856272075:=0
def tw5226150382903127772:=0
def tw11737411056923642086:=0
def tw6549242065461652764:=0
def tw9578685518624214210:=0
def tw17345270504969438274:=0
def tw5359255336832828610:=0
def tw12632262361080640063:=0
def tw6867207903395720326:=0
def tw4327560892780013403:=0
def tw17768067813917058329:=0
def tw7681966304819275291:=0
def tw10558480176606080705:=0
def tw4049417108295995953:=0
def tw2961325883322425093:=0
def tw7437345770358573568:=0
def tw184700247317705365:=0
def tw8394690152080996584:=0
def tw1129829507612448401:=0
def tw2618375395316832429:=0
def tw2055728773842562284:=0
def tw1345688784498294010:=0
def tw2894358815384159865:=0
def tw9750025066574453749:=0
def tw8891630473196260099:=0
def tw17789646521299779426:=0
def tw10160178459536860435:=0
def tw10740423778698265194:=0
def tw15520555990454395567:=0
def tw9230080343595047807:=0
def tw13356479266887448093:=0
def tw14852724021889207125:=0
def tw13663709382000762424:=0
def tw8744348470922794695:=0
def tw15440168107403831474:=0
def tw9368012731372672542:=0
def tw5132086398018134758:=0
def tw7442762904197894581:=0
def tw13450404243391127244:=0
def tw1097926755039052055:=0
def tw12944695636870290480:=0
def tw2004688656790438901:=0
def tw7897235657260617950:=0
def tw7381394462725079067:=0
def tw4839404805312620728:=0
def tw2257426676030222135:=0
def tw13652352393555971944:=0
def tw1470415708242722625:=0
def tw18144346985760815460:=0
def tw7509969540205215852:=0
def tw7166577765510180014:=0
def tw2229593590579567718:=0
def tw4067622814465089570:=0
def tw3395026048489232394:=0
def tw2479952771760450217:=0
def tw5307459082092855730:=0
def tw8053052259215567875:=0
def tw18086552718084092010:=0
def tw12351784090614353529:=0
def tw9460771705515603783:=0
def tw3939981008383868186:=0
def tw12156987452575422983:=0
def tw14589490504177948748:=0
def tw3741678256319725481:=0
def tw17054741519185816088:=0
def tw12864881054022170160:=0
def tw7989368063421184277:=0
def tw11082521716238290653:=0
def tw13821208735988503718:=0
def tw14439037822187188422:=0
def tw861674424466333477:=0
def tw8474727956509938852:=0
def tw10003961352845187346:=0
def tw9189278692414954006:=0
def tw2539922389848617788:=0
def tw11386545529380869596:=0
def tw9453813947498327892:=0
def tw9527738445647966448:=0
def tw8342458777164413497:=0
def tw6713433280619514374:=0
def tw16576588952258577134:=0
def tw10446401699758531543:=0
def tw6143953667220586188:=0
def tw12121818302778753495:=0
def tw18209338770462431429:=0
def tw11351112174299445228:=0
def tw18257737884725811653:=0
def tw12775469352195988139:=0
def tw3358837947066823583:=0
def tw9839446531709808160:=0
def tw15752808369001813248:=0
def tw3283990381954267718:=0
def tw276268098800779034:=0
def tw11999498597533312383:=0
def tw7593676243135101087:=0
def tw12009424002481823457:=0
def tw11995605915643371599:=0
def tw9120019458284369023:=0
def tw13050343332243736864:=0
def tw5767234302707795446:=0
def tw7564735278224122695:=0
def tw5347202354960756137:=0
def tw15907104440681902117:=0
def tw3983174252220836250:=0
def tw15864238207318879563:=0
def tw11614898751084248201:=0
def tw12458147046937994419:=0
def tw1548583997199280544:=0
def tw13574923795486773471:=0
def tw7222531542580102402:=0
def tw4762524560272179787:=0
def tw2669580618899152533:=0
def tw13554905912822975373:=0
def tw17474441768700389354:=0
def tw1812778378337754415:=0
def tw17962098223403062240:=0
def tw14138534195923280060:=0
def tw3645359790376408975:=0
def tw16782332057351538684:=0
def tw11568798578902318601:=0
def tw15025942778026895656:=0
def tw12080918959809414206:=0
def tw15065744345147194751:=0
def tw10445640252157572118:=0
def tw17214274616580459057:=0
def tw10836320384774868644:=0
def tw18444121037128656358:=0
def tw1610108538333031321:=0
def tw1391488102090525225:=0
def tw14596350323375121254:=0
def tw3616273787602396304:=0
def tw17490226392369115182:=0
def tw5811251722702626141:=0
def tw417839920136547173:=0
def tw11796013548307080714:=0
def tw12999162609664615160:=0
def tw2763037423364451922:=0
def tw17586062641626210108:=0
def tw12011703094375999992:=0
def tw11242220786896154234:=0
def tw8527184115019365371:=0
def tw1602742845391242110:=0
def tw4532031462280065085:=0
def tw5501156622686296484:=0
def tw991912380400586682:=0
def tw16808651597083618684:=0
def tw16072159006002472635:=0
def tw4598546283332271127:=0
def tw13219233765218245831:=0
def tw1618572534291734288:=0
def tw5328042303467099084:=0
def tw1691539856757006957:=0
def tw11858986144721554859:=0
def tw13704953574357865134:=0
def tw4488289885345852953:=0
def tw17357090537083985261:=0
def tw17632558432533786908:=0
def tw9449654562936059072:=0
def tw11932602864704669868:=0
def tw8468562464370917518:=0
def tw9820934522610488747:=0
def tw8166959297033948079:=0
def tw10234273502915263258:=0
def tw15766563086967885273:=0
def tw12452755454336699539:=0
def tw5564297878001798427:=0
def tw4514492329481339891:=0
def tw13030716196046481285:=0
def tw8706298517067679154:=0
def tw9348385561843673758:=0
def tw7044116232543729639:=0
def tw6488663940746903503:=0
def tw3903579685399989612:=0
def tw6363327346999064829:=0
def tw2704384104684264569:=0
def tw11254759010581965101:=0
def tw12053334283175944606:=0
def tw18318633893981093586:=0
def tw7798622946098369923:=0
def tw13549649766873761160:=0
def tw16965732510645636145:=0
def tw9667539700873181166:=0
def tw8256615408370658089:=0
def tw1546371901810180604:=0
def tw11136536174575676652:=0
def tw10043419211368962140:=0
def tw15755009753112248987:=0
def tw12155891848634362818:=0
def tw2370915084648079801:=0
def tw13106271374015347851:=0
def tw17765512950881907522:=0
def tw6719729402037179325:=0
def tw13327516105009025136:=0
def tw5124198643342718971:=0
def tw6596008290479320753:=0
def tw373404427103604249:=0
def tw12422919750194481505:=0
def tw9593360075111933867:=0
def tw6873227875005247826:=0
def tw15456295009839553320:=0
def tw5203471566083723134:=0
def tw9702537426959298116:=0
def tw16078758712858685465:=0
def tw2627735060568619316:=0
def tw7494382792010934681:=0
def tw4087790264375487325:=0
def tw15243486758487163159:=0
def tw1228411177960999584:=0
def tw5295486110644034867:=0
def tw10143899706320758244:=0
def tw4701527616289587511:=0
def tw806845022054008624:=0
def tw13003214102824543193:=0
def tw6500540555913263418:=0
def tw686278168824822555:=0
def tw13411110279326670975:=0
def tw2431678774660867954:=0
def tw10283090141016108857:=0
def tw18191511985055674200:=0
def tw17860150069229856251:=0
def tw8825190940428531536:=0
def tw4832657079991045328:=0
def tw5166418609794427367:=0
def tw2458420724888465699:=0
def tw14125532387380693238:=0
def tw12261599152615082780:=0
def tw15488061581444148346:=0
def tw4218872784997143811:=0
def tw10826359114498784895:=0
def tw8278595959429900711:=0
def tw9002272053818141927:=0
def tw3042994721049072402:=0
def tw10568190457880018671:=0
def tw15646088626379518993:=0
def tw14001211819308358304:=0
def tw13853122926462628345:=0
def tw7796816364397621973:=0
def tw9031682355979490191:=0
def tw4062301011698312590:=0
def tw3236460466912865718:=0
def tw16293274963145915556:=0
def tw758583125176288448:=0
def tw16342038640805040779:=0
def tw10979220003483561655:=0
def tw11363968807244557502:=0
def tw17323840673894312226:=0
def tw8285979443797427485:=0
def tw11690570780780856876:=0
def tw8315405116069651909:=0
def tw16293624861217404535:=0
def tw11927069662128190978:=0
def tw8490546353554931875:=0
def tw8669430656805100505:=0
def tw14494511062280015782:=0
def tw2372293478236833274:=0
def tw7090116718719070405:=0
def tw10944810006822298904:=0
def tw8216220226571111714:=0
def tw14723667539586248639:=0
def tw4379774632466491468:=0
def tw4029253319595401906:=0
def tw15318220114277949431:=0
def tw6829122157898366669:=0
def tw8376529722691046499:=0
end PySem.W.Fast
open PySem PySem.W PyProof.Rows
set_option maxHeartbeats 0 in
theorem PySem.Challenge.cw_outweave_k16_signs_refused_holds : PySem.Challenge.rw_outweave_k16_signs_refused.Holds := by
  w_on; o_law; k_head; (case hw => w_witness2)
  k_fill
  refine L2.walk_ofB (l := PySem.Challenge.rw_outweave_k16_signs_refused) (n := 63) (k := 8) (x := "_law_script") (CX := fun _ => L2.CX0) (sp := fun w => LI.spLaw _) rfl (by decide) rfl ⟨rfl, by decide, by decide⟩ (fun w h Y => PySem.W.kIn_of Y) ?F (fun _ _ a ns hl hb _ hS => ⟨a, ns, rfl, hS, hl, hb, fun _ => rfl⟩) (fun _ _ _ _ _ h => h)
  case F =>
    intro w mg fa h KX G hmg
    refine' LW.all_mk LW.law_true KX G hmg ?gc_OutError ?gc_NoSign ?gc_NoName ?gc_NoHand ?gc_Twice ?gc_Closed ?gc_NoSize ?gc_NoRoom ?gc_NoRoll ?gc_NoCell ?gc_NoRow ?x1_Closed ?x2_Closed ?x3_Closed ?x4_Closed ?x5_Closed ?x6_Closed ?x7_Closed ?x8_Closed ?x9_Closed ?ik_v_Closed ?ik_Closed__Closed ?ik_Closed__NoCell ?ik_Closed__NoHand ?ik_Closed__NoName ?ik_Closed__NoRoll ?ik_Closed__NoRoom ?ik_Closed__NoRow ?ik_Closed__NoSign ?ik_Closed__NoSize ?ik_Closed__OutError ?ik_Closed__Twice ?xs_Closed__OutError ?x1_NoCell ?x2_NoCell ?x3_NoCell ?x4_NoCell ?x5_NoCell ?x6_NoCell ?x7_NoCell ?x8_NoCell ?x9_NoCell ?ik_v_NoCell ?ik_NoCell__Closed ?ik_NoCell__NoCell ?ik_NoCell__NoHand ?ik_NoCell__NoName ?ik_NoCell__NoRoll ?ik_NoCell__NoRoom ?ik_NoCell__NoRow ?ik_NoCell__NoSign ?ik_NoCell__NoSize ?ik_NoCell__OutError ?ik_NoCell__Twice ?xs_NoCell__OutError ?x1_NoHand ?x2_NoHand ?x3_NoHand ?x4_NoHand ?x5_NoHand ?x6_NoHand ?x7_NoHand ?x8_NoHand ?x9_NoHand ?ik_v_NoHand ?ik_NoHand__Closed ?ik_NoHand__NoCell ?ik_NoHand__NoHand ?ik_NoHand__NoName ?ik_NoHand__NoRoll ?ik_NoHand__NoRoom ?ik_NoHand__NoRow ?ik_NoHand__NoSign ?ik_NoHand__NoSize ?ik_NoHand__OutError ?ik_NoHand__Twice ?xs_NoHand__OutError ?x1_NoName ?x2_NoName ?x3_NoName ?x4_NoName ?x5_NoName ?x6_NoName ?x7_NoName ?x8_NoName ?x9_NoName ?ik_v_NoName ?ik_NoName__Closed ?ik_NoName__NoCell ?ik_NoName__NoHand ?ik_NoName__NoName ?ik_NoName__NoRoll ?ik_NoName__NoRoom ?ik_NoName__NoRow ?ik_NoName__NoSign ?ik_NoName__NoSize ?ik_NoName__OutError ?ik_NoName__Twice ?xs_NoName__OutError ?x1_NoRoll ?x2_NoRoll ?x3_NoRoll ?x4_NoRoll ?x5_NoRoll ?x6_NoRoll ?x7_NoRoll ?x8_NoRoll ?x9_NoRoll ?ik_v_NoRoll ?ik_NoRoll__Closed ?ik_NoRoll__NoCell ?ik_NoRoll__NoHand ?ik_NoRoll__NoName ?ik_NoRoll__NoRoll ?ik_NoRoll__NoRoom ?ik_NoRoll__NoRow ?ik_NoRoll__NoSign ?ik_NoRoll__NoSize ?ik_NoRoll__OutError ?ik_NoRoll__Twice ?xs_NoRoll__OutError ?x1_NoRoom ?x2_NoRoom ?x3_NoRoom ?x4_NoRoom ?x5_NoRoom ?x6_NoRoom ?x7_NoRoom ?x8_NoRoom ?x9_NoRoom ?ik_v_NoRoom ?ik_NoRoom__Closed ?ik_NoRoom__NoCell ?ik_NoRoom__NoHand ?ik_NoRoom__NoName ?ik_NoRoom__NoRoll ?ik_NoRoom__NoRoom ?ik_NoRoom__NoRow ?ik_NoRoom__NoSign ?ik_NoRoom__NoSize ?ik_NoRoom__OutError ?ik_NoRoom__Twice ?xs_NoRoom__OutError ?x1_NoRow ?x2_NoRow ?x3_NoRow ?x4_NoRow ?x5_NoRow ?x6_NoRow ?x7_NoRow ?x8_NoRow ?x9_NoRow ?ik_v_NoRow ?ik_NoRow__Closed ?ik_NoRow__NoCell ?ik_NoRow__NoHand ?ik_NoRow__NoName ?ik_NoRow__NoRoll ?ik_NoRow__NoRoom ?ik_NoRow__NoRow ?ik_NoRow__NoSign ?ik_NoRow__NoSize ?ik_NoRow__OutError ?ik_NoRow__Twice ?xs_NoRow__OutError ?x1_NoSign ?x2_NoSign ?x3_NoSign ?x4_NoSign ?x5_NoSign ?x6_NoSign ?x7_NoSign ?x8_NoSign ?x9_NoSign ?ik_v_NoSign ?ik_NoSign__Closed ?ik_NoSign__NoCell ?ik_NoSign__NoHand ?ik_NoSign__NoName ?ik_NoSign__NoRoll ?ik_NoSign__NoRoom ?ik_NoSign__NoRow ?ik_NoSign__NoSign ?ik_NoSign__NoSize ?ik_NoSign__OutError ?ik_NoSign__Twice ?xs_NoSign__OutError ?x1_NoSize ?x2_NoSize ?x3_NoSize ?x4_NoSize ?x5_NoSize ?x6_NoSize ?x7_NoSize ?x8_NoSize ?x9_NoSize ?ik_v_NoSize ?ik_NoSize__Closed ?ik_NoSize__NoCell ?ik_NoSize__NoHand ?ik_NoSize__NoName ?ik_NoSize__NoRoll ?ik_NoSize__NoRoom ?ik_NoSize__NoRow ?ik_NoSize__NoSign ?ik_NoSize__NoSize ?ik_NoSize__OutError ?ik_NoSize__Twice ?xs_NoSize__OutError ?x1_Twice ?x2_Twice ?x3_Twice ?x4_Twice ?x5_Twice ?x6_Twice ?x7_Twice ?x8_Twice ?x9_Twice ?ik_v_Twice ?ik_Twice__Closed ?ik_Twice__NoCell ?ik_Twice__NoHand ?ik_Twice__NoName ?ik_Twice__NoRoll ?ik_Twice__NoRoom ?ik_Twice__NoRow ?ik_Twice__NoSign ?ik_Twice__NoSize ?ik_Twice__OutError ?ik_Twice__Twice ?xs_Twice__OutError ?xf_at__Closed ?xf_at__NoCell ?xf_at__NoHand ?xf_at__NoName ?xf_at__NoRoll ?xf_at__NoRoom ?xf_at__NoRow ?xf_at__NoSign ?xf_at__NoSize ?xf_at__Twice ?a1_NoSign_init ?a5_NoSign_init ?a2_NoSign_init ?a3_NoSign_init ?a4_NoSign_init ?xl_NoSign ?xw_NoSign ?xt_NoSign ?xq_NoSign ?xn_NoSign ?a1_NoHand_init ?a5_NoHand_init ?a2_NoHand_init ?a3_NoHand_init ?a4_NoHand_init ?xl_NoHand ?xw_NoHand ?xt_NoHand ?xq_NoHand ?xn_NoHand ?a1_Twice_init ?a5_Twice_init ?a2_Twice_init ?a3_Twice_init ?a4_Twice_init ?xl_Twice ?xw_Twice ?xt_Twice ?xq_Twice ?xn_Twice ?a1_Closed_init ?a5_Closed_init ?a2_Closed_init ?a3_Closed_init ?a4_Closed_init ?xl_Closed ?xw_Closed ?xt_Closed ?xq_Closed ?xn_Closed ?a1_NoRoom_init ?a5_NoRoom_init ?a2_NoRoom_init ?a3_NoRoom_init ?a4_NoRoom_init ?xl_NoRoom ?xw_NoRoom ?xt_NoRoom ?xq_NoRoom ?xn_NoRoom ?a1_NoRoll_init ?a5_NoRoll_init ?a2_NoRoll_init ?a3_NoRoll_init ?a4_NoRoll_init ?xl_NoRoll ?xw_NoRoll ?xt_NoRoll ?xq_NoRoll ?xn_NoRoll ?rd_OutError ?ga_OutError ?bi_OutError ?xm1_OutError ?xm2_OutError ?xm3_OutError ?xp_NoRow ?xq_NoRow ?xt_NoRow ?xp_NoCell ?xq_NoCell ?xt_NoCell ?xp_NoSize ?xq_NoSize ?xt_NoSize ?xp_NoName ?xq_NoName ?xt_NoName ?gc_Reader ?a1_is_sign ?a2_is_sign ?a3_is_sign ?a4_is_sign ?a1_is_colour ?a2_is_colour ?a3_is_colour ?a4_is_colour ?a1_checked__X1 ?a2_checked__X1 ?a3_checked__X1 ?a4_checked__X1 ?a1_checked ?a2_checked ?a3_checked ?a4_checked ?a1_sign_item ?a2_sign_item ?a3_sign_item ?a4_sign_item ?a1_begins_mark ?a2_begins_mark ?a3_begins_mark ?a4_begins_mark ?a1_mark_item ?a2_mark_item ?a3_mark_item ?a4_mark_item ?a1_Reader_init ?a5_Reader_init ?a2_Reader_init ?a3_Reader_init ?a4_Reader_init ?a1_Reader_held_text ?a5_Reader_held_text ?a2_Reader_held_text ?a3_Reader_held_text ?a4_Reader_held_text ?a1_Reader_told ?a5_Reader_told ?a2_Reader_told ?a3_Reader_told ?a4_Reader_told ?a1_Reader_take ?a5_Reader_take ?a2_Reader_take ?a3_Reader_take ?a4_Reader_take ?a1_Reader_feed__X1 ?a5_Reader_feed__X1 ?a2_Reader_feed__X1 ?a3_Reader_feed__X1 ?a4_Reader_feed__X1 ?a1_Reader_feed ?a5_Reader_feed ?a2_Reader_feed ?a3_Reader_feed ?a4_Reader_feed ?a1_Reader_finish ?a5_Reader_finish ?a2_Reader_finish ?a3_Reader_finish ?a4_Reader_finish ?a1_items_of__X1 ?a2_items_of__X1 ?a3_items_of__X1 ?a4_items_of__X1 ?a1_lw_cell ?a2_lw_cell ?a3_lw_cell ?a4_lw_cell ?a1_lw_mix ?a2_lw_mix ?a3_lw_mix ?a4_lw_mix ?a1_lw_signs ?a2_lw_signs ?a3_lw_signs ?a4_lw_signs ?a1_lw_token ?a2_lw_token ?a3_lw_token ?a4_lw_token ?a1_lw_item ?a2_lw_item ?a3_lw_item ?a4_lw_item ?a1_lw_items ?a2_lw_items ?a3_lw_items ?a4_lw_items ?a1_lw_whole ?a2_lw_whole ?a3_lw_whole ?a4_lw_whole ?a1_lw_same ?a2_lw_same ?a3_lw_same ?a4_lw_same ?a1_lw_did ?a2_lw_did ?a3_lw_did ?a4_lw_did ?a1_lw_refused ?a2_lw_refused ?a3_lw_refused ?a4_lw_refused ?a1_lw_by_hand ?a2_lw_by_hand ?a3_lw_by_hand ?a4_lw_by_hand ?a1_lw_spoilt ?a2_lw_spoilt ?a3_lw_spoilt ?a4_lw_spoilt ?a1_law ?a2_law ?a3_law ?a4_law ?z_ValueError ?z_bool ?z_enumerate ?z_int ?z_isinstance ?z_len ?z_list ?z_range ?z_str ?z_tuple ?k_COLOURS ?k_CONTROLS ?k1_ENDS ?k2_ENDS ?k4_ENDS ?k3_ENDS ?k_FIRST ?k_LAST ?pg_Reader ?hd_Reader ?po_Reader ?sa_Reader ?na_Reader_kept ?na_Reader_place ?mi_Reader ?kc_Reader
    (case gc_OutError => k_is); (case gc_NoSign => k_is); (case gc_NoName => k_is); (case gc_NoHand => k_is); (case gc_Twice => k_is); (case gc_Closed => k_is); (case gc_NoSize => k_is); (case gc_NoRoom => k_is); (case gc_NoRoll => k_is); (case gc_NoCell => k_is); (case gc_NoRow => k_is); (case x1_Closed => k_is); (case x2_Closed => k_is); (case x3_Closed => k_is); (case x4_Closed => k_is); (case x5_Closed => k_is); (case x6_Closed => k_is); (case x7_Closed => k_is); (case x8_Closed => k_is); (case x9_Closed => k_is); (case ik_v_Closed => kit_is); (case ik_Closed__Closed => kit_is); (case ik_Closed__NoCell => kit_is); (case ik_Closed__NoHand => kit_is); (case ik_Closed__NoName => kit_is); (case ik_Closed__NoRoll => kit_is); (case ik_Closed__NoRoom => kit_is); (case ik_Closed__NoRow => kit_is); (case ik_Closed__NoSign => kit_is); (case ik_Closed__NoSize => kit_is); (case ik_Closed__OutError => kit_is); (case ik_Closed__Twice => kit_is); (case xs_Closed__OutError => k_is); (case x1_NoCell => k_is); (case x2_NoCell => k_is); (case x3_NoCell => k_is); (case x4_NoCell => k_is); (case x5_NoCell => k_is); (case x6_NoCell => k_is); (case x7_NoCell => k_is); (case x8_NoCell => k_is); (case x9_NoCell => k_is); (case ik_v_NoCell => kit_is); (case ik_NoCell__Closed => kit_is); (case ik_NoCell__NoCell => kit_is); (case ik_NoCell__NoHand => kit_is); (case ik_NoCell__NoName => kit_is); (case ik_NoCell__NoRoll => kit_is); (case ik_NoCell__NoRoom => kit_is); (case ik_NoCell__NoRow => kit_is); (case ik_NoCell__NoSign => kit_is); (case ik_NoCell__NoSize => kit_is); (case ik_NoCell__OutError => kit_is); (case ik_NoCell__Twice => kit_is); (case xs_NoCell__OutError => k_is); (case x1_NoHand => k_is); (case x2_NoHand => k_is); (case x3_NoHand => k_is); (case x4_NoHand => k_is); (case x5_NoHand => k_is); (case x6_NoHand => k_is); (case x7_NoHand => k_is); (case x8_NoHand => k_is); (case x9_NoHand => k_is); (case ik_v_NoHand => kit_is); (case ik_NoHand__Closed => kit_is); (case ik_NoHand__NoCell => kit_is); (case ik_NoHand__NoHand => kit_is); (case ik_NoHand__NoName => kit_is); (case ik_NoHand__NoRoll => kit_is); (case ik_NoHand__NoRoom => kit_is); (case ik_NoHand__NoRow => kit_is); (case ik_NoHand__NoSign => kit_is); (case ik_NoHand__NoSize => kit_is); (case ik_NoHand__OutError => kit_is); (case ik_NoHand__Twice => kit_is); (case xs_NoHand__OutError => k_is); (case x1_NoName => k_is); (case x2_NoName => k_is); (case x3_NoName => k_is); (case x4_NoName => k_is); (case x5_NoName => k_is); (case x6_NoName => k_is); (case x7_NoName => k_is); (case x8_NoName => k_is); (case x9_NoName => k_is); (case ik_v_NoName => kit_is); (case ik_NoName__Closed => kit_is); (case ik_NoName__NoCell => kit_is); (case ik_NoName__NoHand => kit_is); (case ik_NoName__NoName => kit_is); (case ik_NoName__NoRoll => kit_is); (case ik_NoName__NoRoom => kit_is); (case ik_NoName__NoRow => kit_is); (case ik_NoName__NoSign => kit_is); (case ik_NoName__NoSize => kit_is); (case ik_NoName__OutError => kit_is); (case ik_NoName__Twice => kit_is); (case xs_NoName__OutError => k_is); (case x1_NoRoll => k_is); (case x2_NoRoll => k_is); (case x3_NoRoll => k_is); (case x4_NoRoll => k_is); (case x5_NoRoll => k_is); (case x6_NoRoll => k_is); (case x7_NoRoll => k_is); (case x8_NoRoll => k_is); (case x9_NoRoll => k_is); (case ik_v_NoRoll => kit_is); (case ik_NoRoll__Closed => kit_is); (case ik_NoRoll__NoCell => kit_is); (case ik_NoRoll__NoHand => kit_is); (case ik_NoRoll__NoName => kit_is); (case ik_NoRoll__NoRoll => kit_is); (case ik_NoRoll__NoRoom => kit_is); (case ik_NoRoll__NoRow => kit_is); (case ik_NoRoll__NoSign => kit_is); (case ik_NoRoll__NoSize => kit_is); (case ik_NoRoll__OutError => kit_is); (case ik_NoRoll__Twice => kit_is); (case xs_NoRoll__OutError => k_is); (case x1_NoRoom => k_is); (case x2_NoRoom => k_is); (case x3_NoRoom => k_is); (case x4_NoRoom => k_is); (case x5_NoRoom => k_is); (case x6_NoRoom => k_is); (case x7_NoRoom => k_is); (case x8_NoRoom => k_is); (case x9_NoRoom => k_is); (case ik_v_NoRoom => kit_is); (case ik_NoRoom__Closed => kit_is); (case ik_NoRoom__NoCell => kit_is); (case ik_NoRoom__NoHand => kit_is); (case ik_NoRoom__NoName => kit_is); (case ik_NoRoom__NoRoll => kit_is); (case ik_NoRoom__NoRoom => kit_is); (case ik_NoRoom__NoRow => kit_is); (case ik_NoRoom__NoSign => kit_is); (case ik_NoRoom__NoSize => kit_is); (case ik_NoRoom__OutError => kit_is); (case ik_NoRoom__Twice => kit_is); (case xs_NoRoom__OutError => k_is); (case x1_NoRow => k_is); (case x2_NoRow => k_is); (case x3_NoRow => k_is); (case x4_NoRow => k_is); (case x5_NoRow => k_is); (case x6_NoRow => k_is); (case x7_NoRow => k_is); (case x8_NoRow => k_is); (case x9_NoRow => k_is); (case ik_v_NoRow => kit_is); (case ik_NoRow__Closed => kit_is); (case ik_NoRow__NoCell => kit_is); (case ik_NoRow__NoHand => kit_is); (case ik_NoRow__NoName => kit_is); (case ik_NoRow__NoRoll => kit_is); (case ik_NoRow__NoRoom => kit_is); (case ik_NoRow__NoRow => kit_is); (case ik_NoRow__NoSign => kit_is); (case ik_NoRow__NoSize => kit_is); (case ik_NoRow__OutError => kit_is); (case ik_NoRow__Twice => kit_is); (case xs_NoRow__OutError => k_is); (case x1_NoSign => k_is); (case x2_NoSign => k_is); (case x3_NoSign => k_is); (case x4_NoSign => k_is); (case x5_NoSign => k_is); (case x6_NoSign => k_is); (case x7_NoSign => k_is); (case x8_NoSign => k_is); (case x9_NoSign => k_is); (case ik_v_NoSign => kit_is); (case ik_NoSign__Closed => kit_is); (case ik_NoSign__NoCell => kit_is); (case ik_NoSign__NoHand => kit_is); (case ik_NoSign__NoName => kit_is); (case ik_NoSign__NoRoll => kit_is); (case ik_NoSign__NoRoom => kit_is); (case ik_NoSign__NoRow => kit_is); (case ik_NoSign__NoSign => kit_is); (case ik_NoSign__NoSize => kit_is); (case ik_NoSign__OutError => kit_is); (case ik_NoSign__Twice => kit_is); (case xs_NoSign__OutError => k_is); (case x1_NoSize => k_is); (case x2_NoSize => k_is); (case x3_NoSize => k_is); (case x4_NoSize => k_is); (case x5_NoSize => k_is); (case x6_NoSize => k_is); (case x7_NoSize => k_is); (case x8_NoSize => k_is); (case x9_NoSize => k_is); (case ik_v_NoSize => kit_is); (case ik_NoSize__Closed => kit_is); (case ik_NoSize__NoCell => kit_is); (case ik_NoSize__NoHand => kit_is); (case ik_NoSize__NoName => kit_is); (case ik_NoSize__NoRoll => kit_is); (case ik_NoSize__NoRoom => kit_is); (case ik_NoSize__NoRow => kit_is); (case ik_NoSize__NoSign => kit_is); (case ik_NoSize__NoSize => kit_is); (case ik_NoSize__OutError => kit_is); (case ik_NoSize__Twice => kit_is); (case xs_NoSize__OutError => k_is); (case x1_Twice => k_is); (case x2_Twice => k_is); (case x3_Twice => k_is); (case x4_Twice => k_is); (case x5_Twice => k_is); (case x6_Twice => k_is); (case x7_Twice => k_is); (case x8_Twice => k_is); (case x9_Twice => k_is); (case ik_v_Twice => kit_is); (case ik_Twice__Closed => kit_is); (case ik_Twice__NoCell => kit_is); (case ik_Twice__NoHand => kit_is); (case ik_Twice__NoName => kit_is); (case ik_Twice__NoRoll => kit_is); (case ik_Twice__NoRoom => kit_is); (case ik_Twice__NoRow => kit_is); (case ik_Twice__NoSign => kit_is); (case ik_Twice__NoSize => kit_is); (case ik_Twice__OutError => kit_is); (case ik_Twice__Twice => kit_is); (case xs_Twice__OutError => k_is); (case xf_at__Closed => k_is); (case xf_at__NoCell => k_is); (case xf_at__NoHand => k_is); (case xf_at__NoName => k_is); (case xf_at__NoRoll => k_is); (case xf_at__NoRoom => k_is); (case xf_at__NoRow => k_is); (case xf_at__NoSign => k_is); (case xf_at__NoSize => k_is); (case xf_at__Twice => k_is); (case a1_NoSign_init => k_is); (case a5_NoSign_init => k_is); (case a2_NoSign_init => k_is); (case a3_NoSign_init => k_is); (case a4_NoSign_init => k_is); (case xl_NoSign => k_is); (case xw_NoSign => k_is); (case xt_NoSign => k_is); (case xq_NoSign => k_is); (case xn_NoSign => k_is); (case a1_NoHand_init => k_is); (case a5_NoHand_init => k_is); (case a2_NoHand_init => k_is); (case a3_NoHand_init => k_is); (case a4_NoHand_init => k_is); (case xl_NoHand => k_is); (case xw_NoHand => k_is); (case xt_NoHand => k_is); (case xq_NoHand => k_is); (case xn_NoHand => k_is); (case a1_Twice_init => k_is); (case a5_Twice_init => k_is); (case a2_Twice_init => k_is); (case a3_Twice_init => k_is); (case a4_Twice_init => k_is); (case xl_Twice => k_is); (case xw_Twice => k_is); (case xt_Twice => k_is); (case xq_Twice => k_is); (case xn_Twice => k_is); (case a1_Closed_init => k_is); (case a5_Closed_init => k_is); (case a2_Closed_init => k_is); (case a3_Closed_init => k_is); (case a4_Closed_init => k_is); (case xl_Closed => k_is); (case xw_Closed => k_is); (case xt_Closed => k_is); (case xq_Closed => k_is); (case xn_Closed => k_is); (case a1_NoRoom_init => k_is); (case a5_NoRoom_init => k_is); (case a2_NoRoom_init => k_is); (case a3_NoRoom_init => k_is); (case a4_NoRoom_init => k_is); (case xl_NoRoom => k_is); (case xw_NoRoom => k_is); (case xt_NoRoom => k_is); (case xq_NoRoom => k_is); (case xn_NoRoom => k_is); (case a1_NoRoll_init => k_is); (case a5_NoRoll_init => k_is); (case a2_NoRoll_init => k_is); (case a3_NoRoll_init => k_is); (case a4_NoRoll_init => k_is); (case xl_NoRoll => k_is); (case xw_NoRoll => k_is); (case xt_NoRoll => k_is); (case xq_NoRoll => k_is); (case xn_NoRoll => k_is); (case rd_OutError => k_is); (case ga_OutError => k_is); (case bi_OutError => k_is); (case xm1_OutError => k_is); (case xm2_OutError => k_is); (case xm3_OutError => k_is); (case xp_NoRow => k_exc); (case xq_NoRow => k_is); (case xt_NoRow => k_is); (case xp_NoCell => k_exc); (case xq_NoCell => k_is); (case xt_NoCell => k_is); (case xp_NoSize => k_exc); (case xq_NoSize => k_is); (case xt_NoSize => k_is); (case xp_NoName => k_exc); (case xq_NoName => k_is); (case xt_NoName => k_is); (case gc_Reader => k_is); (case a1_is_sign => k_is); (case a2_is_sign => k_is); (case a3_is_sign => k_is); (case a4_is_sign => k_is); (case a1_is_colour => k_is); (case a2_is_colour => k_is); (case a3_is_colour => k_is); (case a4_is_colour => k_is); (case a1_checked__X1 => k_is); (case a2_checked__X1 => k_is); (case a3_checked__X1 => k_is); (case a4_checked__X1 => k_is); (case a1_checked => k_is); (case a2_checked => k_is); (case a3_checked => k_is); (case a4_checked => k_is); (case a1_sign_item => k_is); (case a2_sign_item => k_is); (case a3_sign_item => k_is); (case a4_sign_item => k_is); (case a1_begins_mark => k_is); (case a2_begins_mark => k_is); (case a3_begins_mark => k_is); (case a4_begins_mark => k_is); (case a1_mark_item => k_is); (case a2_mark_item => k_is); (case a3_mark_item => k_is); (case a4_mark_item => k_is); (case a1_Reader_init => k_is); (case a5_Reader_init => k_is); (case a2_Reader_init => k_is); (case a3_Reader_init => k_is); (case a4_Reader_init => k_is); (case a1_Reader_held_text => k_is); (case a5_Reader_held_text => k_is); (case a2_Reader_held_text => k_is); (case a3_Reader_held_text => k_is); (case a4_Reader_held_text => k_is); (case a1_Reader_told => k_is); (case a5_Reader_told => k_is); (case a2_Reader_told => k_is); (case a3_Reader_told => k_is); (case a4_Reader_told => k_is); (case a1_Reader_take => k_is); (case a5_Reader_take => k_is); (case a2_Reader_take => k_is); (case a3_Reader_take => k_is); (case a4_Reader_take => k_is); (case a1_Reader_feed__X1 => k_is); (case a5_Reader_feed__X1 => k_is); (case a2_Reader_feed__X1 => k_is); (case a3_Reader_feed__X1 => k_is); (case a4_Reader_feed__X1 => k_is); (case a1_Reader_feed => k_is); (case a5_Reader_feed => k_is); (case a2_Reader_feed => k_is); (case a3_Reader_feed => k_is); (case a4_Reader_feed => k_is); (case a1_Reader_finish => k_is); (case a5_Reader_finish => k_is); (case a2_Reader_finish => k_is); (case a3_Reader_finish => k_is); (case a4_Reader_finish => k_is); (case a1_items_of__X1 => k_is); (case a2_items_of__X1 => k_is); (case a3_items_of__X1 => k_is); (case a4_items_of__X1 => k_is); (case a1_lw_cell => k_is); (case a2_lw_cell => k_is); (case a3_lw_cell => k_is); (case a4_lw_cell => k_is); (case a1_lw_mix => k_is); (case a2_lw_mix => k_is); (case a3_lw_mix => k_is); (case a4_lw_mix => k_is); (case a1_lw_signs => k_is); (case a2_lw_signs => k_is); (case a3_lw_signs => k_is); (case a4_lw_signs => k_is); (case a1_lw_token => k_is); (case a2_lw_token => k_is); (case a3_lw_token => k_is); (case a4_lw_token => k_is); (case a1_lw_item => k_is); (case a2_lw_item => k_is); (case a3_lw_item => k_is); (case a4_lw_item => k_is); (case a1_lw_items => k_is); (case a2_lw_items => k_is); (case a3_lw_items => k_is); (case a4_lw_items => k_is); (case a1_lw_whole => k_is); (case a2_lw_whole => k_is); (case a3_lw_whole => k_is); (case a4_lw_whole => k_is); (case a1_lw_same => k_is); (case a2_lw_same => k_is); (case a3_lw_same => k_is); (case a4_lw_same => k_is); (case a1_lw_did => k_is); (case a2_lw_did => k_is); (case a3_lw_did => k_is); (case a4_lw_did => k_is); (case a1_lw_refused => k_is); (case a2_lw_refused => k_is); (case a3_lw_refused => k_is); (case a4_lw_refused => k_is); (case a1_lw_by_hand => k_is); (case a2_lw_by_hand => k_is); (case a3_lw_by_hand => k_is); (case a4_lw_by_hand => k_is); (case a1_lw_spoilt => k_is); (case a2_lw_spoilt => k_is); (case a3_lw_spoilt => k_is); (case a4_lw_spoilt => k_is); (case a1_law => k_is); (case a2_law => k_is); (case a3_law => k_is); (case a4_law => k_is); (case z_ValueError => k_is); (case z_bool => k_is); (case z_enumerate => k_is); (case z_int => k_is); (case z_isinstance => k_is); (case z_len => k_is); (case z_list => k_is); (case z_range => k_is); (case z_str => k_is); (case z_tuple => k_is); (case k_COLOURS => k_is); (case k_CONTROLS => k_is); (case k1_ENDS => k_is); (case k2_ENDS => k_is); (case k4_ENDS => rfl); (case k3_ENDS => repeat' (first | exact True.intro | exact ⟨_, rfl, rfl⟩ | exact ⟨_, rfl⟩ | refine ⟨?_, ?_, ?_⟩)); (case k_FIRST => k_is); (case k_LAST => k_is); (case pg_Reader => k_is); (case hd_Reader => k_is); (case po_Reader => k_is); (case sa_Reader => k_is); (case na_Reader_kept => k_is); (case na_Reader_place => k_is); (case mi_Reader => k_is); (case kc_Reader => k_is)


